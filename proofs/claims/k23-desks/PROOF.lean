import PyProof.Rows.All
import HandS.ForMost
import HandS.ForExc
import HandS.Zip
import HandS.Walk
import HandS.IsInst
import HandS.TupAny
import HandS.TupMul
import HandS.CallSlots
import HandS.Flow
import HandS.Wide
import HandS.Deep
import HandS.Strs
import HandS.Style
import HandS.More
import PyProof.Rows.StrMeet
import HandS.Lambda
import HandS.ExcIs
import HandS.EndTab
import KE.KNest
import KE.GoesEnum
import HandS.FStr
import KE.KCallOwn
import HandS.ExcOwn
import PyProof.ExcBaseAll.ValueError
import HandS.WordsExc
import KE.KNestM
import PySem.Challenge.RW_strikesout_k23_desks
set_option Elab.async false
set_option linter.all false
set_option maxRecDepth 100000
/-! Lt, part A: values, the small heap, the syntax without places, the evaluator. -/
namespace Lt
open PySem

inductive Ky where
  | int (i : Int) | str (s : Str) | tup (ks : List Ky)

inductive D where
  | non | bl (b : Bool) | int (i : Int) | str (s : Str)
  | tup (xs : List D) | lst (xs : List D) | dic (t : Nat) (kvs : List (Ky × D))
  | loc (n : Nat) | scr (ns : List Int) | fn (f : String) | ty (n : String) | wt (xs : List D)
  | exc (x : String) | adr (a : Nat)
deriving Inhabited

inductive MObj where
  | lst (xs : List D) | dic (t : Nat) (kvs : List (Ky × D)) | ins (c : String) (fs : List (Str × D))
  /-- a dict that was walked: read alone -/
  | fdic (t : Nat) (kvs : List (Ky × D))

abbrev MHeap := List MObj
abbrev Env := List (Option D)

inductive Out (α : Type) where
  | ok (a : α) (h : MHeap)
  | ex (x : String) (h : MHeap)
  | fail

def Out.bind {α β : Type} : Out α → (α → MHeap → Out β) → Out β
  | .ok a h, f => f a h
  | .ex x h, _ => .ex x h
  | .fail, _ => .fail
def Out.of {α : Type} (o : Option α) (h : MHeap) : Out α :=
  match o with
  | some a => .ok a h
  | none => .fail

mutual
def Ky.beq : Ky → Ky → Bool
  | .int i, .int j => decide (i = j)
  | .str i, .str j => decide (i = j)
  | .tup i, .tup j => Ky.beqL i j
  | _, _ => false
def Ky.beqL : List Ky → List Ky → Bool
  | [], [] => true
  | a :: r, b :: s => Ky.beq a b && Ky.beqL r s
  | _, _ => false
end
mutual
def D.key : D → Option Ky
  | .int i => some (.int i)
  | .str s => some (.str s)
  | .tup xs => match D.keyL xs with
    | some ks => some (.tup ks)
    | none => none
  | _ => none
def D.keyL : List D → Option (List Ky)
  | [] => some []
  | x :: r => match D.key x, D.keyL r with
    | some k, some ks => some (k :: ks)
    | _, _ => none
end
mutual
def Ky.d : Ky → D
  | .int i => .int i
  | .str s => .str s
  | .tup ks => .tup (Ky.dL ks)
def Ky.dL : List Ky → List D
  | [] => []
  | k :: r => Ky.d k :: Ky.dL r
end

/-- 0: an int, a text; 1: a tuple of such; 2: any other -/
def Ky.kind : Ky → Nat
  | .int _ => 0
  | .str _ => 0
  | .tup ks => if ks.all (fun k => match k with | .tup _ => false | _ => true) then 1 else 2

/-- plain data, no deeper than n -/
def okD : Nat → D → Bool
  | _, .non => true
  | _, .bl _ => true
  | _, .int _ => true
  | _, .str s => s.cps.all (· < 0x110000)
  | n + 1, .tup xs => xs.all (okD n)
  | n + 1, .lst xs => xs.all (okD n)
  | _, _ => false

mutual
/-- Python's == of plain data -/
def deq : D → D → Bool
  | .non, .non => true
  | .bl a, .bl b => a == b
  | .bl a, .int j => (if a then 1 else 0) == j
  | .int i, .bl b => i == (if b then 1 else 0)
  | .int i, .int j => i == j
  | .str x, .str y => x == y
  | .lst xs, .lst ys => deqL xs ys
  | .tup xs, .tup ys => deqL xs ys
  | _, _ => false
def deqL : List D → List D → Bool
  | [], [] => true
  | x :: xs, y :: ys => deq x y && deqL xs ys
  | _, _ => false
end

mutual
/-- no location in it -/
def D.free : D → Bool
  | .tup xs => D.freeL xs
  | .lst xs => D.freeL xs
  | .dic _ kvs => D.freeP kvs
  | .wt _ => false
  | .loc _ => false
  | _ => true
def D.freeL : List D → Bool
  | [] => true
  | x :: r => D.free x && D.freeL r
def D.freeP : List (Ky × D) → Bool
  | [] => true
  | (_, x) :: r => D.free x && D.freeP r
end

section
mutual
/-- what stands at locations from n on, by value (g: what is one step deeper) -/
def D.frz (g : Nat → Option D) (n : Nat) : D → Option D
  | .tup xs => match D.frzL g n xs with
    | some ys => some (.tup ys)
    | none => none
  | .lst xs => match D.frzL g n xs with
    | some ys => some (.lst ys)
    | none => none
  | .dic t kvs => match D.frzP g n kvs with
    | some ys => some (.dic t ys)
    | none => none
  | .loc k => if k < n then some (.loc k) else g k
  | .wt _ => none
  | d => some d
def D.frzL (g : Nat → Option D) (n : Nat) : List D → Option (List D)
  | [] => some []
  | x :: r => match D.frz g n x, D.frzL g n r with
    | some y, some s => some (y :: s)
    | _, _ => none
def D.frzP (g : Nat → Option D) (n : Nat) : List (Ky × D) → Option (List (Ky × D))
  | [] => some []
  | (k, x) :: r => match D.frz g n x, D.frzP g n r with
    | some y, some s => some ((k, y) :: s)
    | _, _ => none
end
end
/-- the object at a location from n on, by value; m: how deep -/
def frzAt (h : MHeap) (n : Nat) : Nat → Nat → Option D
  | 0, _ => none
  | m + 1, k => match h[k]? with
    | some (.lst xs) => match D.frzL (frzAt h n m) n xs with
      | some ys => some (.lst ys)
      | none => none
    | some (.dic t kvs) => match D.frzP (frzAt h n m) n kvs with
      | some ys => some (.dic t ys)
      | none => none
    | some (.fdic t kvs) => match D.frzP (frzAt h n m) n kvs with
      | some ys => some (.dic t ys)
      | none => none
    | _ => none
def frz (h : MHeap) (n : Nat) (d : D) : Option D := D.frz (frzAt h n 4) n d

mutual
/-- all locations in it lie below n -/
def D.low (n : Nat) : D → Bool
  | .tup xs => D.lowL n xs
  | .lst xs => D.lowL n xs
  | .dic _ kvs => D.lowP n kvs
  | .loc k => decide (k < n)
  | .wt _ => false
  | _ => true
def D.lowL (n : Nat) : List D → Bool
  | [] => true
  | x :: r => D.low n x && D.lowL n r
def D.lowP (n : Nat) : List (Ky × D) → Bool
  | [] => true
  | (_, x) :: r => D.low n x && D.lowP n r
end
def MObj.low (n : Nat) : MObj → Bool
  | .lst xs => D.lowL n xs
  | .dic _ kvs => D.lowP n kvs
  | .ins _ fs => fs.all fun p => D.low n p.2
  | .fdic _ kvs => D.lowP n kvs

/-! ### operations -/
def LINE : Nat := 16777216
def BIG : Nat := 10000000

def seqOf (h : MHeap) : D → Option (List D)
  | .lst xs => some xs
  | .loc n => match h[n]? with
    | some (.lst xs) => some xs
    | _ => none
  | _ => none
def dicOf (h : MHeap) : D → Option (Nat × List (Ky × D))
  | .dic t kvs => some (t, kvs)
  | .loc n => match h[n]? with
    | some (.dic t kvs) => some (t, kvs)
    | some (.fdic t kvs) => some (t, kvs)
    | _ => none
  | _ => none
/-- a list, a tuple, by its items -/
def itemsOf (h : MHeap) : D → Option (List D)
  | .tup xs => some xs
  | .scr ns => some (ns.map .int)
  | d => seqOf h d
def D.loc? : D → Option Nat
  | .loc n => some n
  | _ => none
/-- a list location is looked into -/
def res (h : MHeap) : D → D
  | .loc n => match h[n]? with
    | some (.lst xs) => .lst xs
    | _ => .loc n
  | d => d

/-- a new list: a location if it is to be changed -/
def mkL (own : Bool) (xs : List D) (h : MHeap) : Out D :=
  if xs.length ≤ BIG then (if own then .ok (.loc h.length) (h ++ [.lst xs]) else .ok (.lst xs) h) else .fail
def mkT (xs : List D) (h : MHeap) : Out D := if xs.length ≤ BIG then .ok (.tup xs) h else .fail

def mulOk (i j : Int) : Bool :=
  decide (i.natAbs < 2 ^ 64) || decide (j.natAbs < 2 ^ 64) || (decide (i.natAbs < 2 ^ 9000) && decide (j.natAbs < 2 ^ 9000))
def divOk (j : Int) : Bool := decide (j ≠ 0) && decide (j.natAbs < 1073741824)

def binD (own : Bool) (op : Operator) (x y : D) (h : MHeap) : Out D :=
  match op, x, y with
  | .Add, .int i, .int j => .ok (.int (i + j)) h
  | .Add, .str i, .str j => if i.length + j.length ≤ BIG then .ok (.str (i ++ j)) h else .fail
  | .Add, .tup xs, .tup ys => mkT (xs ++ ys) h
  | .Add, x, y => match seqOf h x, seqOf h y with
    | some xs, some ys => mkL own (xs ++ ys) h
    | _, _ => .fail
  | .Sub, .int i, .int j => .ok (.int (i - j)) h
  | .Mult, .int i, .int j => if mulOk i j then .ok (.int (i * j)) h else .fail
  | .Mult, .tup xs, .int k => if decide (xs ≠ []) && decide (2 ≤ k) && decide (k ≤ 1000) && decide (xs.length ≤ 1000) then .ok (.tup (List.replicate k.toNat xs).flatten) h else .fail
  | .Mult, x, .int k => match seqOf h x with
    | some xs => if decide (0 ≤ k) && decide (k ≤ 1000) && decide (xs.length ≤ 1000) then mkL own (List.replicate k.toNat xs).flatten h else .fail
    | none => .fail
  | .FloorDiv, .int i, .int j => if divOk j then .ok (.int (i.fdiv j)) h else .fail
  | .Mod, .int i, .int j => if j = 0 then .fail else .ok (.int (i.fmod j)) h
  | .Pow, .int i, .int j => if decide (0 ≤ j) && decide (j ≤ 1000000) && decide (i.natAbs < 2 ^ 64) then .ok (.int (i ^ j.toNat)) h else .fail
  | _, _, _ => .fail

def truD (h : MHeap) : D → Option Bool
  | .non => some false
  | .bl b => some b
  | .int i => some (i != 0)
  | .str s => if s.length ≤ BIG then some (s.length != 0) else none
  | .tup xs => some (!xs.isEmpty)
  | .lst xs => some (!xs.isEmpty)
  | .scr ns => some (!ns.isEmpty)
  | .loc n => match h[n]? with
    | some (.lst xs) => some (!xs.isEmpty)
    | some (.dic 0 kvs) => some (!kvs.isEmpty)
    | _ => none
  | _ => none

def lookK (kvs : List (Ky × D)) (k : Ky) : Option D := (kvs.find? fun p => Ky.beq p.1 k).map (·.2)
def putKy (kvs : List (Ky × D)) (k : Ky) (v : D) : List (Ky × D) :=
  if kvs.any fun p => Ky.beq p.1 k then kvs.map fun p => if Ky.beq p.1 k then (p.1, v) else p else kvs ++ [(k, v)]

/-- text order -/
def strLt (a b : Str) : Bool := decide (a.cps.toList < b.cps.toList)

def eqD (h : MHeap) (x y : D) : Option Bool :=
  if okD 64 (res h x) && okD 64 (res h y) then some (deq (res h x) (res h y)) else none
def inD (h : MHeap) (x y : D) : Option Bool :=
  match y with
  | .str z => match x with
    | .str c => match c.cps.toList with
      | [n] => some (decide (n ∈ z.cps.toList))
      | _ => none
    | _ => none
  | y => match itemsOf h y with
    | some ys => if okD 60 (res h x) && ys.all (okD 60) then some (ys.any fun y => deq y (res h x)) else none
    | none => match dicOf h y, x.key with
      | some (t, kvs), some k => if k.kind = t then some (lookK kvs k).isSome else none
      | _, _ => none

def cmpD (op : CmpOp) (x y : D) (h : MHeap) : Option Bool :=
  match op with
  | .Eq => eqD h x y
  | .NotEq => (eqD h x y).map (!·)
  | .Lt => match x, y with
    | .int i, .int j => some (decide (i < j))
    | .str i, .str j => some (strLt i j)
    | _, _ => none
  | .LtE => match x, y with
    | .int i, .int j => some (decide (i ≤ j))
    | _, _ => none
  | .Gt => match x, y with
    | .int i, .int j => some (decide (j < i))
    | _, _ => none
  | .GtE => match x, y with
    | .int i, .int j => some (decide (j ≤ i))
    | _, _ => none
  | .Is => match y with
    | .non => match x with
      | .non => some true
      | _ => some false
    | _ => none
  | .IsNot => match y with
    | .non => match x with
      | .non => some false
      | _ => some true
    | _ => none
  | .In => inD h x y
  | .NotIn => (inD h x y).map (!·)

/-- isinstance(x, T) for a built-in class -/
def isD (h : MHeap) (x : D) (t : String) : Option Bool :=
  match x with
  | .non => some (decide (t = "NoneType"))
  | .bl _ => some (decide (t = "bool") || decide (t = "int"))
  | .int _ => some (decide (t = "int"))
  | .str _ => some (decide (t = "str"))
  | .tup _ => some (decide (t = "tuple"))
  | .lst _ => some (decide (t = "list"))
  | _ => none

def lenD (h : MHeap) (x : D) : Option Nat :=
  match x with
  | .str s => if s.length ≤ BIG then some s.length else none
  | x => match itemsOf h x with
    | some xs => some xs.length
    | none => match x with
      | .loc n => match h[n]? with
        | some (.dic 0 kvs) => some kvs.length
        | _ => none
      | _ => none

def bools : List D → Option (List Bool)
  | [] => some []
  | .bl b :: r => (bools r).map (b :: ·)
  | _ => none
def intsD : List D → Option (List Int)
  | [] => some []
  | .int b :: r => (intsD r).map (b :: ·)
  | _ => none

def strsD : List D → Option (List Str)
  | [] => some []
  | .str b :: r => (strsD r).map (b :: ·)
  | _ => none

/-! ### orders -/
def minI (i : Int) : List Int → Int
  | [] => i
  | j :: r => minI (if j < i then j else i) r
def maxI (i : Int) : List Int → Int
  | [] => i
  | j :: r => maxI (if i < j then j else i) r
def insS (x : Str) : List Str → List Str
  | [] => [x]
  | y :: r => if strLt y x then y :: insS x r else x :: y :: r
def sortS : List Str → List Str
  | [] => []
  | x :: r => insS x (sortS r)
def keyS : List (Ky × D) → Option (List Str)
  | [] => some []
  | (.str s, _) :: r => (keyS r).map (s :: ·)
  | _ => none
def minD (x : D) (h : MHeap) : Option D :=
  match seqOf h x with
  | some ys => match intsD ys with
    | some (i :: r) => some (.int (minI i r))
    | _ => none
  | none => none
def maxD (x : D) (h : MHeap) : Option D :=
  match seqOf h x with
  | some ys => match intsD ys with
    | some (i :: r) => some (.int (maxI i r))
    | _ => none
  | none => none
def sortD (own : Bool) (x : D) (h : MHeap) : Out D :=
  match dicOf h x with
  | some (0, kvs) => match keyS kvs with
    | some ks => if ks.length < 64 then mkL own ((sortS ks).map .str) h else .fail
    | none => .fail
  | _ => .fail
/-- the refusals -/
def exNames : List String := ["NoSide", "NoChoice", "NoLeft", "NoRule", "NoStrike", "Muddled", "Ended", "NoNumbers", "Unlike", "BadTable", "NoNumber", "Same", "NoBack", "NoText"]
/-- a call of a built-in -/
def bltD (own : Bool) (f : String) (xs : List D) (h : MHeap) : Out D :=
  match f, xs with
  | "isinstance", [x, .ty t] => if ["int", "bool", "str", "tuple", "list"].contains t then Out.of ((isD h x t).map .bl) h else .fail
  | "len", [x] => Out.of ((lenD h x).map fun (n : Nat) => .int (n : Int)) h
  | "all", [x] => match seqOf h x with
    | some ys => Out.of ((bools ys).map fun bs => .bl (bs.all id)) h
    | none => .fail
  | "any", [x] => match seqOf h x with
    | some ys => Out.of ((bools ys).map fun bs => .bl (bs.any id)) h
    | none => .fail
  | "tuple", [.tup xs] => .ok (.tup xs) h
  | "tuple", [x] => match seqOf h x with
    | some ys => .ok (.tup ys) h
    | none => .fail
  | "list", [x] => match itemsOf h x with
    | some ys => mkL own ys h
    | none => .fail
  | "min", [x] => Out.of (minD x h) h
  | "max", [x] => Out.of (maxD x h) h
  | "sorted", [x] => sortD own x h
  | "abs", [.int i] => .ok (.int (if i < 0 then -i else i)) h
  | "int", [.int i] => .ok (.int i) h
  | "int", [.bl k] => .ok (.int (if k then 1 else 0)) h
  | _, _ => .fail

def getD (o i : D) (h : MHeap) : Option D :=
  match o, i with
  | .str z, .int k => if z.length ≤ BIG then (L2.atI z.cps.toList k).map fun c => .str ⟨#[c]⟩ else none
  | o, i => match itemsOf h o with
    | some xs => match i with
      | .int k => L2.atI xs k
      | _ => none
    | none => match dicOf h o, i.key with
      | some (t, kvs), some k => if k.kind = t then lookK kvs k else none
      | _, _ => none

def cutX {α : Type} (xs : List α) (lo hi : Option Int) : List α := (xs.drop (HT.sIx xs.length 0 lo)).take (HT.sIx xs.length xs.length hi - HT.sIx xs.length 0 lo)

def cutD (own : Bool) (x : D) (lo hi : Option Int) (h : MHeap) : Out D :=
  match x with
  | .tup xs => .ok (.tup (cutX xs lo hi)) h
  | x => match seqOf h x with
    | some xs => mkL own (cutX xs lo hi) h
    | none => .fail
def revD (own : Bool) (x : D) (h : MHeap) : Out D :=
  match x with
  | .tup xs => .ok (.tup xs.reverse) h
  | x => match seqOf h x with
    | some xs => mkL own xs.reverse h
    | none => .fail

/-- {k: v, ..}: the items by turns -/
def pairUp (t : Nat) : List D → Option (List (Ky × D))
  | [] => some []
  | k :: v :: r => match k.key, pairUp t r with
    | some k, some kvs => if k.kind = t then some ((k, v) :: kvs) else none
    | _, _ => none
  | _ => none
def mkD (own : Bool) (t : Nat) (kvs : List (Ky × D)) (h : MHeap) : Out D :=
  if own then .ok (.loc h.length) (h ++ [.dic t kvs]) else .ok (.dic t kvs) h
def dispD (own : Bool) (t : Nat) (xs : List D) (h : MHeap) : Out D :=
  match pairUp t xs with
  | some kvs => if kvs.length ≤ 15 && (kvs.isEmpty || t == 0) then mkD own t (kvs.foldl (fun acc kv => putKy acc kv.1 kv.2) []) h else .fail
  | none => .fail

/-! ### methods -/
def appD (o : D) (xs : List D) (h : MHeap) : Out D :=
  match o, xs with
  | .loc n, [x] => match h[n]? with
    | some (.lst ys) => if ys.length < BIG then .ok .non (h.set n (.lst (ys ++ [x]))) else .fail
    | _ => .fail
  | _, _ => .fail
def extD (o : D) (xs : List D) (h : MHeap) : Out D :=
  match o, xs with
  | .loc n, [x] => match h[n]? with
    | some (.lst ys) => match seqOf h x with
      | some zs => if ys.length + zs.length ≤ BIG then .ok .non (h.set n (.lst (ys ++ zs))) else .fail
      | none => .fail
    | _ => .fail
  | _, _ => .fail
def dgetD (o : D) (xs : List D) (h : MHeap) : Out D :=
  match xs with
  | [k, x] => match dicOf h o, k.key with
    | some (t, kvs), some k => if k.kind = t then .ok ((lookK kvs k).getD x) h else .fail
    | _, _ => .fail
  | _ => .fail
def updD (o : D) (xs : List D) (h : MHeap) : Out D :=
  match o, xs with
  | .loc n, [x] => match h[n]? with
    | some (.dic t kvs) => match dicOf h x with
      | some (u, ls) => if decide (t = 0) && decide (u = 0) && decide (kvs.length + ls.length ≤ BIG) && decide (x.loc? ≠ some n) then .ok .non (h.set n (.dic t (ls.foldl (fun acc kv => putKy acc kv.1 kv.2) kvs))) else .fail
      | none => .fail
    | _ => .fail
  | _, _ => .fail
def idxD (o : D) (xs : List D) (h : MHeap) : Out D :=
  match o, xs with
  | .tup xs, [.str x] => match strsD xs with
    | some ys => if ys.contains x then .ok (.int (ys.idxOf x : Nat)) h else .fail
    | none => .fail
  | _, _ => .fail
/-- o.pop() -/
def popD (o : D) (h : MHeap) : Out D :=
  match o with
  | .loc n => match h[n]? with
    | some (.lst ys) => match ys[ys.length - 1]? with
      | some y => .ok y (h.set n (.lst ys.dropLast))
      | none => .fail
    | _ => .fail
  | _ => .fail
/-- o.m(..) of a list, a dict -/
def methD (m : String) (o : D) (xs : List D) (h : MHeap) : Out D :=
  match m with
  | "append" => appD o xs h
  | "extend" => extD o xs h
  | "get" => dgetD o xs h
  | "index" => idxD o xs h
  | "update" => updD o xs h
  | _ => .fail

/-- isinstance(x, Y), Y a class of refusals or ValueError -/
def isxD (y : String) (x : D) : Option D :=
  match x with
  | .exc x => if exNames.contains x && exNames.contains y then some (.bl (decide (x = y))) else if exNames.contains x && y == "ValueError" then some (.bl true) else none
  | _ => none
/-- the receiver is of the kind that has the method -/
def recvD (m : String) (o : D) (h : MHeap) : Bool :=
  match m with
  | "append" => (seqOf h o).isSome
  | "extend" => (seqOf h o).isSome
  | "update" => match dicOf h o with
    | some (t, _) => t == 0
    | none => false
  | "get" => match dicOf h o with
    | some (t, _) => t == 0
    | none => false
  | "index" => match o with
    | .tup _ => true
    | _ => false
  | _ => false

def putD (o i v : D) (h : MHeap) : Option MHeap :=
  match o with
  | .loc n => match h[n]? with
    | some (.dic t kvs) => match i.key with
      | some k => if decide (k.kind = t) && decide (kvs.length < BIG) then some (h.set n (.dic t (putKy kvs k v))) else none
      | none => none
    | some (.lst xs) => match i with
      | .int k => (L2.ixN xs.length k).map fun j => h.set n (.lst (xs.set j v))
      | _ => none
    | _ => none
  | _ => none

/-! ### syntax without places -/
inductive MT where
  | name (i : Nat) | tup (ts : List MT)
mutual
inductive ME where
  | var (i : Nat)
  | non | bl (b : Bool) | int (i : Int) | str (s : Str)
  | glob (x : String) | ty (n : String)
  | heard (b : ME) | isx (a : ME) (y : String) | inG (neg : Bool) (a : ME) (x : String)
  | bin (own : Bool) (op : Operator) (a b : ME)
  | neg (a : ME) | not (a : ME)
  | and (as : MEs) | or (as : MEs)
  | ite (c a b : ME)
  | cmp (op : CmpOp) (a b : ME) | chain (o1 o2 : CmpOp) (a b c : ME)
  | tup (as : MEs) | lst (own : Bool) (as : MEs) | dic (own : Bool) (t : Nat) (kvs : MEs)
  | call (f : String) (as : MEs) | blt (own : Bool) (f : String) (as : MEs) | meth (m : String) (o : ME) (as : MEs)
  | ix (a i : ME) | cut (own : Bool) (a : ME) (lo hi : MO) | rev (own : Bool) (a : ME)
  | comp (own : Bool) (elt : ME) (tg : MT) (it : MI) (ifs : MEs) (vs : List Nat)
  | comp2 (own : Bool) (elt : ME) (tg : MT) (it : MI) (tg1 : MT) (it1 : MI) (vs vs1 : List Nat)
  | fld (o : ME) (f : Str) | mcall (f : String) (m : Str) (o : ME) (as : MEs) | make (f : String) (as : MEs)
  | lenO (f : String) (o : ME) | strO (f : String) (o : ME) | fstr (as : MEs)
  | pop (o : ME)
inductive MEs where
  | nil | cons (a : ME) (as : MEs)
inductive MO where
  | none | some (e : ME)
inductive MI where
  | val (e : ME) | range1 (e : ME) | range2 (a b : ME) | enum (e : ME) | zip (a b : ME)
end

mutual
inductive MS where
  | set (i : Nat) (e : ME)
  | unp (ts : List MT) (e : ME)
  | par (is : List Nat) (es : MEs)
  | put (o i e : ME)
  | aug (i : Nat) (op : Operator) (e : ME)
  | expr (e : ME) | ret (e : ME) | retN | pass
  | ite (c : ME) (a b : MSs)
  | for (tg : MT) (it : MI) (body : MSs)
  | while (c : ME) (body : MSs)
  | raise (x : String)
  | never
  | setf (o : ME) (f : Str) (e : ME)
inductive MSs where
  | nil | cons (s : MS) (r : MSs)
end

/-! ### the evaluator -/
structure Calls where
  fn : String → List D → MHeap → Out D
  cst : String → Option D
  wf : Nat
  /-- the text's tuples of texts -/
  tcs : String → Option (List Str)
  /-- the text's class -/
  cn : String := ""

/-! ### instances of the class -/
def insOf (cn : String) (h : MHeap) : D → Option (List (Str × D))
  | .loc n => match h[n]? with
    | some (.ins c fs) => if c = cn then some fs else none
    | _ => none
  | _ => none
def putFd (f : Str) (v : D) : List (Str × D) → List (Str × D)
  | [] => [(f, v)]
  | (g, x) :: r => if g = f then (g, v) :: r else (g, x) :: putFd f v r
def fldD (cn : String) (h : MHeap) (x : D) (f : Str) : Option D :=
  match insOf cn h x with
  | some fs => fs.lookup f
  | none => none
def setfD (cn : String) (x : D) (f : Str) (v : D) (h : MHeap) : Option MHeap :=
  match x with
  | .loc n => match insOf cn h (.loc n) with
    | some fs => if fs.length < 1000 then some (h.set n (.ins cn (putFd f v fs))) else none
    | none => none
  | _ => none
/-- it has no field of a method's name -/
def recvO (cn : String) (m : Str) (x : D) (h : MHeap) : Bool :=
  match insOf cn h x with
  | some fs => (fs.lookup m).isNone
  | none => false
/-- what a new object's __init__ makes of it; n: what was there before -/
def mkO (n : Nat) : Out D → Out D
  | .ok .non h => .ok (.loc n) h
  | .ok _ _ => .fail
  | .ex x h => if decide (n ≤ h.length) && (h.take n).all (MObj.low n) then .ex x (h.take n) else .fail
  | .fail => .fail
def lenB : Out D → Out D
  | .ok (.int i) h => if decide (0 ≤ i) && decide (i < 9223372036854775808) then .ok (.int i) h else .fail
  | _ => .fail
def strB : Out D → Out D
  | .ok (.str i) h => .ok (.str i) h
  | _ => .fail
/-- {x} in an f-string -/
def txtD : D → Option Str
  | .str s => some s
  | .int i => if i.natAbs < 2 ^ 64 then some (Str.ofString (toString i)) else none
  | _ => none
def addF (acc : Str) (x : D) : Option Str :=
  match txtD x with
  | some y => if decide (y.length ≤ BIG) && decide ((acc ++ y).length ≤ BIG) then some (acc ++ y) else none
  | none => none

mutual
def bindT : MT → D → Env → Option Env
  | .name i, d, σ => if i < σ.length then some (σ.set i (some d)) else none
  | .tup ts, d, σ => match d with
    | .tup xs => bindTs ts xs σ
    | .wt xs => bindTs ts xs σ
    | _ => none
def bindTs : List MT → List D → Env → Option Env
  | [], [], σ => some σ
  | t :: ts, x :: xs, σ => match bindT t x σ with
    | some σ' => bindTs ts xs σ'
    | none => none
  | _, _, _ => none
end
def wipeE (σ : Env) : List Nat → Env
  | [] => σ
  | v :: vs => (wipeE σ vs).set v none

/-- items of a walk, and what must stay while it goes -/
structure Items where
  xs : List D
  gd : Option (Nat × List D)
mutual
def D.beq : D → D → Bool
  | .non, .non => true
  | .bl a, .bl b => a == b
  | .int a, .int b => decide (a = b)
  | .str a, .str b => decide (a = b)
  | .tup a, .tup b => D.beqL a b
  | .lst a, .lst b => D.beqL a b
  | .dic t a, .dic u b => decide (t = u) && D.beqP a b
  | .loc a, .loc b => decide (a = b)
  | .scr a, .scr b => decide (a = b)
  | .fn a, .fn b => decide (a = b)
  | .ty a, .ty b => decide (a = b)
  | .exc a, .exc b => decide (a = b)
  | _, _ => false
def D.beqL : List D → List D → Bool
  | [], [] => true
  | a :: r, b :: s => D.beq a b && D.beqL r s
  | _, _ => false
def D.beqP : List (Ky × D) → List (Ky × D) → Bool
  | [], [] => true
  | (k, a) :: r, (l, b) :: s => Ky.beq k l && D.beq a b && D.beqP r s
  | _, _ => false
end
def Items.okIn (it : Items) (h : MHeap) : Bool :=
  match it.gd with
  | none => true
  | some (n, xs) => match h[n]? with
    | some (.lst ys) => D.beqL ys xs
    | _ => false

def walkOf (h : MHeap) : D → Option Items
  | .tup xs => some ⟨xs, none⟩
  | .lst xs => some ⟨xs, none⟩
  | .str z => some ⟨z.cps.toList.map fun c => .str ⟨#[c]⟩, none⟩
  | .loc n => match h[n]? with
    | some (.lst xs) => some ⟨xs, some (n, xs)⟩
    | _ => none
  | _ => none
/-- a dict is walked: its keys; it stays as it is from now on -/
def keysOf (h : MHeap) : D → Option (Items × MHeap)
  | .dic 0 kvs => some (⟨kvs.map fun p => p.1.d, none⟩, h)
  | .loc n => match h[n]? with
    | some (.dic 0 kvs) => some (⟨kvs.map fun p => p.1.d, none⟩, h.set n (.fdic 0 kvs))
    | some (.fdic 0 kvs) => some (⟨kvs.map fun p => p.1.d, none⟩, h)
    | _ => none
  | _ => none
def walkA (d : D) (h : MHeap) : Out Items :=
  match walkOf h d with
  | some its => .ok its h
  | none => match keysOf h d with
    | some (its, h') => .ok its h'
    | none => .fail
/-- what _law_heard tells -/
def exWord (x : String) : Option String :=
  match x with
  | "NoSide" => some "no side"
  | "NoChoice" => some "no choice"
  | "NoLeft" => some "no left"
  | "NoRule" => some "no rule"
  | "NoStrike" => some "no strike"
  | "Muddled" => some "muddled"
  | "Ended" => some "ended"
  | "NoNumbers" => some "no numbers"
  | "Unlike" => some "unlike"
  | "BadTable" => some "bad table"
  | "NoNumber" => some "no number"
  | "Same" => some "same"
  | "NoBack" => some "no back"
  | "NoText" => some "no text"
  | _ => none
def heardO : Out D → Out D
  | .ok v h => .ok (.tup [.str (Str.ofString "told"), v]) h
  | .ex x h => match exWord x with
    | some w => .ok (.tup [.str (Str.ofString w)]) h
    | none => .fail
  | .fail => .fail
def rangeD (lo hi : Int) : Option Items :=
  if decide (-(2 ^ 62) ≤ lo) && decide (lo < 2 ^ 62) && decide (-(2 ^ 62) ≤ hi) && decide (hi < 2 ^ 62) then some ⟨(List.range (hi - lo).toNat).map fun i => .int (lo + (i : Nat)), none⟩ else none
def pairD (x y : D) : D := .wt [x, y]
def enumD (xs : List D) (i : Nat) : List D :=
  match xs with
  | [] => []
  | x :: r => pairD (.int i) x :: enumD r (i + 1)

/-- the turns of a comprehension; g: one turn -/
def compFold (g : D → List D → MHeap → Out (List D)) (it : Items) : List D → List D → MHeap → Out (List D)
  | [], acc, h => if it.okIn h then .ok acc h else .fail
  | x :: r, acc, h => if it.okIn h then match g x acc h with
      | .ok acc' h' => compFold g it r acc' h'
      | _ => .fail
    else .fail
/-- an exception in a comprehension is not served -/
def Out.noex {α : Type} : Out α → Out α
  | .ok a h => .ok a h
  | _ => .fail
def pushA (acc : List D) (y : D) (h : MHeap) : Out (List D) := if acc.length < BIG then .ok (acc ++ [y]) h else .fail
def bindO (tg : MT) (x : D) (σ : Env) (f : Env → Out (List D)) : Out (List D) :=
  match bindT tg x σ with
  | some σ2 => f σ2
  | none => .fail

mutual
def evE (C : Calls) : ME → Env → MHeap → Out D
  | .var i, σ, h => match σ[i]? with
    | some (some d) => .ok d h
    | _ => .fail
  | .non, _, h => .ok .non h
  | .bl b, _, h => .ok (.bl b) h
  | .int i, _, h => .ok (.int i) h
  | .str s, _, h => .ok (.str s) h
  | .glob x, _, h => Out.of (C.cst x) h
  | .ty n, _, h => .ok (.ty n) h
  | .heard b, σ, h => heardO (evE C b σ h)
  | .isx a y, σ, h => (evE C a σ h).bind fun x h => Out.of (isxD y x) h
  | .inG neg a g, σ, h => (evE C a σ h).bind fun x h => match C.tcs g with
    | some l => Out.of ((inD h x (.tup (l.map .str))).map fun b => .bl (if neg then !b else b)) h
    | none => .fail
  | .bin own op a b, σ, h => (evE C a σ h).bind fun x h => (evE C b σ h).bind fun y h => binD own op x y h
  | .neg a, σ, h => (evE C a σ h).bind fun x h => match x with
    | .int i => .ok (.int (-i)) h
    | _ => .fail
  | .not a, σ, h => (evE C a σ h).bind fun x h => (Out.of (truD h x) h).bind fun b h => .ok (.bl (!b)) h
  | .and as, σ, h => evAnd C as σ h
  | .or as, σ, h => evOr C as σ h
  | .ite c a b, σ, h => (evE C c σ h).bind fun x h => (Out.of (truD h x) h).bind fun t h => if t then evE C a σ h else evE C b σ h
  | .cmp op a b, σ, h => (evE C a σ h).bind fun x h => (evE C b σ h).bind fun y h => (Out.of (cmpD op x y h) h).bind fun t h => .ok (.bl t) h
  | .chain o1 o2 a b c, σ, h => (evE C a σ h).bind fun x h => (evE C b σ h).bind fun y h => (Out.of (cmpD o1 x y h) h).bind fun t h =>
      if t then (evE C c σ h).bind fun z h => (Out.of (cmpD o2 y z h) h).bind fun t h => .ok (.bl t) h else .ok (.bl false) h
  | .tup as, σ, h => (evEs C as σ h).bind fun xs h => mkT xs h
  | .lst own as, σ, h => (evEs C as σ h).bind fun xs h => mkL own xs h
  | .dic own t kvs, σ, h => (evEs C kvs σ h).bind fun xs h => dispD own t xs h
  | .call f as, σ, h => (evEs C as σ h).bind fun xs h => C.fn f xs h
  | .blt own f as, σ, h => (evEs C as σ h).bind fun xs h => bltD own f xs h
  | .meth m o as, σ, h => (evE C o σ h).bind fun x h => if recvD m x h then (evEs C as σ h).bind fun xs h => methD m x xs h else .fail
  | .ix a i, σ, h => (evE C a σ h).bind fun x h => (evE C i σ h).bind fun y h => Out.of (getD x y h) h
  | .cut own a lo hi, σ, h => (evE C a σ h).bind fun x h => (evO C lo σ h).bind fun l h => (evO C hi σ h).bind fun u h => cutD own x l u h
  | .rev own a, σ, h => (evE C a σ h).bind fun x h => revD own x h
  | .comp own elt tg it ifs vs, σ, h => (evI C it σ h).bind fun its h =>
      (compFold (fun x acc h => bindO tg x (wipeE σ vs) fun σ2 => ((evAll C ifs σ2 h).bind fun t h => if t then (evE C elt σ2 h).bind fun y h => pushA acc y h else .ok acc h).noex)
        its its.xs [] h).bind fun ys h => mkL own ys h
  | .comp2 own elt tg it tg1 it1 vs vs1, σ, h => (evI C it σ h).bind fun its h =>
      (compFold (fun x acc h => bindO tg x (wipeE σ vs) fun σ2 => ((evI C it1 σ2 h).bind fun its1 h =>
          compFold (fun x1 acc h => bindO tg1 x1 (wipeE σ2 vs1) fun σ3 => ((evE C elt σ3 h).bind fun y h => pushA acc y h).noex) its1 its1.xs acc h).noex)
        its its.xs [] h).bind fun ys h => mkL own ys h
  | .fld o f, σ, h => (evE C o σ h).bind fun x h => Out.of (fldD C.cn h x f) h
  | .mcall f m o as, σ, h => (evE C o σ h).bind fun x h => if recvO C.cn m x h then (evEs C as σ h).bind fun xs h => C.fn f (x :: xs) h else .fail
  | .make f as, σ, h => (evEs C as σ h).bind fun xs h => mkO h.length (C.fn f (.loc h.length :: xs) (h ++ [.ins C.cn []]))
  | .lenO f o, σ, h => (evE C o σ h).bind fun x h => if (insOf C.cn h x).isSome then lenB (C.fn f [x] h) else .fail
  | .strO f o, σ, h => (evE C o σ h).bind fun x h => if (insOf C.cn h x).isSome then strB (C.fn f [x] h) else .fail
  | .fstr as, σ, h => (evF C as Str.empty σ h).bind fun s h => .ok (.str s) h
  | .pop o, σ, h => (evE C o σ h).bind fun x h => popD x h
def evEs (C : Calls) : MEs → Env → MHeap → Out (List D)
  | .nil, _, h => .ok [] h
  | .cons a as, σ, h => (evE C a σ h).bind fun x h => (evEs C as σ h).bind fun xs h => .ok (x :: xs) h
def evF (C : Calls) : MEs → Str → Env → MHeap → Out Str
  | .nil, acc, _, h => .ok acc h
  | .cons a as, acc, σ, h => (evE C a σ h).bind fun x h => (Out.of (addF acc x) h).bind fun acc h => evF C as acc σ h
def evAll (C : Calls) : MEs → Env → MHeap → Out Bool
  | .nil, _, h => .ok true h
  | .cons a as, σ, h => (evE C a σ h).bind fun x h => (Out.of (truD h x) h).bind fun t h => if t then evAll C as σ h else .ok false h
def evAnd (C : Calls) : MEs → Env → MHeap → Out D
  | .nil, _, _ => .fail
  | .cons a .nil, σ, h => evE C a σ h
  | .cons a (.cons b as), σ, h => (evE C a σ h).bind fun x h => (Out.of (truD h x) h).bind fun t h => if t then evAnd C (.cons b as) σ h else .ok x h
def evOr (C : Calls) : MEs → Env → MHeap → Out D
  | .nil, _, _ => .fail
  | .cons a .nil, σ, h => evE C a σ h
  | .cons a (.cons b as), σ, h => (evE C a σ h).bind fun x h => (Out.of (truD h x) h).bind fun t h => if t then .ok x h else evOr C (.cons b as) σ h
def evO (C : Calls) : MO → Env → MHeap → Out (Option Int)
  | .none, _, h => .ok none h
  | .some e, σ, h => (evE C e σ h).bind fun x h => match x with
    | .int i => .ok (some i) h
    | _ => .fail
def evI (C : Calls) : MI → Env → MHeap → Out Items
  | .val e, σ, h => (evE C e σ h).bind fun x h => walkA x h
  | .range1 e, σ, h => (evE C e σ h).bind fun x h => match x with
    | .int j => Out.of (rangeD 0 j) h
    | _ => .fail
  | .range2 a b, σ, h => (evE C a σ h).bind fun x h => (evE C b σ h).bind fun y h => match x, y with
    | .int i, .int j => Out.of (rangeD i j) h
    | _, _ => .fail
  | .enum e, σ, h => (evE C e σ h).bind fun x h => match x with
    | .tup xs => .ok ⟨enumD xs 0, none⟩ h
    | .lst xs => .ok ⟨enumD xs 0, none⟩ h
    | _ => .fail
  | .zip a b, σ, h => (evE C a σ h).bind fun x h => (evE C b σ h).bind fun y h => match x, y with
    | .tup xs, .tup ys => .ok ⟨List.zipWith pairD xs ys, none⟩ h
    | .lst xs, .lst ys => .ok ⟨List.zipWith pairD xs ys, none⟩ h
    | _, _ => .fail
end

inductive Fl where
  | nx (σ : Env) (h : MHeap) | rt (d : D) (h : MHeap) | ex (x : String) (σ : Env) (h : MHeap) | fail
/-- what an expression's end makes of a statement -/
def Out.fl {α : Type} (o : Out α) (σ : Env) (f : α → MHeap → Fl) : Fl :=
  match o with
  | .ok a h => f a h
  | .ex x h => .ex x σ h
  | .fail => .fail
def forRun (f : D → Env → MHeap → Fl) (it : Items) : List D → Env → MHeap → Fl
  | [], σ, h => if it.okIn h then .nx σ h else .fail
  | x :: r, σ, h => if it.okIn h then match f x σ h with
      | .nx σ' h' => forRun f it r σ' h'
      | o => o
    else .fail
def whRun (c : Env → MHeap → Out Bool) (f : Env → MHeap → Fl) : Nat → Env → MHeap → Fl
  | 0, _, _ => .fail
  | n + 1, σ, h => (c σ h).fl σ fun t h => if t then match f σ h with
      | .nx σ' h' => whRun c f n σ' h'
      | o => o
    else .nx σ h
def setE (i : Nat) (d : D) (σ : Env) (h : MHeap) : Fl := if i < σ.length then .nx (σ.set i (some d)) h else .fail
def setEs : List Nat → List D → Env → Option Env
  | [], [], σ => some σ
  | i :: is, d :: ds, σ => if i < σ.length then setEs is ds (σ.set i (some d)) else none
  | _, _, _ => none
mutual
def evS (C : Calls) : MS → Env → MHeap → Fl
  | .set i e, σ, h => (evE C e σ h).fl σ fun d h => setE i d σ h
  | .unp ts e, σ, h => (evE C e σ h).fl σ fun d h => match bindT (.tup ts) d σ with
    | some σ' => .nx σ' h
    | none => .fail
  | .par is es, σ, h => (evEs C es σ h).fl σ fun ds h => match setEs is ds σ with
    | some σ' => .nx σ' h
    | none => .fail
  | .put o i e, σ, h => (evE C e σ h).fl σ fun v h => (evE C o σ h).fl σ fun x h => (evE C i σ h).fl σ fun y h => match putD x y v h with
    | some h' => .nx σ h'
    | none => .fail
  | .aug i op e, σ, h => match σ[i]? with
    | some (some x) => (evE C e σ h).fl σ fun y h => match op, x, y with
      | .Add, .int a, .int b => .nx (σ.set i (some (.int (a + b)))) h
      | _, _, _ => .fail
    | _ => .fail
  | .expr e, σ, h => (evE C e σ h).fl σ fun _ h => .nx σ h
  | .ret e, σ, h => (evE C e σ h).fl σ fun d h => .rt d h
  | .retN, _, h => .rt .non h
  | .pass, σ, h => .nx σ h
  | .ite c a b, σ, h => ((evE C c σ h).bind fun x h => Out.of (truD h x) h).fl σ fun t h => if t then evSs C a σ h else evSs C b σ h
  | .for tg it body, σ, h => (evI C it σ h).fl σ fun its h => forRun (fun x σ h => match bindT tg x σ with
      | some σ' => evSs C body σ' h
      | none => .fail) its its.xs σ h
  | .while c body, σ, h => whRun (fun σ h => (evE C c σ h).bind fun x h => Out.of (truD h x) h) (fun σ h => evSs C body σ h) C.wf σ h
  | .raise x, σ, h => .ex x σ h
  | .never, _, _ => .fail
  | .setf o f e, σ, h => (evE C e σ h).fl σ fun v h => (evE C o σ h).fl σ fun x h => match setfD C.cn x f v h with
    | some h' => .nx σ h'
    | none => .fail
def evSs (C : Calls) : MSs → Env → MHeap → Fl
  | .nil, σ, h => .nx σ h
  | .cons s r, σ, h => match evS C s σ h with
    | .nx σ' h' => evSs C r σ' h'
    | o => o
end

/-! ### defs -/
inductive Pol where
  /-- its own heap; the answer by value -/
  | pure
  /-- the heap goes on; the answer by value, what was made is dropped -/
  | trunc
  /-- the heap goes on as it is -/
  | raw
structure MDef where
  ps : List String
  ns : Nat
  pol : Pol
  body : MSs
abbrev Tab := List (String × MDef)

def start (d : MDef) (xs : List D) : Env := xs.map some ++ List.replicate (d.ns - xs.length) none
def Fl.out : Fl → Out D
  | .nx _ h => .ok .non h
  | .rt d h => .ok d h
  | .ex x _ h => .ex x h
  | .fail => .fail
def runDef (C : Calls) (d : MDef) (xs : List D) (h : MHeap) : Out D :=
  if xs.length = d.ps.length then
    match d.pol with
    | .pure => if D.freeL xs then match (evSs C d.body (start d xs) []).out with
        | .ok v h' => match frz h' 0 v with
          | some v' => .ok v' h
          | none => .fail
        | .ex x _ => .ex x h
        | .fail => .fail
      else .fail
    | .trunc => match (evSs C d.body (start d xs) h).out with
        | .ok v h' => if h.length ≤ h'.length && (h'.take h.length).all (MObj.low h.length) then match frz h' h.length v with
            | some v' => .ok v' (h'.take h.length)
            | none => .fail
          else .fail
        | .ex x h' => if h.length ≤ h'.length && (h'.take h.length).all (MObj.low h.length) then .ex x (h'.take h.length) else .fail
        | .fail => .fail
    | .raw => (evSs C d.body (start d xs) h).out
  else .fail
structure Prg where
  tab : Tab
  cst : List (String × D)
  wf : Nat
  /-- the refusals' classes stand in the text -/
  exs : Bool := false
  tcs : List (String × List Str) := []
  /-- the class; its methods' names by their defs' names; its fields -/
  cn : String := ""
  mth : List (String × Str) := []
  flds : List Str := []
def calls (P : Prg) : Nat → Calls
  | 0 => ⟨fun _ _ _ => .fail, fun x => P.cst.lookup x, P.wf, fun x => P.tcs.lookup x, P.cn⟩
  | k + 1 => ⟨fun f xs h => match P.tab.lookup f with
      | some d => runDef (calls P k) d xs h
      | none => .fail, fun x => P.cst.lookup x, P.wf, fun x => P.tcs.lookup x, P.cn⟩
end Lt

/-! Lt, part B: what of the layer's heap a value of Lt stands for. -/
namespace Lt
open PySem PySem.Spec PyProof.Rows L2

/-- built-ins that no name of the text hides -/
def bltNs : List String := ["isinstance", "len", "all", "any", "abs", "tuple", "list", "int", "bool", "str", "range", "enumerate", "zip", "ValueError", "min", "max", "sorted", "dict", "set"]
/-- the defs that make lambdas -/
class Mk where
  ms : List String
variable [Mk]
/-- where a class of the text stands -/
def clsOf (K : PySem.W.Frag) (x : String) : Addr :=
  match PySem.W.nsIn K mainGlobals (Str.ofString x) with
  | some (some (.ref C)) => C
  | _ => 0
def lamQ (f : String) : Str := Str.ofString f ++ ".<locals>." ++ "<lambda>"
/-- the makers' tables -/
def tabsOf (K : PySem.W.Frag) : List (Addr × Str) := Mk.ms.filterMap fun f => (PySem.W.tabIn K (Str.ofString f)).map fun p => (p.2, lamQ f)
/-- an exception that was caught, of the class at C -/
def ExcO (a C : Addr) : HO := .ext fun h => ∃ oe : Obj, h.get? a = some oe ∧ Zc (.ref C) none oe ∧ ∃ vs, oe.data = .fields vs
/-- a dict, locked or not -/
def Rd0 (H : Hp) (a : Addr) (ls : List (Key × V)) : Prop := H a = some (.dK ls) ∨ ∃ o, H a = some (.frz o (.dK ls))
/-- a plain key -/
inductive RK : Ky → Key → Prop
  | int (i : Int) : RK (.int i) (.inl i)
  | str (s : Str) : RK (.str s) (.inr s)
inductive RKs : List Ky → List Key → Prop
  | nil : RKs [] []
  | cons {k : Ky} {l : Key} {ks : List Ky} {ls : List Key} : RK k l → RKs ks ls → RKs (k :: ks) (l :: ls)

/-- the script's list: frozen, or an object of the module -/
def ScrR (K : PySem.W.Frag) (H : Hp) (a : Addr) (ns : List Int) : Prop :=
  (∃ o, H a = some (.frz o (.lst (ns.map V.int)))) ∨
    ∃ (o : Obj) (its : Array Value) (n : Nat), K.lookup a = some o ∧ o.cls = .type "list" ∧ o.dict = none ∧ o.data = .seq its n ∧ its.size ≤ sizeLine ∧ Vals (ns.map V.int) its.toList
theorem ScrR.mono {K : PySem.W.Frag} {H H' : Hp} {a : Addr} {ns : List Int} (q : ScrR K H a ns) (x : ∀ o u, H a = some (.frz o u) → H' a = some (.frz o u)) : ScrR K H' a ns := q.imp (fun ⟨o, e⟩ => ⟨o, x o _ e⟩) id
theorem ScrR.sq {K : PySem.W.Frag} {H : Hp} {a : Addr} {ns : List Int} (q : ScrR K H a ns) : SqL K H a (ns.map V.int) := q.imp (fun ⟨o, e⟩ => .inr ⟨o, e⟩) id
mutual
/-- d is told by v in H; be: the locations' addresses; F: further ones that may change -/
inductive RV (K : PySem.W.Frag) (F be : List Addr) (H : Hp) : D → V → Prop
  | non : RV K F be H .non .non
  | bl (b : Bool) : RV K F be H (.bl b) (.bl b)
  | int (i : Int) : RV K F be H (.int i) (.int i)
  | str (s : Str) : RV K F be H (.str s) (.str s)
  | ty (n : String) : RV K F be H (.ty n) (.ty n)
  | tup {a : Addr} {o : Obj} {ds : List D} {vs : List V} : H a = some (.frz o (.tup vs)) → o.dict = none → RVs K F be H ds vs → RV K F be H (.tup ds) (.ref a)
  | wt {a : Addr} {ds : List D} {vs : List V} : H a = some (.tup vs) → RVs K F be H ds vs → RV K F be H (.wt ds) (.ref a)
  | lst {a : Addr} {ds : List D} {vs : List V} : H a = some (.lst vs) → a ∉ be → a ∉ F → RVs K F be H ds vs → RV K F be H (.lst ds) (.ref a)
  | dic0 {a : Addr} {kvs : List (Ky × D)} {ls : List (Key × V)} : Rd0 H a ls → a ∉ be → a ∉ F → RVp K F be H kvs ls → RV K F be H (.dic 0 kvs) (.ref a)
  | loc {a : Addr} {n : Nat} : be[n]? = some a → RV K F be H (.loc n) (.ref a)
  | scr {a : Addr} {ns : List Int} : ScrR K H a ns → RV K F be H (.scr ns) (.ref a)
  | scl {a : Addr} {ns : List Int} : H a = some (.lst (ns.map V.int)) → a ∉ be → a ∉ F → RV K F be H (.scr ns) (.ref a)
  | adr (a : Addr) : RV K F be H (.adr a) (.ref a)
  | exc {a : Addr} {x : String} : H a = some (ExcO a (clsOf K x)) → a ∉ be → a ∉ F → RV K F be H (.exc x) (.ref a)
inductive RVs (K : PySem.W.Frag) (F be : List Addr) (H : Hp) : List D → List V → Prop
  | nil : RVs K F be H [] []
  | cons {d : D} {v : V} {ds : List D} {vs : List V} : RV K F be H d v → RVs K F be H ds vs → RVs K F be H (d :: ds) (v :: vs)
inductive RVp (K : PySem.W.Frag) (F be : List Addr) (H : Hp) : List (Ky × D) → List (Key × V) → Prop
  | nil : RVp K F be H [] []
  | cons {k : Ky} {l : Key} {d : D} {v : V} {ds : List (Ky × D)} {vs : List (Key × V)} : RK k l → RV K F be H d v → RVp K F be H ds vs → RVp K F be H ((k, d) :: ds) ((l, v) :: vs)
end

/-- fields -/
inductive RVf (K : PySem.W.Frag) (F be : List Addr) (H : Hp) : List (Str × D) → List (Str × V) → Prop
  | nil : RVf K F be H [] []
  | cons {f : Str} {d : D} {v : V} {ds : List (Str × D)} {vs : List (Str × V)} : RV K F be H d v → RVf K F be H ds vs → RVf K F be H ((f, d) :: ds) ((f, v) :: vs)
/-- the object at a location -/
inductive RO (K : PySem.W.Frag) (F be : List Addr) (H : Hp) : MObj → Addr → Prop
  | lst {a : Addr} {ds : List D} {vs : List V} : H a = some (.lst vs) → RVs K F be H ds vs → RO K F be H (.lst ds) a
  | dic0 {a : Addr} {kvs : List (Ky × D)} {ls : List (Key × V)} : H a = some (.dK ls) → RVp K F be H kvs ls → RO K F be H (.dic 0 kvs) a
  | fdic0 {a : Addr} {o : Obj} {kvs : List (Ky × D)} {ls : List (Key × V)} : H a = some (.frz o (.dK ls)) → RVp K F be H kvs ls → RO K F be H (.fdic 0 kvs) a
  | ins {a dx : Addr} {c : String} {fs : List (Str × D)} {vs : List (Str × V)} : H a = some (.ins (clsOf K c) dx vs) → RVf K F be H fs vs → RO K F be H (.ins c fs) a

def NoTbl (o : HO) : Prop := ∀ ps, o ≠ .tbl ps
structure Rep (K : PySem.W.Frag) (F be : List Addr) (h : MHeap) (H : Hp) : Prop where
  len : be.length = h.length
  nd : be.Nodup
  dis : ∀ a ∈ be, a ∉ F
  fin : ∀ a ∈ F, ∃ o, H a = some o ∧ NoTbl o
  obj : ∀ (n : Nat) (a : Addr) (o : MObj), be[n]? = some a → h[n]? = some o → RO K F be H o a
  tabs : LamX.Tabs (tabsOf K) H

/-- as it was; a dict may be locked -/
def Kept (o o' : HO) : Prop := o' = o ∨ ∃ kvs ob, o = .dK kvs ∧ o' = .frz ob (.dK kvs)

/-- what an evaluation may do to the heap -/
structure Ext (F be : List Addr) (H : Hp) (be' : List Addr) (H' : Hp) : Prop where
  pre : ∃ ext, be' = be ++ ext ∧ ∀ a ∈ ext, ∀ o, H a = some o → ¬ NoTbl o
  keep : ∀ a o, H a = some o → a ∉ be → NoTbl o → ∃ o', H' a = some o' ∧ Kept o o'
  keepF : ∀ a o, a ∈ F → H a = some o → NoTbl o → H' a = some o
  tups : ∀ a xs, H a = some (.tup xs) → H' a = some (.tup xs)
  frzs : ∀ a o u, H a = some (.frz o u) → H' a = some (.frz o u)
  there : ∀ a o, H a = some o → NoTbl o → ∃ o', H' a = some o' ∧ NoTbl o'

section
variable {K : PySem.W.Frag} {F be be' be'' : List Addr} {H H' H'' : Hp} {h h' : MHeap}

theorem Kept.rfl' {o : HO} : Kept o o := .inl rfl
theorem Kept.lst {vs : List V} {o : HO} (k : Kept (.lst vs) o) : o = .lst vs := by
  rcases k with k | ⟨_, _, k, _⟩
  · exact k
  · cases k
theorem Kept.ext {φ : Heap → Prop} {o : HO} (k : Kept (.ext φ) o) : o = .ext φ := by
  rcases k with k | ⟨_, _, k, _⟩
  · exact k
  · cases k
theorem Kept.ins {C dx : Addr} {fs : List (Str × V)} {o : HO} (k : Kept (.ins C dx fs) o) : o = .ins C dx fs := by
  rcases k with k | ⟨_, _, k, _⟩
  · exact k
  · cases k
theorem Kept.nt {o o' : HO} (k : Kept o o') (n : NoTbl o) : NoTbl o' := by
  rcases k with rfl | ⟨_, _, _, rfl⟩
  · exact n
  · exact fun ps z => by cases z
theorem Ext.refl : Ext F be H be H := ⟨⟨[], by simp, by simp⟩, fun _ o q _ _ => ⟨o, q, .inl rfl⟩, fun _ _ _ q _ => q, fun _ _ q => q, fun _ _ _ q => q, fun _ o q n => ⟨o, q, n⟩⟩
theorem Ext.trans (x : Ext F be H be' H') (y : Ext F be' H' be'' H'') : Ext F be H be'' H'' := by
  obtain ⟨e1, rfl, n1⟩ := x.pre
  obtain ⟨e2, rfl, n2⟩ := y.pre
  refine ⟨⟨e1 ++ e2, by simp, fun a ha o q nt => ?_⟩, fun a o q n nt => ?_, fun a o m q nt => y.keepF a o m (x.keepF a o m q nt) nt, fun a xs q => y.tups a xs (x.tups a xs q), fun a o u q => y.frzs a o u (x.frzs a o u q), fun a o q nt => ?_⟩
  · rcases List.mem_append.mp ha with z | z
    · exact n1 a z o q nt
    · obtain ⟨o', q', nt'⟩ := x.there a o q nt
      exact n2 a z o' q' nt'
  · have na : a ∉ be ++ e1 := fun z => by
      rcases List.mem_append.mp z with z | z
      · exact n z
      · exact n1 a z o q nt
    obtain ⟨o', q', k⟩ := x.keep a o q n nt
    rcases k with rfl | ⟨kvs, ob, rfl, rfl⟩
    · exact y.keep a _ q' na nt
    · exact ⟨_, y.frzs _ _ _ q', .inr ⟨kvs, ob, rfl, rfl⟩⟩
  · obtain ⟨o', q', nt'⟩ := x.there a o q nt
    exact y.there a o' q' nt'
theorem Ext.keepL (x : Ext F be H be' H') {a : Addr} {vs : List V} (q : H a = some (.lst vs)) (n : a ∉ be) : H' a = some (.lst vs) := by
  obtain ⟨o', q', k⟩ := x.keep a _ q n (fun ps z => by cases z)
  rw [q', k.lst]
theorem Ext.keepX (x : Ext F be H be' H') {a : Addr} {φ : Heap → Prop} (q : H a = some (.ext φ)) (n : a ∉ be) : H' a = some (.ext φ) := by
  obtain ⟨o', q', k⟩ := x.keep a _ q n (fun ps z => by cases z)
  rw [q', k.ext]
theorem Ext.keepD (x : Ext F be H be' H') {a : Addr} {ls : List (Key × V)} (q : Rd0 H a ls) (n : a ∉ be) : Rd0 H' a ls := by
  rcases q with q | ⟨o, q⟩
  · obtain ⟨o', q', k⟩ := x.keep a _ q n (fun ps z => by cases z)
    rcases k with rfl | ⟨kvs, ob, e, rfl⟩
    · exact .inl q'
    · cases e
      exact .inr ⟨_, q'⟩
  · exact .inr ⟨o, x.frzs _ _ _ q⟩
theorem ntL {vs : List V} : NoTbl (.lst vs) := fun _ z => by cases z
theorem ntX {φ : Heap → Prop} : NoTbl (.ext φ) := fun _ z => by cases z
theorem ntD {ls : List (Key × V)} : NoTbl (.dK ls) := fun _ z => by cases z
theorem ntI {C dx : Addr} {fs : List (Str × V)} : NoTbl (.ins C dx fs) := fun _ z => by cases z
theorem ntF {o : Obj} {u : HO} : NoTbl (.frz o u) := fun _ z => by cases z
theorem Rd0.there {a : Addr} {ls : List (Key × V)} (q : Rd0 H a ls) : ∃ o, H a = some o ∧ NoTbl o := q.elim (fun q => ⟨_, q, ntD⟩) fun ⟨_, q⟩ => ⟨_, q, ntF⟩
theorem Ext.notin (x : Ext F be H be' H') {a : Addr} {o : HO} (q : H a = some o) (nt : NoTbl o) (n : a ∉ be) : a ∉ be' := by
  obtain ⟨e1, rfl, n1⟩ := x.pre
  intro z
  rcases List.mem_append.mp z with z | z
  · exact n z
  · exact n1 a z o q nt
theorem Ext.mono {F F' : List Addr} (x : Ext F be H be' H') (s : ∀ a ∈ F', a ∈ F) : Ext F' be H be' H' := ⟨x.pre, x.keep, fun a o m q nt => x.keepF a o (s a m) q nt, x.tups, x.frzs, x.there⟩
theorem Ext.sqT (x : Ext F be H be' H') {a : Addr} {xs : List V} (q : SqT K H a xs) : SqT K H' a xs := by
  rcases q with (q | ⟨o, q⟩) | q
  · exact .inl (.inl (x.tups a xs q))
  · exact .inl (.inr ⟨o, x.frzs a o _ q⟩)
  · exact .inr q
/-- a new object, tracked, no location -/
theorem Ext.new {p : Addr} {o : HO} (np : H p = none) : Ext F be H be (upd H p o) :=
  ⟨⟨[], by simp, by simp⟩, fun a u q _ _ => ⟨u, by rw [upd_ne (ne_of_none q np)]; exact q, .inl rfl⟩, fun a u _ q _ => by rw [upd_ne (ne_of_none q np)]; exact q, fun a u q => by rw [upd_ne (ne_of_none q np)]; exact q, fun a u w q => by rw [upd_ne (ne_of_none q np)]; exact q, fun a u q nt => ⟨u, by rw [upd_ne (ne_of_none q np)]; exact q, nt⟩⟩

mutual
theorem RV.ext1 {d : D} {v : V} {F1 : List Addr} (x : Ext F1 be H be' H') : RV K F be H d v → RV K F be' H' d v
  | .non => .non
  | .bl b => .bl b
  | .int i => .int i
  | .str s => .str s
  | .ty n => .ty n
  | .tup q n r => .tup (x.frzs _ _ _ q) n (RVs.ext1 x r)
  | .wt q r => .wt (x.tups _ _ q) (RVs.ext1 x r)
  | .lst q n1 n2 r => .lst (x.keepL q n1) (x.notin q ntL n1) n2 (RVs.ext1 x r)
  | .dic0 q n1 n2 r => .dic0 (x.keepD q n1) (x.notin q.there.choose_spec.1 q.there.choose_spec.2 n1) n2 (RVp.ext1 x r)
  | .loc q => .loc (by obtain ⟨e1, rfl, _⟩ := x.pre; rw [List.getElem?_append_left (List.getElem?_eq_some_iff.mp q).1]; exact q)
  | .scr q => .scr (q.mono (x.frzs _))
  | .scl q n1 n2 => .scl (x.keepL q n1) (x.notin q ntL n1) n2
  | .adr a => .adr a
  | .exc q n1 n2 => .exc (x.keepX q n1) (x.notin q ntX n1) n2
theorem RVs.ext1 {ds : List D} {vs : List V} {F1 : List Addr} (x : Ext F1 be H be' H') : RVs K F be H ds vs → RVs K F be' H' ds vs
  | .nil => .nil
  | .cons r t => .cons (RV.ext1 x r) (RVs.ext1 x t)
theorem RVp.ext1 {ds : List (Ky × D)} {vs : List (Key × V)} {F1 : List Addr} (x : Ext F1 be H be' H') : RVp K F be H ds vs → RVp K F be' H' ds vs
  | .nil => .nil
  | .cons k r t => .cons k (RV.ext1 x r) (RVp.ext1 x t)
end
theorem RV.ext {d : D} {v : V} (x : Ext F be H be' H') (r : RV K F be H d v) : RV K F be' H' d v := r.ext1 x
theorem RVs.ext {d : List D} {v : List V} (x : Ext F be H be' H') (r : RVs K F be H d v) : RVs K F be' H' d v := r.ext1 x
theorem RVf.ext1 {F1 : List Addr} (x : Ext F1 be H be' H') : ∀ {ds : List (Str × D)} {vs : List (Str × V)}, RVf K F be H ds vs → RVf K F be' H' ds vs
  | _, _, .nil => .nil
  | _, _, .cons r t => .cons (RV.ext1 x r) (RVf.ext1 x t)
theorem RVp.ext {d : List (Ky × D)} {v : List (Key × V)} (x : Ext F be H be' H') (r : RVp K F be H d v) : RVp K F be' H' d v := r.ext1 x
end
end Lt

/-! Lt, part C: posts, and the operations. -/
namespace Lt
open PySem PySem.Spec PyProof.Rows L2
variable [Mk]

section
variable {K : PySem.W.Frag} {F be be' be1 : List Addr} {H H' H1 : Hp} {h h' : MHeap}

/-! ### lists of values -/
theorem RVs.length : ∀ {ds : List D} {vs : List V}, RVs K F be H ds vs → ds.length = vs.length
  | _, _, .nil => rfl
  | _, _, .cons _ t => by simp [RVs.length t]
theorem RVs.get : ∀ {ds : List D} {vs : List V} {i : Nat} {d : D}, RVs K F be H ds vs → ds[i]? = some d → ∃ v, vs[i]? = some v ∧ RV K F be H d v
  | _, _, _, _, .nil, e => by simp at e
  | _, _, 0, _, .cons r _, e => by simp at e; subst e; exact ⟨_, rfl, r⟩
  | _, _, i + 1, _, .cons _ t, e => by
    obtain ⟨v, h1, h2⟩ := RVs.get (i := i) t (by simpa using e)
    exact ⟨v, by simpa using h1, h2⟩
theorem RVs.append : ∀ {xs ys : List D} {us vs : List V}, RVs K F be H xs us → RVs K F be H ys vs → RVs K F be H (xs ++ ys) (us ++ vs)
  | _, _, _, _, .nil, s => s
  | _, _, _, _, .cons r t, s => .cons r (RVs.append t s)
theorem RVs.take : ∀ {xs : List D} {us : List V} (n : Nat), RVs K F be H xs us → RVs K F be H (xs.take n) (us.take n)
  | _, _, 0, _ => by simpa using RVs.nil
  | _, _, _ + 1, .nil => .nil
  | _, _, n + 1, .cons r t => .cons r (RVs.take n t)
theorem RVs.drop : ∀ {xs : List D} {us : List V} (n : Nat), RVs K F be H xs us → RVs K F be H (xs.drop n) (us.drop n)
  | _, _, 0, r => r
  | _, _, _ + 1, .nil => .nil
  | _, _, n + 1, .cons _ t => RVs.drop n t
theorem RVs.set {d : D} {v : V} (r : RV K F be H d v) : ∀ {xs : List D} {us : List V} (i : Nat), RVs K F be H xs us → RVs K F be H (xs.set i d) (us.set i v)
  | _, _, _, .nil => .nil
  | _, _, 0, .cons _ t => .cons r t
  | _, _, i + 1, .cons q t => .cons q (RVs.set r i t)
theorem RVs.reverse : ∀ {xs : List D} {us : List V}, RVs K F be H xs us → RVs K F be H xs.reverse us.reverse
  | _, _, .nil => .nil
  | _, _, .cons r t => by simpa using (RVs.reverse t).append (.cons r .nil)
theorem RVs.rep {xs : List D} {us : List V} (r : RVs K F be H xs us) : ∀ k : Nat, RVs K F be H (List.replicate k xs).flatten (List.replicate k us).flatten
  | 0 => .nil
  | k + 1 => by simpa [List.replicate_succ] using r.append (RVs.rep r k)
theorem RVs.one {d : D} {v : V} (r : RV K F be H d v) : RVs K F be H [d] [v] := .cons r .nil
theorem RVs.ints : ∀ ns : List Int, RVs K F be H (ns.map D.int) (ns.map V.int)
  | [] => .nil
  | n :: r => .cons (.int n) (RVs.ints r)

/-! ### objects -/
theorem RO.ext1 {o : MObj} {a : Addr} {F1 : List Addr} (x : Ext F1 be H be' H') (e : ∀ u, H a = some u → H' a = some u) : RO K F be H o a → RO K F be' H' o a
  | .lst q r => .lst (e _ q) (r.ext1 x)
  | .dic0 q r => .dic0 (e _ q) (r.ext1 x)
  | .fdic0 q r => .fdic0 (e _ q) (r.ext1 x)
  | .ins q r => .ins (e _ q) (r.ext1 x)
theorem RO.ext {o : MObj} {a : Addr} (x : Ext F be H be' H') (e : ∀ u, H a = some u → H' a = some u) (r : RO K F be H o a) : RO K F be' H' o a := r.ext1 x e
theorem RO.hasO {o : MObj} {a : Addr} : RO K F be H o a → ∃ u, H a = some u
  | .lst q _ => ⟨_, q⟩
  | .dic0 q _ => ⟨_, q⟩
  | .fdic0 q _ => ⟨_, q⟩
  | .ins q _ => ⟨_, q⟩
/-- tables and code objects stay -/
theorem Tabs.keep {T : List (Addr × Str)} {H H' : Hp} (t : LamX.Tabs T H) (e1 : ∀ b ps, H b = some (.tbl ps) → H' b = some (.tbl ps)) (e2 : ∀ b φ, H b = some (.ext φ) → H' b = some (.ext φ)) : LamX.Tabs T H' := fun p hp => by
  obtain ⟨ps, h1, h2, h3⟩ := t p hp
  refine ⟨ps, e1 _ _ h1, h2, fun pos cv hc => ?_⟩
  obtain ⟨c, z1, z2⟩ := h3 pos cv hc
  exact ⟨c, z1, e2 _ _ z2⟩
theorem Rep.at (R : Rep K F be h H) {n : Nat} {a : Addr} (e : be[n]? = some a) : ∃ o, h[n]? = some o ∧ RO K F be H o a := by
  have hn : n < h.length := by
    have := (List.getElem?_eq_some_iff.mp e).1
    rw [R.len] at this
    exact this
  exact ⟨h[n], by simp [hn], R.obj n a h[n] e (by simp [hn])⟩
theorem Rep.addr (R : Rep K F be h H) {n : Nat} {o : MObj} (e : h[n]? = some o) : ∃ a, be[n]? = some a ∧ RO K F be H o a := by
  have hn : n < be.length := by
    have := (List.getElem?_eq_some_iff.mp e).1
    rw [R.len]
    exact this
  exact ⟨be[n], by simp [hn], R.obj n be[n] o (by simp [hn]) e⟩
theorem Rep.mem (R : Rep K F be h H) {a : Addr} (e : a ∈ be) : ∃ u, H a = some u := by
  obtain ⟨n, hn, rfl⟩ := List.getElem_of_mem e
  obtain ⟨o, _, r⟩ := R.at (n := n) (a := be[n]) (by simp [hn])
  exact r.hasO
theorem Rep.new_be (R : Rep K F be h H) {p : Addr} (np : H p = none) : p ∉ be := fun z => by
  obtain ⟨u, q⟩ := R.mem z
  rw [np] at q; cases q
theorem Rep.new_F (R : Rep K F be h H) {p : Addr} (np : H p = none) : p ∉ F := fun z => by
  obtain ⟨u, q, _⟩ := R.fin p z
  rw [np] at q; cases q
/-- a new object that is no location -/
theorem Rep.new (R : Rep K F be h H) {p : Addr} {o : HO} (np : H p = none) : Rep K F be h (upd H p o) := by
  have x : Ext F be H be (upd H p o) := Ext.new np
  refine ⟨R.len, R.nd, R.dis, fun a ha => ?_, fun n a u e1 e2 => ?_, Tabs.keep R.tabs (fun b _ q => by rw [upd_ne (ne_of_none q np)]; exact q) fun b _ q => by rw [upd_ne (ne_of_none q np)]; exact q⟩
  · obtain ⟨w, q, nt⟩ := R.fin a ha
    exact x.there a w q nt
  · exact (R.obj n a u e1 e2).ext x fun w q => by rw [upd_ne (ne_of_none q np)]; exact q
/-- a new location -/
theorem Ext.newL {p : Addr} {o : HO} (np : H p = none) : Ext F be H (be ++ [p]) (upd H p o) :=
  ⟨⟨[p], rfl, fun a ha o q => by simp at ha; rw [ha, np] at q; cases q⟩, (Ext.new (F := F) (be := be) np).keep, (Ext.new (F := F) (be := be) np).keepF, (Ext.new (F := F) (be := be) np).tups, (Ext.new (F := F) (be := be) np).frzs, (Ext.new (F := F) (be := be) np).there⟩
theorem Rep.newL (R : Rep K F be h H) {p : Addr} {o : HO} {m : MObj} (np : H p = none) (r : RO K F (be ++ [p]) (upd H p o) m p) : Rep K F (be ++ [p]) (h ++ [m]) (upd H p o) := by
  have x : Ext F be H (be ++ [p]) (upd H p o) := Ext.newL np
  refine ⟨by simp [R.len], ?_, fun a ha => ?_, fun a ha => ?_, fun n a u e1 e2 => ?_, Tabs.keep R.tabs (fun b _ q => by rw [upd_ne (ne_of_none q np)]; exact q) fun b _ q => by rw [upd_ne (ne_of_none q np)]; exact q⟩
  · rw [List.nodup_append]
    refine ⟨R.nd, by simp, fun a ha b hb => ?_⟩
    simp at hb
    subst hb
    exact fun e => R.new_be np (e ▸ ha)
  · rcases List.mem_append.mp ha with z | z
    · exact R.dis a z
    · simp at z
      rw [z]; exact R.new_F np
  · obtain ⟨w, q, nt⟩ := R.fin a ha
    exact x.there a w q nt
  · by_cases hn : n < be.length
    · rw [List.getElem?_append_left hn] at e1
      rw [List.getElem?_append_left (by rw [← R.len]; exact hn)] at e2
      exact (R.obj n a u e1 e2).ext x fun w q => by rw [upd_ne (ne_of_none q np)]; exact q
    · have hl : n < (be ++ [p]).length := (List.getElem?_eq_some_iff.mp e1).1
      have en : n = be.length := by simp at hl; omega
      subst en
      simp at e1
      rw [R.len] at e2
      simp at e2
      subst e1 e2
      exact r
/-- a location is written -/
theorem Ext.write (R : Rep K F be h H) {n : Nat} {a : Addr} {o : HO} (e : be[n]? = some a) (nt : ∀ xs, H a ≠ some (.tup xs)) (nf : ∀ o u, H a ≠ some (.frz o u)) (no : NoTbl o) : Ext F be H be (upd H a o) := by
  have ha : a ∈ be := List.mem_of_getElem? e
  refine ⟨⟨[], by simp, by simp⟩, fun b u q nb _ => ⟨u, ?_, .inl rfl⟩, fun b u m q _ => ?_, fun b xs q => ?_, fun b w u q => ?_, fun b u q nt => ?_⟩
  · rw [upd_ne (show b ≠ a from fun z => nb (z ▸ ha))]; exact q
  · rw [upd_ne (show b ≠ a from fun z => R.dis a ha (z ▸ m))]; exact q
  · rw [upd_ne (show b ≠ a from fun z => nt xs (z ▸ q))]; exact q
  · rw [upd_ne (show b ≠ a from fun z => nf w u (z ▸ q))]; exact q
  · by_cases hb : b = a
    · subst hb; exact ⟨o, upd_same, no⟩
    · exact ⟨u, by rw [upd_ne hb]; exact q, nt⟩
/-- may be written -/
def MObj.mut : MObj → Bool
  | .fdic _ _ => false
  | _ => true
theorem RO.notup {o : MObj} {a : Addr} (r : RO K F be H o a) (mu : o.mut = true) : (∀ xs, H a ≠ some (.tup xs)) ∧ (∀ o u, H a ≠ some (.frz o u)) ∧ (∀ ps, H a ≠ some (.tbl ps)) ∧ ∀ φ, H a ≠ some (.ext φ) := by
  cases r with
  | lst q _ => exact ⟨fun xs z => (by rw [q] at z; cases z), fun o u z => (by rw [q] at z; cases z), fun o z => (by rw [q] at z; cases z), fun o z => (by rw [q] at z; cases z)⟩
  | dic0 q _ => exact ⟨fun xs z => (by rw [q] at z; cases z), fun o u z => (by rw [q] at z; cases z), fun o z => (by rw [q] at z; cases z), fun o z => (by rw [q] at z; cases z)⟩
  | fdic0 q _ => cases mu
  | ins q _ => exact ⟨fun xs z => (by rw [q] at z; cases z), fun o u z => (by rw [q] at z; cases z), fun o z => (by rw [q] at z; cases z), fun o z => (by rw [q] at z; cases z)⟩
theorem Rep.ext_write (R : Rep K F be h H) {n : Nat} {a : Addr} {o : HO} {m0 : MObj} (e : be[n]? = some a) (hm : h[n]? = some m0) (mu : m0.mut = true) (no : NoTbl o := by exact fun _ z => nomatch z) : Ext F be H be (upd H a o) := by
  have r := R.obj n a m0 e hm
  exact Ext.write R e (r.notup mu).1 (r.notup mu).2.1 no
theorem Rep.write (R : Rep K F be h H) {n : Nat} {a : Addr} {o : HO} {m m0 : MObj} (e : be[n]? = some a) (hm : h[n]? = some m0) (mu : m0.mut = true) (r : RO K F be (upd H a o) m a) (no : NoTbl o := by exact fun _ z => nomatch z) : Rep K F be (h.set n m) (upd H a o) := by
  have x : Ext F be H be (upd H a o) := R.ext_write e hm mu no
  have nn := (R.obj n a m0 e hm).notup mu
  refine ⟨by simp [R.len], R.nd, R.dis, fun b hb => ?_, fun k b u e1 e2 => ?_, Tabs.keep R.tabs (fun b ps q => by rw [upd_ne (show b ≠ a from fun z => nn.2.2.1 ps (z ▸ q))]; exact q) fun b ps q => by rw [upd_ne (show b ≠ a from fun z => nn.2.2.2 ps (z ▸ q))]; exact q⟩
  · obtain ⟨w, q, nt⟩ := R.fin b hb
    exact x.there b w q nt
  · by_cases hk : k = n
    · subst hk
      rw [e] at e1; cases e1
      rw [List.getElem?_set_self (by rw [← R.len]; exact (List.getElem?_eq_some_iff.mp e).1)] at e2
      cases e2
      exact r
    · rw [List.getElem?_set_ne (Ne.symm hk)] at e2
      have nab : b ≠ a := fun z => by
        subst z
        obtain ⟨h1, e1'⟩ := List.getElem?_eq_some_iff.mp e1
        obtain ⟨h2, e2'⟩ := List.getElem?_eq_some_iff.mp e
        exact hk ((List.getElem_inj R.nd).mp (e1'.trans e2'.symm))
      exact (R.obj k b u e1 e2).ext x fun w q => by rw [upd_ne nab]; exact q

/-! ### what is wanted behind an evaluation -/
def Post {α γ : Type} (K : PySem.W.Frag) (F be : List Addr) (H : Hp) (R : List Addr → Hp → α → γ → Prop) (o : Out α) (Q : γ → Hp → Prop) (E : String → Hp → Prop) : Prop :=
  match o with
  | .ok a h' => ∀ c H' be', Ext F be H be' H' → Rep K F be' h' H' → R be' H' a c → Q c H'
  | .ex x h' => ∀ H' be', Ext F be H be' H' → Rep K F be' h' H' → E x H'
  | .fail => False
variable {α γ α' γ' : Type} {R : List Addr → Hp → α → γ → Prop} {R' : List Addr → Hp → α' → γ' → Prop} {Q : γ → Hp → Prop} {Q' : γ' → Hp → Prop} {E : String → Hp → Prop}
theorem Post.weak {o : Out α} (p : Post K F be H R o Q E) (x : Ext F be H be' H') : Post K F be' H' R o Q E := by
  cases o with
  | ok a h => exact fun c H2 be2 y rep r => p c H2 be2 (x.trans y) rep r
  | ex e h => exact fun H2 be2 y rep => p H2 be2 (x.trans y) rep
  | fail => exact p
theorem Post.bind {o : Out α'} {f : α' → MHeap → Out α} (p : Post K F be H R (o.bind f) Q E)
    (k : ∀ a h1 c H1 be1, Ext F be H be1 H1 → Rep K F be1 h1 H1 → R' be1 H1 a c → Post K F be1 H1 R (f a h1) Q E → Q' c H1) : Post K F be H R' o Q' E := by
  cases o with
  | ok a h => exact fun c H1 be1 x rep r => k a h c H1 be1 x rep r (Post.weak (o := f a h) p x)
  | ex e h => exact p
  | fail => exact p
theorem Post.ok {a : α} {c : γ} (p : Post K F be H R (.ok a h) Q E) (rep : Rep K F be h H) (r : R be H a c) : Q c H := p c H be .refl rep r
/-- an answer that is known at once -/
theorem Post.of {o : Option α} (p : Post K F be H R (Out.of o h) Q E) (rep : Rep K F be h H) (k : ∀ a, o = some a → ∃ c, R be H a c) : ∃ a c, o = some a ∧ R be H a c ∧ Q c H := by
  cases o with
  | none => exact False.elim p
  | some a =>
    obtain ⟨c, r⟩ := k a rfl
    exact ⟨a, c, rfl, r, Post.ok p rep r⟩
theorem Post.of1 {o : Option α} (p : Post K F be H R (Out.of o h) Q E) (rep : Rep K F be h H) : ∃ a, o = some a ∧ ∀ c, R be H a c → Q c H := by
  cases o with
  | none => exact False.elim p
  | some a => exact ⟨a, rfl, fun c r => Post.ok p rep r⟩
theorem Post.mkL {Q : V → Hp → Prop} {own : Bool} {ds : List D} {vs : List V} {p : Addr} (q : Post K F be H (RV K F) (mkL own ds h) Q E) (rep : Rep K F be h H) (r : RVs K F be H ds vs) (np : H p = none) : Q (.ref p) (upd H p (.lst vs)) := by
  unfold Lt.mkL at q
  split at q
  · cases own with
    | true =>
      refine q _ _ (be ++ [p]) (Ext.newL np) (rep.newL np (.lst upd_same (r.ext (Ext.newL np)))) (.loc ?_)
      rw [← rep.len]
      simp
    | false => exact q _ _ be (Ext.new np) (rep.new np) (.lst upd_same (rep.new_be np) (rep.new_F np) (r.ext (Ext.new np)))
  · exact False.elim q
theorem Post.mkT {Q : V → Hp → Prop} {ds : List D} {vs : List V} {p : Addr} {ob : Obj} (q : Post K F be H (RV K F) (mkT ds h) Q E) (rep : Rep K F be h H) (r : RVs K F be H ds vs) (np : H p = none) (nd : ob.dict = none) : Q (.ref p) (upd H p (.frz ob (.tup vs))) := by
  unfold Lt.mkT at q
  split at q
  · exact q _ _ be (Ext.new np) (rep.new np) (.tup upd_same nd (r.ext (Ext.new np)))
  · exact False.elim q
theorem mkL_len {Q : V → Hp → Prop} {own : Bool} {ds : List D} (q : Post K F be H (RV K F) (mkL own ds h) Q E) : ds.length ≤ sizeLine := by
  unfold mkL at q
  split at q
  · rename_i z
    exact Nat.le_trans z (by decide)
  · exact False.elim q
theorem mkT_len {Q : V → Hp → Prop} {ds : List D} (q : Post K F be H (RV K F) (mkT ds h) Q E) : ds.length ≤ sizeLine := by
  unfold Lt.mkT at q
  split at q
  · rename_i z
    exact Nat.le_trans z (by decide)
  · exact False.elim q
/-- a list, by value or at a location -/
theorem seqOf_ok (rep : Rep K F be h H) {d : D} {v : V} {xs : List D} (r : RV K F be H d v) (e : seqOf h d = some xs) : ∃ a vs, v = .ref a ∧ H a = some (.lst vs) ∧ RVs K F be H xs vs := by
  cases r with
  | lst q _ _ t =>
    simp only [seqOf, Option.some.injEq] at e
    subst e
    exact ⟨_, _, rfl, q, t⟩
  | loc q =>
    simp only [seqOf] at e
    obtain ⟨o, e1, ro⟩ := rep.at q
    rw [e1] at e
    cases ro with
    | lst q t =>
      simp only [Option.some.injEq] at e
      subst e
      exact ⟨_, _, rfl, q, t⟩
    | dic0 => simp at e
    | fdic0 => simp at e
    | ins => simp at e
  | _ => simp [seqOf] at e
/-- a tuple, a list, the script -/
theorem itemsOf_ok (rep : Rep K F be h H) {d : D} {v : V} {xs : List D} (r : RV K F be H d v) (e : itemsOf h d = some xs) : ∃ a vs, v = .ref a ∧ (SqL K H a vs ∨ SqT K H a vs) ∧ RVs K F be H xs vs := by
  cases r with
  | tup q _ t =>
    simp only [itemsOf, Option.some.injEq] at e
    subst e
    exact ⟨_, _, rfl, .inr (.inl (.inr ⟨_, q⟩)), t⟩
  | scr q =>
    simp only [itemsOf, Option.some.injEq] at e
    subst e
    exact ⟨_, _, rfl, .inl q.sq, RVs.ints _⟩
  | scl q _ _ =>
    simp only [itemsOf, Option.some.injEq] at e
    subst e
    exact ⟨_, _, rfl, .inl (.of q), RVs.ints _⟩
  | lst q n1 n2 t =>
    obtain ⟨a, vs, e1, e2, e3⟩ := seqOf_ok rep (.lst q n1 n2 t) e
    exact ⟨a, vs, e1, .inl (.of e2), e3⟩
  | loc q =>
    obtain ⟨a, vs, e1, e2, e3⟩ := seqOf_ok rep (.loc q) e
    exact ⟨a, vs, e1, .inl (.of e2), e3⟩
  | _ => simp [itemsOf, seqOf] at e

/-! ### operators; new tuples are known to their object -/
/-- a tuple's place -/
theorem fT {a : Addr} {o : Obj} {xs : List V} (q : H a = some (.frz o (.tup xs))) : SqT K H a xs := .inl (.inr ⟨o, q⟩)
abbrev tupO (us : List Value) : Obj := { cls := .type "tuple", data := .seq us.toArray }
theorem Inv.laidT {X : Cx} {pins : List (Addr × Obj)} {σ : L2.St} {s : Shared} {us : List Value} {xs : List V} {h' : Heap} {H : Hp} (I : Inv X pins σ H { s with heap := h' }) (r : Vals xs us) (hz : xs.length ≤ sizeLine) :
    Inv X pins σ (upd H h'.objs.size (.frz (tupO us) (.tup xs))) { s with heap := h'.push (tupO us) } :=
  I.laid (a := h'.objs.size) (o := .frz (tupO us) (.tup xs)) (t' := s.toks) (fun b ob q => Heap.get?_push_of_some _ q) (Nat.le_refl _) ⟨Heap.get?_push_size _ rfl, hz, us, r, IsTup.new _ _⟩
def rCatS (K : PySem.W.Frag) : R2 := fun x y H Q => ∃ a b xs ys, x = .ref a ∧ y = .ref b ∧ SqT K H a xs ∧ SqT K H b ys ∧ xs.length + ys.length ≤ sizeLine ∧
  (xs = [] → Q (.ref b) H) ∧ (xs ≠ [] → ys = [] → Q (.ref a) H) ∧ (xs ≠ [] → ys ≠ [] → ∀ p o, H p = none → o.dict = none → Q (.ref p) (upd H p (.frz o (.tup (xs ++ ys)))))
theorem op_catS {X : Cx} : OpR X (binaryOp .Add) (rCatS X.K) := by
  intro pins s σ H x y v u Q I rx ry h
  obtain ⟨a, b, xs, ys, rfl, rfl, ha, hb, hz, q0, q1, q2⟩ := h
  cases rx
  cases ry
  obtain ⟨its, r1, p1, _⟩ := I.tuple ha
  obtain ⟨its2, r2, p2, _⟩ := I.tuple hb
  by_cases hx : xs = []
  · subst hx
    cases r1
    exact cat_tup0 p1 p2 ⟨.ref b, H, I, rfl, q0 rfl⟩
  · refine HT.cat_tup p1 p2 (fun z => hx (r1.nil_iff.mp z)) (fun z => ⟨.ref a, H, I, rfl, q1 hx (r2.nil_iff.mp z)⟩) (fun z => ?_) (by rw [← r1.length, ← r2.length]; exact hz)
    exact ⟨.ref s.heap.objs.size, _, Inv.laidT (s := s) (h' := s.heap) I (r1.append r2) (by rw [List.length_append]; exact hz), rfl, q2 hx (fun w => z (r2.nil_iff.mpr w)) _ _ (I.hok.fresh (Nat.le_refl _)) rfl⟩
def rRepS (K : PySem.W.Frag) : R2 := fun x y H Q => ∃ l k xs, x = .ref l ∧ y = .int k ∧ SqT K H l xs ∧ xs ≠ [] ∧ 2 ≤ k ∧ k ≤ 1000 ∧ xs.length ≤ 1000 ∧ ∀ p o, H p = none → o.dict = none → Q (.ref p) (upd H p (.frz o (.tup (List.replicate k.toNat xs).flatten)))
theorem flat_len {xs : List V} {k : Int} (h2 : k ≤ 1000) (hz : xs.length ≤ 1000) : (List.replicate k.toNat xs).flatten.length ≤ 1000000 := by
  rw [PyProof.Rows.lm_len_rep_flat]
  exact Nat.le_trans (Nat.mul_le_mul (show k.toNat ≤ 1000 by omega) hz) (by decide)
theorem op_repS {X : Cx} : OpR X (binaryOp .Mult) (rRepS X.K) := by
  intro pins s σ H x y v u Q I rx ry h
  obtain ⟨l, k, xs, rfl, rfl, hT, hne, lo, up, hz, q⟩ := h
  obtain ⟨t, rfl⟩ := ry
  cases rx
  obtain ⟨us, r, ht, _⟩ := I.tuple hT
  obtain ⟨⟨cl, dd, da, sl⟩, ho, ec, n, ed⟩ := id ht
  simp only at ec ed
  subst ec ed
  have el : us.length = xs.length := r.length.symm
  have em : us.toArray.size = xs.length := by simpa using el
  have ne : us.toArray.isEmpty = false := by
    cases us
    · exact absurd (List.eq_nil_of_length_eq_zero el.symm) hne
    · rfl
  have big : (us.toArray.size : Int) * k ≤ 1000 * 1000 := by
    rw [em]
    exact Int.le_trans (Int.mul_le_mul_of_nonneg_right (show (xs.length : Int) ≤ 1000 by omega) (by omega)) (Int.mul_le_mul_of_nonneg_left up (by omega))
  have flU : (List.replicate k.toNat us).flatten.length ≤ sizeLine := by
    rw [PyProof.Rows.lm_len_rep_flat, el]
    exact Nat.le_trans (Nat.mul_le_mul (show k.toNat ≤ 1000 by omega) hz) (by decide)
  have k0 : (decide (k < -(2 ^ 63)) || decide (k ≥ 2 ^ 63)) = false := by simp; omega
  have k1 : (us.toArray.isEmpty || k == 1) = false := by rw [ne]; simp; omega
  have k2 : (decide (k ≤ 0) || us.toArray.isEmpty) = false := by rw [ne]; simp; omega
  have k3 : Builtin.Tuple.tupleTooMany ((us.toArray.size : Int) * k) = false := by
    unfold Builtin.Tuple.tupleTooMany
    rw [sizeLine_eq]
    simp only [decide_eq_false_iff_not]
    omega
  have go := tuple_mulW l us.toArray n dd sl k t k0 k1 k2 (by omega) k3 (by rw [size_rep]; simpa using flU)
  refine wpAny_binaryOp_repeat_ref (T := "tuple") (U := "int") (by decide) ⟨_, ho, rfl⟩ (fun s2 => typeIs_int s2 k t) noFill_tuple_mul F.fills_int_mul F.slot_int_rmul repeat_tuple F.slot_int_index.lookup ?_
  refine call_meets F.slot_int_rmul (typeIs_int s k t) F.entry_int_rmul (F.args_int_rmul_2 _ _) (int_rmul_tuple k t l us.toArray n dd sl) ⟨ho, rfl, ⟨_, ho, rfl⟩, ?_⟩
  refine call_meets F.slot_tuple_mul ⟨_, ho, rfl⟩ F.entry_tuple_mul (F.args_tuple_mul_2 _ _) go ⟨ho, ?_⟩
  rw [size_rep]
  exact ⟨.ref s.heap.objs.size, _, Inv.laidT (s := s) (h' := s.heap) I (r.rep k.toNat) (Nat.le_trans (flat_len up hz) (by decide)), rfl, q _ _ (I.hok.fresh (Nat.le_refl _)) rfl⟩
def rMulD (K : PySem.W.Frag) : R2 := fun x y H Q => (rI CMul (fun i j => .int (i * j)) x y H Q ∨ rI CMulW (fun i j => .int (i * j)) x y H Q) ∨ rRepS K x y H Q ∨ rRep x y H Q
def rBin (K : PySem.W.Frag) : Operator → R2
  | .Add => fun x y H Q => rI0 (fun i j => .int (i + j)) x y H Q ∨ (∃ i j, x = .str i ∧ y = .str j ∧ i.length + j.length ≤ sizeLine ∧ Q (.str (i ++ j)) H) ∨ rCatS K x y H Q ∨ rCat x y H Q
  | .Sub => rI0 fun i j => .int (i - j)
  | .Mult => rMulD K
  | .FloorDiv => rI CDivN fun i j => .int (i.fdiv j)
  | .Mod => rI (fun _ j => j ≠ 0) fun i j => .int (i.fmod j)
  | .Pow => rI CPow fun i j => .int (i ^ j.toNat)
  | _ => fun _ _ _ _ => False
theorem op_bin {X : Cx} (op : Operator) : OpR X (binaryOp op) (rBin X.K op) := by
  cases op with
  | Add => exact op_add.or (op_add_str.or (op_catS.or op_cat))
  | Sub => exact op_sub
  | Mult => exact (op_mul.or op_mulW).or (op_repS.or op_rep)
  | FloorDiv => exact op_fdivN
  | Mod => exact op_modN
  | Pow => exact op_pow
  | _ => exact fun _ _ _ _ _ _ _ _ _ _ _ _ z => z.elim
theorem small_abs {i : Int} (h : i.natAbs < 2 ^ 64) : -(2 ^ 64) < i ∧ i < 2 ^ 64 := by omega
theorem binD_ok {Q : V → Hp → Prop} {own : Bool} {op : Operator} {dx dy : D} {x y : V} (rep : Rep K F be h H) (rx : RV K F be H dx x) (ry : RV K F be H dy y)
    (q : Post K F be H (RV K F) (binD own op dx dy h) Q E) : rBin K op x y H Q := by
  unfold binD at q
  split at q
  · cases rx; cases ry
    exact .inl ⟨_, _, rfl, rfl, q.ok rep (.int _)⟩
  · cases rx; cases ry
    split at q
    · rename_i z
      exact .inr (.inl ⟨_, _, rfl, rfl, Nat.le_trans z (by decide), q.ok rep (.str _)⟩)
    · exact q.elim
  · cases rx with
    | tup ha na ra =>
    cases ry with
    | tup hb nb rb =>
    have hl := mkT_len q
    rw [List.length_append, ra.length, rb.length] at hl
    refine .inr (.inr (.inl ⟨_, _, _, _, rfl, rfl, fT ha, fT hb, hl, fun e => ?_, fun _ e => ?_, fun _ _ p o np nd => ?_⟩))
    · subst e
      cases ra
      unfold Lt.mkT at q
      split at q
      · exact q.ok rep (.tup hb nb rb)
      · exact q.elim
    · subst e
      cases rb
      unfold Lt.mkT at q
      split at q
      · exact q.ok rep (.tup ha na (by simpa using ra))
      · exact q.elim
    · exact q.mkT rep (ra.append rb) np nd
  · split at q
    · rename_i e1 e2
      obtain ⟨a, vs, rfl, ha, ra⟩ := seqOf_ok rep rx e1
      obtain ⟨b, ws, rfl, hb, rb⟩ := seqOf_ok rep ry e2
      have hl := mkL_len q
      rw [List.length_append, ra.length, rb.length] at hl
      exact .inr (.inr (.inr ⟨a, b, vs, ws, rfl, rfl, ha, hb, hl, fun p np => q.mkL rep (ra.append rb) np⟩))
    · exact q.elim
  · cases rx; cases ry
    exact ⟨_, _, rfl, rfl, q.ok rep (.int _)⟩
  · cases rx; cases ry
    split at q
    · rename_i z
      unfold mulOk at z
      simp only [Bool.or_eq_true, Bool.and_eq_true, decide_eq_true_eq] at z
      refine .inl ?_
      rcases z with (z | z) | ⟨z1, z2⟩
      · exact .inl ⟨_, _, rfl, rfl, .inl (small_abs z), q.ok rep (.int _)⟩
      · exact .inl ⟨_, _, rfl, rfl, .inr (small_abs z), q.ok rep (.int _)⟩
      · exact .inr ⟨_, _, rfl, rfl, wide_mul z1 z2 (by decide) (by decide) (by decide), q.ok rep (.int _)⟩
    · exact q.elim
  · cases rx with
    | tup ha na ra =>
    cases ry
    split at q
    · rename_i z
      simp only [Bool.and_eq_true, decide_eq_true_eq] at z
      obtain ⟨⟨⟨z1, z2⟩, z3⟩, z4⟩ := z
      refine .inr (.inl ⟨_, _, _, rfl, rfl, fT ha, fun e => z1 ?_, z2, z3, by rw [← ra.length]; exact z4, fun p o np nd => ?_⟩)
      · subst e; cases ra; rfl
      · exact q _ _ be (Ext.new np) (rep.new np) (.tup upd_same nd ((ra.rep _).ext (Ext.new np)))
    · exact q.elim
  · cases ry
    split at q
    · rename_i e1
      obtain ⟨a, vs, rfl, ha, ra⟩ := seqOf_ok rep rx e1
      split at q
      · rename_i z
        simp only [Bool.and_eq_true, decide_eq_true_eq] at z
        obtain ⟨⟨z1, z2⟩, z3⟩ := z
        rw [ra.length] at z3
        refine .inr (.inr ⟨a, _, vs, rfl, rfl, ha, by omega, by omega, ?_, fun p np => q.mkL rep (ra.rep _) np⟩)
        refine Nat.le_trans (Nat.mul_le_mul z3 (show _ ≤ 1000 by omega)) (by decide)
      · exact q.elim
    · exact q.elim
  · cases rx; cases ry
    split at q
    · rename_i z
      unfold divOk at z
      simp only [Bool.and_eq_true, decide_eq_true_eq] at z
      exact ⟨_, _, rfl, rfl, z, q.ok rep (.int _)⟩
    · exact q.elim
  · cases rx; cases ry
    split at q
    · exact q.elim
    · rename_i z
      exact ⟨_, _, rfl, rfl, z, q.ok rep (.int _)⟩
  · cases rx; cases ry
    split at q
    · rename_i z
      simp only [Bool.and_eq_true, decide_eq_true_eq] at z
      exact ⟨_, _, rfl, rfl, ⟨z.1.1, z.1.2, z.2⟩, q.ok rep (.int _)⟩
    · exact q.elim
  · exact q.elim
end
end Lt

/-! Lt, part D: comparisons, truth, built-ins, subscripts, methods. -/
namespace Lt
open PySem PySem.Spec PyProof.Rows L2
variable [Mk]

mutual
def D.pd : D → PyData
  | .bl b => .bool b
  | .int i => .int i
  | .str s => .str s
  | .tup xs => .tuple (D.pdL xs)
  | .lst xs => .list (D.pdL xs)
  | _ => .none
def D.pdL : List D → List PyData
  | [] => []
  | x :: r => D.pd x :: D.pdL r
end
theorem okD_tup {n : Nat} {xs : List D} (h : okD n (.tup xs) = true) : ∃ m, n = m + 1 ∧ xs.all (okD m) = true := by
  cases n with
  | zero => simp [okD] at h
  | succ m => exact ⟨m, rfl, by simpa [okD] using h⟩
theorem okD_lst {n : Nat} {xs : List D} (h : okD n (.lst xs) = true) : ∃ m, n = m + 1 ∧ xs.all (okD m) = true := by
  cases n with
  | zero => simp [okD] at h
  | succ m => exact ⟨m, rfl, by simpa [okD] using h⟩
theorem all_cons {f : D → Bool} {x : D} {r : List D} (h : (x :: r).all f = true) : f x = true ∧ r.all f = true := by simpa using h
theorem okD_non {n : Nat} : okD n .non = true := by cases n <;> rfl
mutual
theorem okD_lay : ∀ (d : D) (n : Nat), okD n d = true → d.pd.canLay0 = true ∧ d.pd.depth ≤ n
  | .non, n, _ => by simp [D.pd, PyData.canLay0, PyData.depth]
  | .bl b, n, _ => by simp [D.pd, PyData.canLay0, PyData.depth]
  | .int b, n, _ => by simp [D.pd, PyData.canLay0, PyData.depth]
  | .str s, n, h => by
    have h' : s.cps.all (· < 0x110000) = true := by cases n <;> simpa [okD] using h
    refine ⟨?_, by simp [D.pd, PyData.depth]⟩
    simp only [D.pd, PyData.canLay0]
    exact h'
  | .tup xs, n, h => by
    obtain ⟨m, rfl, h⟩ := okD_tup h
    have q := okDL_lay xs m h
    simp only [D.pd, PyData.canLay0, PyData.depth]
    exact ⟨q.1, by omega⟩
  | .lst xs, n, h => by
    obtain ⟨m, rfl, h⟩ := okD_lst h
    have q := okDL_lay xs m h
    simp only [D.pd, PyData.canLay0, PyData.depth]
    exact ⟨q.1, by omega⟩
  | .dic _ _, n, h => by cases n <;> simp [okD] at h
  | .loc _, n, h => by cases n <;> simp [okD] at h
  | .scr _, n, h => by cases n <;> simp [okD] at h
  | .fn _, n, h => by cases n <;> simp [okD] at h
  | .ty _, n, h => by cases n <;> simp [okD] at h
  | .wt _, n, h => by cases n <;> simp [okD] at h
  | .exc _, n, h => by cases n <;> simp [okD] at h
  | .adr _, n, h => by cases n <;> simp [okD] at h
theorem okDL_lay : ∀ (xs : List D) (n : Nat), xs.all (okD n) = true → PyData.canLayAll0 (D.pdL xs) = true ∧ PyData.depthAll (D.pdL xs) ≤ n
  | [], n, _ => by simp [D.pdL, PyData.canLayAll0, PyData.depthAll]
  | x :: r, n, h => by
    obtain ⟨h1, h2⟩ := all_cons h
    have q1 := okD_lay x n h1
    have q2 := okDL_lay r n h2
    simp only [D.pdL, PyData.canLayAll0, PyData.depthAll, Bool.and_eq_true]
    exact ⟨⟨q1.1, q2.1⟩, by omega⟩
end
theorem okD_shaped {d : D} {n : Nat} (hn : n ≤ 64) (h : okD n d = true) : SeqAt.shaped d.pd = true := by
  have q := okD_lay d n h
  simp only [SeqAt.shaped, Bool.and_eq_true, decide_eq_true_eq]
  exact ⟨q.1, by omega⟩
mutual
theorem eqv_deq : ∀ (x y : D) (n m : Nat), okD n x = true → okD m y = true → PyData.eqv x.pd y.pd = deq x y
  | .tup xs, y, n, m, hx, hy => by
    obtain ⟨n', rfl, hx⟩ := okD_tup hx
    cases y with
    | tup ys =>
      obtain ⟨m', rfl, hy⟩ := okD_tup hy
      simp only [D.pd, PyData.eqv, deq]
      exact eqvL_deq xs ys n' m' hx hy
    | dic => cases m <;> simp [okD] at hy
    | loc => cases m <;> simp [okD] at hy
    | scr => cases m <;> simp [okD] at hy
    | fn => cases m <;> simp [okD] at hy
    | ty => cases m <;> simp [okD] at hy
    | wt => cases m <;> simp [okD] at hy
    | exc => cases m <;> simp [okD] at hy
    | adr => cases m <;> simp [okD] at hy
    | _ => simp [D.pd, PyData.eqv, deq]
  | .lst xs, y, n, m, hx, hy => by
    obtain ⟨n', rfl, hx⟩ := okD_lst hx
    cases y with
    | lst ys =>
      obtain ⟨m', rfl, hy⟩ := okD_lst hy
      simp only [D.pd, PyData.eqv, deq]
      exact eqvL_deq xs ys n' m' hx hy
    | dic => cases m <;> simp [okD] at hy
    | loc => cases m <;> simp [okD] at hy
    | scr => cases m <;> simp [okD] at hy
    | fn => cases m <;> simp [okD] at hy
    | ty => cases m <;> simp [okD] at hy
    | wt => cases m <;> simp [okD] at hy
    | exc => cases m <;> simp [okD] at hy
    | adr => cases m <;> simp [okD] at hy
    | _ => simp [D.pd, PyData.eqv, deq]
  | .non, y, n, m, hx, hy => by
    cases y with
    | dic => cases m <;> simp [okD] at hy
    | loc => cases m <;> simp [okD] at hy
    | scr => cases m <;> simp [okD] at hy
    | fn => cases m <;> simp [okD] at hy
    | ty => cases m <;> simp [okD] at hy
    | wt => cases m <;> simp [okD] at hy
    | exc => cases m <;> simp [okD] at hy
    | adr => cases m <;> simp [okD] at hy
    | _ => simp [D.pd, PyData.eqv, deq]
  | .bl _, y, n, m, hx, hy => by
    cases y with
    | dic => cases m <;> simp [okD] at hy
    | loc => cases m <;> simp [okD] at hy
    | scr => cases m <;> simp [okD] at hy
    | fn => cases m <;> simp [okD] at hy
    | ty => cases m <;> simp [okD] at hy
    | wt => cases m <;> simp [okD] at hy
    | exc => cases m <;> simp [okD] at hy
    | adr => cases m <;> simp [okD] at hy
    | _ => simp [D.pd, PyData.eqv, deq]
  | .int _, y, n, m, hx, hy => by
    cases y with
    | dic => cases m <;> simp [okD] at hy
    | loc => cases m <;> simp [okD] at hy
    | scr => cases m <;> simp [okD] at hy
    | fn => cases m <;> simp [okD] at hy
    | ty => cases m <;> simp [okD] at hy
    | wt => cases m <;> simp [okD] at hy
    | exc => cases m <;> simp [okD] at hy
    | adr => cases m <;> simp [okD] at hy
    | _ => simp [D.pd, PyData.eqv, deq]
  | .str _, y, n, m, hx, hy => by
    cases y with
    | dic => cases m <;> simp [okD] at hy
    | loc => cases m <;> simp [okD] at hy
    | scr => cases m <;> simp [okD] at hy
    | fn => cases m <;> simp [okD] at hy
    | ty => cases m <;> simp [okD] at hy
    | wt => cases m <;> simp [okD] at hy
    | exc => cases m <;> simp [okD] at hy
    | adr => cases m <;> simp [okD] at hy
    | _ => simp [D.pd, PyData.eqv, deq]
  | .dic _ _, y, n, m, hx, hy => by cases n <;> simp [okD] at hx
  | .loc _, y, n, m, hx, hy => by cases n <;> simp [okD] at hx
  | .scr _, y, n, m, hx, hy => by cases n <;> simp [okD] at hx
  | .fn _, y, n, m, hx, hy => by cases n <;> simp [okD] at hx
  | .ty _, y, n, m, hx, hy => by cases n <;> simp [okD] at hx
  | .wt _, y, n, m, hx, hy => by cases n <;> simp [okD] at hx
  | .exc _, y, n, m, hx, hy => by cases n <;> simp [okD] at hx
  | .adr _, y, n, m, hx, hy => by cases n <;> simp [okD] at hx
theorem eqvL_deq : ∀ (xs ys : List D) (n m : Nat), xs.all (okD n) = true → ys.all (okD m) = true → PyData.eqvAll (D.pdL xs) (D.pdL ys) = deqL xs ys
  | [], [], _, _, _, _ => by simp [D.pdL, PyData.eqvAll, deqL]
  | [], _ :: _, _, _, _, _ => by simp [D.pdL, PyData.eqvAll, deqL]
  | _ :: _, [], _, _, _, _ => by simp [D.pdL, PyData.eqvAll, deqL]
  | x :: r, y :: s, n, m, hx, hy => by
    obtain ⟨h1, h2⟩ := all_cons hx
    obtain ⟨h3, h4⟩ := all_cons hy
    simp only [D.pdL, PyData.eqvAll, deqL]
    rw [eqv_deq x y n m h1 h3, eqvL_deq r s n m h2 h4]
end
theorem any_deq {d : D} {n : Nat} (hd : okD n d = true) : ∀ (xs : List D) (m : Nat), xs.all (okD m) = true → ((D.pdL xs).any fun z => PyData.eqv z d.pd) = xs.any fun y => deq y d
  | [], _, _ => by simp [D.pdL]
  | x :: r, m, h => by
    obtain ⟨h1, h2⟩ := all_cons h
    simp only [D.pdL, List.any_cons]
    rw [eqv_deq x d m n h1 hd, any_deq hd r m h2]

section
variable {K : PySem.W.Frag} {F be be' be1 : List Addr} {H H' H1 : Hp} {h h' : MHeap} {E : String → Hp → Prop}
mutual
theorem RV.dp : ∀ {d : D} {v : V} (n : Nat), RV K F be H d v → okD n d = true → Dp K H v d.pd
  | _, _, _, .non, _ => .non
  | _, _, _, .bl b, _ => .bl b
  | _, _, _, .int b, _ => .int b
  | _, _, _, .str b, _ => .str b
  | _, _, _, .tup q _ r, h => by
    obtain ⟨m, rfl, h⟩ := okD_tup h
    exact .tup (fT q) (RVs.dp m r h)
  | _, _, _, .lst q _ _ r, h => by
    obtain ⟨m, rfl, h⟩ := okD_lst h
    exact .lst (.of q) (RVs.dp m r h)
  | _, _, n, .dic0 _ _ _ _, h => by cases n <;> simp [okD] at h
  | _, _, n, .loc _, h => by cases n <;> simp [okD] at h
  | _, _, n, .scr _, h => by cases n <;> simp [okD] at h
  | _, _, n, .scl _ _ _, h => by cases n <;> simp [okD] at h
  | _, _, n, .ty _, h => by cases n <;> simp [okD] at h
  | _, _, n, .wt _ _, h => by cases n <;> simp [okD] at h
  | _, _, n, .exc _ _ _, h => by cases n <;> simp [okD] at h
  | _, _, n, .adr _, h => by cases n <;> simp [okD] at h
theorem RVs.dp : ∀ {ds : List D} {vs : List V} (n : Nat), RVs K F be H ds vs → ds.all (okD n) = true → DpAll K H vs (D.pdL ds)
  | _, _, _, .nil, _ => .nil
  | _, _, n, .cons r t, h => .cons (RV.dp n r (all_cons h).1) (RVs.dp n t (all_cons h).2)
end
/-- a location that is looked into -/
theorem res_dp (rep : Rep K F be h H) {d : D} {v : V} {n : Nat} (r : RV K F be H d v) (e : okD n (res h d) = true) : Dp K H v (res h d).pd := by
  cases r with
  | loc q =>
    obtain ⟨o, e1, ro⟩ := rep.at q
    simp only [res, e1] at e ⊢
    cases ro with
    | lst q t =>
      obtain ⟨m, rfl, e⟩ := okD_lst e
      exact .lst (.of q) (RVs.dp m t e)
    | dic0 => cases n <;> simp [okD] at e
    | fdic0 => cases n <;> simp [okD] at e
    | ins => cases n <;> simp [okD] at e
  | non => exact .non
  | bl b => exact .bl b
  | int b => exact .int b
  | str b => exact .str b
  | tup q nd t => exact RV.dp n (.tup q nd t) e
  | lst q n1 n2 t => exact RV.dp n (.lst q n1 n2 t) e
  | dic0 => cases n <;> simp [okD, res] at e
  | scr => cases n <;> simp [okD, res] at e
  | scl => cases n <;> simp [okD, res] at e
  | ty => cases n <;> simp [okD, res] at e
  | wt => cases n <;> simp [okD, res] at e
  | exc => cases n <;> simp [okD, res] at e
  | adr => cases n <;> simp [okD, res] at e

/-! ### dicts with plain keys -/
theorem RK.inj {k : Ky} {a b : Key} (x : RK k a) (y : RK k b) : a = b := by cases x <;> cases y <;> rfl
theorem RK.beq {k l : Ky} {a b : Key} (x : RK k a) (y : RK l b) : Ky.beq k l = decide (a = b) := by
  cases x <;> cases y <;> simp [Ky.beq]
theorem RKs.beq : ∀ {k l : List Ky} {a b : List Key}, RKs k a → RKs l b → Ky.beqL k l = decide (a = b)
  | _, _, _, _, .nil, .nil => by simp [Ky.beqL]
  | _, _, _, _, .nil, .cons _ _ => by simp [Ky.beqL]
  | _, _, _, _, .cons _ _, .nil => by simp [Ky.beqL]
  | _, _, _, _, .cons x t, .cons y u => by
    simp only [Ky.beqL, x.beq y, RKs.beq t u]
    simp
theorem RVp.look {kvs : List (Ky × D)} {ls : List (Key × V)} {k : Ky} {l : Key} (hk : RK k l) : RVp K F be H kvs ls → (lookK kvs k = none ∧ valV ls l = none) ∨ ∃ d v, lookK kvs k = some d ∧ valV ls l = some v ∧ RV K F be H d v
  | .nil => .inl ⟨rfl, rfl⟩
  | .cons (k := k1) (l := l1) (d := d) (v := v) r rv t => by
    by_cases e : l1 = l
    · refine .inr ⟨d, v, ?_, valV_pos e, rv⟩
      simp [lookK, List.find?_cons, r.beq hk, e]
    · rcases RVp.look hk t with ⟨q1, q2⟩ | ⟨d', v', q1, q2, q3⟩
      · refine .inl ⟨?_, by rw [valV_neg (by exact e)]; exact q2⟩
        simpa [lookK, List.find?_cons, r.beq hk, e] using q1
      · refine .inr ⟨d', v', ?_, by rw [valV_neg (by exact e)]; exact q2, q3⟩
        simpa [lookK, List.find?_cons, r.beq hk, e] using q1
theorem RVp.any {kvs : List (Ky × D)} {ls : List (Key × V)} {k : Ky} {l : Key} (hk : RK k l) : RVp K F be H kvs ls → (kvs.any fun p => Ky.beq p.1 k) = ls.any fun p => decide (p.1 = l)
  | .nil => rfl
  | .cons r _ t => by simp only [List.any_cons, r.beq hk, RVp.any hk t]
theorem RVp.map {kvs : List (Ky × D)} {ls : List (Key × V)} {k : Ky} {l : Key} {d : D} {v : V} (hk : RK k l) (rv : RV K F be H d v) : RVp K F be H kvs ls → RVp K F be H (kvs.map fun p => if Ky.beq p.1 k then (p.1, d) else p) (ls.map fun p => if p.1 = l then (p.1, v) else p)
  | .nil => .nil
  | .cons (k := k1) (l := l1) r q t => by
    simp only [List.map_cons, r.beq hk]
    by_cases e : l1 = l
    · simp only [e, decide_true, if_true]
      exact .cons (e ▸ r) rv (RVp.map hk rv t)
    · simp only [e, decide_false, if_false]
      exact .cons r q (RVp.map hk rv t)
theorem RVp.append : ∀ {xs ys : List (Ky × D)} {us vs : List (Key × V)}, RVp K F be H xs us → RVp K F be H ys vs → RVp K F be H (xs ++ ys) (us ++ vs)
  | _, _, _, _, .nil, s => s
  | _, _, _, _, .cons k r t, s => .cons k r (RVp.append t s)
theorem RVp.put {kvs : List (Ky × D)} {ls : List (Key × V)} {k : Ky} {l : Key} {d : D} {v : V} (hk : RK k l) (rv : RV K F be H d v) (r : RVp K F be H kvs ls) : RVp K F be H (putKy kvs k d) (putK ls l v) := by
  unfold putKy putK
  rw [r.any hk]
  split
  · exact r.map hk rv
  · exact r.append (.cons hk rv .nil)
theorem RVp.length : ∀ {kvs : List (Ky × D)} {ls : List (Key × V)}, RVp K F be H kvs ls → kvs.length = ls.length
  | _, _, .nil => rfl
  | _, _, .cons _ _ t => by simp [RVp.length t]
/-- an int or a text as a key -/
theorem key0 {d : D} {k : Ky} {v : V} (e : d.key = some k) (z : k.kind = 0) (r : RV K F be H d v) : ∃ l, RK k l ∧ v = kV l := by
  cases r with
  | int i =>
    simp only [D.key, Option.some.injEq] at e
    subst e
    exact ⟨.inl i, .int i, rfl⟩
  | str i =>
    simp only [D.key, Option.some.injEq] at e
    subst e
    exact ⟨.inr i, .str i, rfl⟩
  | tup q _ t =>
    simp only [D.key] at e
    split at e
    · simp only [Option.some.injEq] at e
      subst e
      simp only [Ky.kind] at z
      split at z <;> cases z
    · cases e
  | _ => simp [D.key] at e
theorem dicOf_ok (rep : Rep K F be h H) {d : D} {v : V} {t : Nat} {kvs : List (Ky × D)} (r : RV K F be H d v) (e : dicOf h d = some (t, kvs)) :
    ∃ a, v = .ref a ∧ t = 0 ∧ ∃ ls, Rd0 H a ls ∧ RVp K F be H kvs ls := by
  cases r with
  | dic0 q _ _ r =>
    simp only [dicOf, Option.some.injEq, Prod.mk.injEq] at e
    obtain ⟨rfl, rfl⟩ := e
    exact ⟨_, rfl, rfl, _, q, r⟩
  | loc q =>
    simp only [dicOf] at e
    obtain ⟨o, e1, ro⟩ := rep.at q
    rw [e1] at e
    cases ro with
    | lst => simp at e
    | dic0 q r =>
      simp only [Option.some.injEq, Prod.mk.injEq] at e
      obtain ⟨rfl, rfl⟩ := e
      exact ⟨_, rfl, rfl, _, .inl q, r⟩
    | fdic0 q r =>
      simp only [Option.some.injEq, Prod.mk.injEq] at e
      obtain ⟨rfl, rfl⟩ := e
      exact ⟨_, rfl, rfl, _, .inr ⟨_, q⟩, r⟩
    | ins => simp at e
  | _ => simp [dicOf] at e
/-- what a dict holds at a key -/
theorem dget_ok (rep : Rep K F be h H) {d dk : D} {v y : V} {t : Nat} {kvs : List (Ky × D)} {k : Ky} (r : RV K F be H d v) (e : dicOf h d = some (t, kvs)) (rk : RV K F be H dk y) (ek : dk.key = some k) (hk : k.kind = t) :
    ∃ a o, v = .ref a ∧ DGet H a y o ∧ ((lookK kvs k = none ∧ o = none) ∨ ∃ d' v', lookK kvs k = some d' ∧ o = some v' ∧ RV K F be H d' v') := by
  obtain ⟨a, rfl, rfl, ls, q, rp⟩ := dicOf_ok rep r e
  obtain ⟨l, hl, rfl⟩ := key0 ek hk rk
  refine ⟨a, valV ls l, rfl, .inl ⟨ls, l, q, rfl, rfl⟩, ?_⟩
  rcases rp.look hl with ⟨z1, z2⟩ | ⟨d', v', z1, z2, z3⟩
  · exact .inl ⟨z1, z2⟩
  · exact .inr ⟨d', v', z1, z2, z3⟩
end
end Lt

/-! Lt, part E: comparisons, truth, built-ins, subscripts, methods. -/
namespace Lt
open PySem PySem.Spec PyProof.Rows L2
variable [Mk]
section
variable {K : PySem.W.Frag} {F be be' be1 : List Addr} {H H' H1 : Hp} {h h' : MHeap} {E : String → Hp → Prop}

/-! ### comparisons -/
def rInT (K : PySem.W.Frag) : R2 := fun x y H Q => ∃ d ds, Dp K H x d ∧ Dp K H y (.tuple ds) ∧ SeqAt.shaped d = true ∧ SeqAt.shaped (.tuple ds) = true ∧ Q (.bl (ds.any fun z => PyData.eqv z d)) H
def rNotInT (K : PySem.W.Frag) : R2 := fun x y H Q => ∃ d ds, Dp K H x d ∧ Dp K H y (.tuple ds) ∧ SeqAt.shaped d = true ∧ SeqAt.shaped (.tuple ds) = true ∧ Q (.bl (!ds.any fun z => PyData.eqv z d)) H
theorem op_inT {X : Cx} (hu : X.A.units + 65 < cLine) : OpR X (compareOp .In) (rInT X.K) := by
  intro pins s σ H x y v u Q I rx ry h
  obtain ⟨d, ds, hd, he, sd, se, q⟩ := h
  obtain ⟨as, r1⟩ := Dp.reads I d x v hd rx
  obtain ⟨bs, r2⟩ := Dp.reads I (.tuple ds) y u he ry
  exact SeqAt.in_tuple_reads r2 r1 (SeqAt.canLay_of_shaped se) (SeqAt.canLay_of_shaped sd) (room_in_shaped sd hu) ⟨.bl _, H, I, rfl, q⟩
theorem op_notInT {X : Cx} (hu : X.A.units + 65 < cLine) : OpR X (compareOp .NotIn) (rNotInT X.K) := by
  intro pins s σ H x y v u Q I rx ry h
  obtain ⟨d, ds, hd, he, sd, se, q⟩ := h
  obtain ⟨as, r1⟩ := Dp.reads I d x v hd rx
  obtain ⟨bs, r2⟩ := Dp.reads I (.tuple ds) y u he ry
  exact SeqAt.notIn_tuple_reads r2 r1 (SeqAt.canLay_of_shaped se) (SeqAt.canLay_of_shaped sd) (room_in_shaped sd hu) ⟨.bl _, H, I, rfl, q⟩
def rDIn (neg : Bool) : R2 := fun y x H Q => ∃ a o, x = .ref a ∧ DGet H a y o ∧ Q (.bl (if neg then !o.isSome else o.isSome)) H
theorem op_inDic {X : Cx} (hu : X.A.units + 1 < cLine) : OpR X (compareOp .In) (rDIn false) := by
  intro pins s σ H y x iv u Q I ry rx h
  obtain ⟨a, o, rfl, g, q⟩ := h
  obtain rfl : u = Value.ref a := rx
  exact d_in hu I g ry fun s3 I3 => ⟨.bl o.isSome, H, I3, rfl, q⟩
theorem op_notInDic {X : Cx} (hu : X.A.units + 1 < cLine) : OpR X (compareOp .NotIn) (rDIn true) := by
  intro pins s σ H y x iv u Q I ry rx h
  obtain ⟨a, o, rfl, g, q⟩ := h
  obtain rfl : u = Value.ref a := rx
  exact d_notIn hu I g ry fun s3 I3 => ⟨.bl (!o.isSome), H, I3, rfl, q⟩
def rSign (neg : Bool) : R2 := fun x y H Q => ∃ (c : Nat) (z : Str), x = .str ⟨#[c]⟩ ∧ y = .str z ∧ Q (.bl (if neg then !decide (c ∈ z.cps.toList) else decide (c ∈ z.cps.toList))) H
def rCmp (K : PySem.W.Frag) : CmpOp → R2
  | .Eq => rEqD K
  | .NotEq => rNeD K
  | .Lt => fun x y H Q => rI0 (fun i j => .bl (decide (i < j))) x y H Q ∨ ∃ i j, x = .str i ∧ y = .str j ∧ Q (.bl (decide (i.cps.toList < j.cps.toList))) H
  | .LtE => rI0 fun i j => .bl (decide (i ≤ j))
  | .Gt => rI0 fun i j => .bl (decide (j < i))
  | .GtE => rI0 fun i j => .bl (decide (j ≤ i))
  | .Is => fun x y H Q => y = .non ∧ Q (.bl (decide (x = .non))) H
  | .IsNot => fun x y H Q => y = .non ∧ Q (.bl (!decide (x = .non))) H
  | .In => fun x y H Q => rSign false x y H Q ∨ rInD K x y H Q ∨ rInT K x y H Q ∨ rDIn false x y H Q
  | .NotIn => fun x y H Q => rSign true x y H Q ∨ rNotInD K x y H Q ∨ rNotInT K x y H Q ∨ rDIn true x y H Q
theorem op_cmp {X : Cx} {k : Nat} (hr : Room k X.A) (op : CmpOp) : OpR X (compareOp op) (rCmp X.K op) := by
  have hu : X.A.units + 65 < cLine := by have := hr.un; omega
  have hu1 : X.A.units + 1 < cLine := by omega
  cases op with
  | Eq => exact op_eqD hr.units
  | NotEq => exact op_neD hr.units
  | Lt => exact op_lt.or op_lt_str
  | LtE => exact op_le
  | Gt => exact op_gt
  | GtE => exact op_ge
  | Is => exact op_isN
  | IsNot => exact op_notN
  | In => exact op_in_sign.or ((op_inD hu).or ((op_inT hu).or (op_inDic hu1)))
  | NotIn => exact op_notIn_sign.or ((op_notInD hu).or ((op_notInT hu).or (op_notInDic hu1)))
theorem RV.isNon {d : D} {v : V} (r : RV K F be H d v) : (v = .non ↔ d = .non) := by
  cases r <;> simp
theorem eqD_ok (rep : Rep K F be h H) {dx dy : D} {x y : V} {b : Bool} (rx : RV K F be H dx x) (ry : RV K F be H dy y) (e : eqD h dx dy = some b) :
    ∃ d e, Dp K H x d ∧ Dp K H y e ∧ SeqAt.shaped d = true ∧ SeqAt.shaped e = true ∧ PyData.eqv d e = b := by
  unfold eqD at e
  split at e
  · rename_i z
    simp only [Bool.and_eq_true] at z
    simp only [Option.some.injEq] at e
    exact ⟨_, _, res_dp rep rx z.1, res_dp rep ry z.2, okD_shaped (Nat.le_refl _) z.1, okD_shaped (Nat.le_refl _) z.2, by rw [eqv_deq _ _ 64 64 z.1 z.2]; exact e⟩
  · cases e
/-- the items of a tuple or a list as data -/
theorem items_dp (rep : Rep K F be h H) {d : D} {v : V} {xs : List D} {n : Nat} (r : RV K F be H d v) (e : itemsOf h d = some xs) (ok : xs.all (okD n) = true) : Dp K H v (.list (D.pdL xs)) ∨ Dp K H v (.tuple (D.pdL xs)) := by
  obtain ⟨a, vs, rfl, q, t⟩ := itemsOf_ok rep r e
  rcases q with q | q
  · exact .inl (.lst q (t.dp n ok))
  · exact .inr (.tup q (t.dp n ok))
theorem shapedL {xs : List D} (ok : xs.all (okD 60) = true) : SeqAt.shaped (.list (D.pdL xs)) = true ∧ SeqAt.shaped (.tuple (D.pdL xs)) = true := by
  have q := okDL_lay xs 60 ok
  have e1 : PyData.depth (.list (D.pdL xs)) = PyData.depthAll (D.pdL xs) + 1 := by simp only [PyData.depth]
  have e2 : PyData.depth (.tuple (D.pdL xs)) = PyData.depthAll (D.pdL xs) + 1 := by simp only [PyData.depth]
  have e3 : PyData.canLay0 (.list (D.pdL xs)) = PyData.canLayAll0 (D.pdL xs) := by simp only [PyData.canLay0]
  have e4 : PyData.canLay0 (.tuple (D.pdL xs)) = PyData.canLayAll0 (D.pdL xs) := by simp only [PyData.canLay0]
  simp only [SeqAt.shaped, e1, e2, e3, e4, Bool.and_eq_true, decide_eq_true_eq]
  exact ⟨⟨q.1, by omega⟩, ⟨q.1, by omega⟩⟩
theorem sign_eq : ∀ {c : Str} {n : Nat}, c.cps.toList = [n] → c = ⟨#[n]⟩
  | ⟨arr⟩, n, h => by
    have : arr = #[n] := Array.ext' h
    rw [this]
theorem inD_ok (rep : Rep K F be h H) {dx dy : D} {x y : V} {b neg : Bool} {Q : V → Hp → Prop} (rx : RV K F be H dx x) (ry : RV K F be H dy y) (e : inD h dx dy = some b) (q : Q (.bl (if neg then !b else b)) H) :
    rSign neg x y H Q ∨ (if neg then rNotInD K x y H Q else rInD K x y H Q) ∨ (if neg then rNotInT K x y H Q else rInT K x y H Q) ∨ rDIn neg x y H Q := by
  unfold inD at e
  split at e
  · cases ry
    split at e
    · cases rx
      split at e
      · rename_i c n hc
        simp only [Option.some.injEq] at e
        subst e
        refine .inl ⟨n, _, ?_, rfl, q⟩
        rw [sign_eq hc]
      · cases e
    · cases e
  · split at e
    · rename_i ys hy
      split at e
      · rename_i z
        simp only [Bool.and_eq_true] at z
        simp only [Option.some.injEq] at e
        subst e
        have ea := any_deq z.1 ys 60 z.2
        have hd := res_dp rep rx z.1
        have sd := okD_shaped (n := 60) (by decide) z.1
        rcases items_dp rep ry hy z.2 with p | p
        · refine .inr (.inl ?_)
          cases neg with
          | true => exact ⟨_, _, hd, p, sd, (shapedL z.2).1, by rw [ea]; exact q⟩
          | false => exact ⟨_, _, hd, p, sd, (shapedL z.2).1, by rw [ea]; exact q⟩
        · refine .inr (.inr (.inl ?_))
          cases neg with
          | true => exact ⟨_, _, hd, p, sd, (shapedL z.2).2, by rw [ea]; exact q⟩
          | false => exact ⟨_, _, hd, p, sd, (shapedL z.2).2, by rw [ea]; exact q⟩
      · cases e
    · split at e
      · rename_i t kvs k hd hk
        split at e
        · rename_i hkt
          simp only [Option.some.injEq] at e
          subst e
          obtain ⟨a, o, rfl, g, z⟩ := dget_ok rep ry hd rx hk hkt
          refine .inr (.inr (.inr ⟨a, o, rfl, g, ?_⟩))
          rcases z with ⟨z1, z2⟩ | ⟨d', v', z1, z2, _⟩
          · subst z2
            rw [z1] at q
            exact q
          · subst z2
            rw [z1] at q
            exact q
        · cases e
      · cases e
theorem cmpD_ok (rep : Rep K F be h H) {op : CmpOp} {dx dy : D} {x y : V} {b : Bool} {Q : V → Hp → Prop} (rx : RV K F be H dx x) (ry : RV K F be H dy y) (e : cmpD op dx dy h = some b) (q : Q (.bl b) H) : rCmp K op x y H Q := by
  unfold cmpD at e
  cases op with
  | Eq =>
    obtain ⟨d, d', h1, h2, h3, h4, h5⟩ := eqD_ok rep rx ry e
    exact ⟨d, d', h1, h2, h3, h4, by rw [h5]; exact q⟩
  | NotEq =>
    simp only [Option.map_eq_some_iff] at e
    obtain ⟨c, e, rfl⟩ := e
    obtain ⟨d, d', h1, h2, h3, h4, h5⟩ := eqD_ok rep rx ry e
    exact ⟨d, d', h1, h2, h3, h4, by rw [h5]; exact q⟩
  | Lt =>
    simp only at e
    split at e
    · cases rx; cases ry
      simp only [Option.some.injEq] at e
      subst e
      exact .inl ⟨_, _, rfl, rfl, q⟩
    · cases rx; cases ry
      simp only [Option.some.injEq] at e
      subst e
      exact .inr ⟨_, _, rfl, rfl, q⟩
    · cases e
  | LtE =>
    simp only at e
    split at e
    · cases rx; cases ry
      simp only [Option.some.injEq] at e
      subst e
      exact ⟨_, _, rfl, rfl, q⟩
    · cases e
  | Gt =>
    simp only at e
    split at e
    · cases rx; cases ry
      simp only [Option.some.injEq] at e
      subst e
      exact ⟨_, _, rfl, rfl, q⟩
    · cases e
  | GtE =>
    simp only at e
    split at e
    · cases rx; cases ry
      simp only [Option.some.injEq] at e
      subst e
      exact ⟨_, _, rfl, rfl, q⟩
    · cases e
  | Is =>
    simp only at e
    split at e
    · cases ry
      refine ⟨rfl, ?_⟩
      split at e
      · cases rx
        simp only [Option.some.injEq] at e
        subst e
        exact q
      · rename_i hn
        simp only [Option.some.injEq] at e
        subst e
        rw [decide_eq_false (fun z => hn (rx.isNon.mp z))]
        exact q
    · cases e
  | IsNot =>
    simp only at e
    split at e
    · cases ry
      refine ⟨rfl, ?_⟩
      split at e
      · cases rx
        simp only [Option.some.injEq] at e
        subst e
        exact q
      · rename_i hn
        simp only [Option.some.injEq] at e
        subst e
        rw [decide_eq_false (fun z => hn (rx.isNon.mp z))]
        exact q
    · cases e
  | In => exact inD_ok (neg := false) rep rx ry e q
  | NotIn =>
    simp only [Option.map_eq_some_iff] at e
    obtain ⟨c, e, rfl⟩ := e
    exact inD_ok (neg := true) rep rx ry e q

/-! ### truth -/
theorem truD_ok (rep : Rep K F be h H) {d : D} {v : V} {b : Bool} (r : RV K F be H d v) (e : truD h d = some b) : TruV K v H b := by
  cases r with
  | non => simp only [truD, Option.some.injEq] at e; exact e.symm
  | bl c => simp only [truD, Option.some.injEq] at e; exact e.symm
  | int i => simp only [truD, Option.some.injEq] at e; exact e.symm
  | str s =>
    simp only [truD] at e
    split at e
    · rename_i z
      simp only [Option.some.injEq] at e
      refine ⟨Nat.le_trans z (by decide), ?_⟩
      rw [← e]
      have : ((s.length : Nat) != 0) = (((s.length : Nat) : Int) != 0) := by
        rw [Bool.eq_iff_iff]
        simp
      exact this
    · cases e
  | ty => simp [truD] at e
  | wt => simp [truD] at e
  | tup q _ t =>
    simp only [truD, Option.some.injEq] at e
    refine .inr (.inl ⟨_, fT q, ?_⟩)
    cases t <;> exact e.symm
  | lst q _ _ t =>
    simp only [truD, Option.some.injEq] at e
    refine .inl ⟨_, .of q, ?_⟩
    cases t <;> exact e.symm
  | scr q =>
    simp only [truD, Option.some.injEq] at e
    refine .inl ⟨_, q.sq, ?_⟩
    rw [← e]
    simp
  | scl q _ _ =>
    simp only [truD, Option.some.injEq] at e
    refine .inl ⟨_, .of q, ?_⟩
    rw [← e]
    simp
  | dic0 q _ _ t => simp [truD] at e
  | exc => simp [truD] at e
  | adr => simp [truD] at e
  | loc q =>
    simp only [truD] at e
    obtain ⟨o, e1, ro⟩ := rep.at q
    rw [e1] at e
    cases ro with
    | lst q t =>
      simp only [Option.some.injEq] at e
      refine .inl ⟨_, .of q, ?_⟩
      cases t <;> exact e.symm
    | dic0 q t =>
      simp only [Option.some.injEq] at e
      refine .inr (.inr ⟨_, q, ?_⟩)
      cases t <;> exact e.symm
    | fdic0 q t => simp at e
    | ins q t => simp at e
end
end Lt

/-! Lt, part F: built-ins, subscripts, slices, stores. -/
namespace Lt
open PySem PySem.Spec PyProof.Rows L2
variable [Mk]
section
variable {K : PySem.W.Frag} {F be be' be1 : List Addr} {H H' H1 : Hp} {h h' : MHeap} {E : String → Hp → Prop}

/-! ### built-ins -/
def rLenD (K : PySem.W.Frag) : List V → Hp → VK → Prop := fun xs H Q => (∃ x n, xs = [x] ∧ LenV K x H n ∧ Q (.int n) H) ∨ ∃ a kvs, xs = [.ref a] ∧ H a = some (.dK kvs) ∧ Q (.int kvs.length) H
theorem RVs.bools : ∀ {ds : List D} {vs : List V} {bs : List Bool}, RVs K F be H ds vs → bools ds = some bs → vs = bs.map V.bl
  | _, _, _, .nil, e => by
    simp only [Lt.bools, Option.some.injEq] at e
    subst e
    rfl
  | _, _, _, .cons r t, e => by
    cases r with
    | bl b =>
      simp only [Lt.bools, Option.map_eq_some_iff] at e
      obtain ⟨cs, e, rfl⟩ := e
      rw [RVs.bools t e]
      rfl
    | _ => simp [Lt.bools] at e
theorem kB (a b : String) (r : Bool) (h : kitB a b = some r) {K : PySem.W.Frag} : PySem.W.kitOne K (.type a) (.type b) = some r := kit_ty h
theorem isD_ok {d : D} {v : V} {t : String} {b : Bool} (ht : ["int", "bool", "str", "tuple", "list"].contains t = true) (r : RV K F be H d v) (e : isD h d t = some b) : ∃ u, TyX K H v u ∧ PySem.W.kitOne K u (.type t) = some b := by
  have ht' : t = "int" ∨ t = "bool" ∨ t = "str" ∨ t = "tuple" ∨ t = "list" := by simpa using ht
  cases r with
  | non =>
    refine ⟨_, .base .non, ?_⟩
    rcases ht' with rfl | rfl | rfl | rfl | rfl <;> (simp only [isD, Option.some.injEq] at e; subst e; exact kB _ _ _ (by decide +kernel))
  | bl c =>
    refine ⟨_, .base (.bl c), ?_⟩
    rcases ht' with rfl | rfl | rfl | rfl | rfl <;> (simp only [isD, Option.some.injEq] at e; subst e; exact kB _ _ _ (by decide +kernel))
  | int c =>
    refine ⟨_, .base (.int c), ?_⟩
    rcases ht' with rfl | rfl | rfl | rfl | rfl <;> (simp only [isD, Option.some.injEq] at e; subst e; exact kB _ _ _ (by decide +kernel))
  | str c =>
    refine ⟨_, .base (.str c), ?_⟩
    rcases ht' with rfl | rfl | rfl | rfl | rfl <;> (simp only [isD, Option.some.injEq] at e; subst e; exact kB _ _ _ (by decide +kernel))
  | tup q _ _ =>
    refine ⟨_, .fTuple q, ?_⟩
    rcases ht' with rfl | rfl | rfl | rfl | rfl <;> (simp only [isD, Option.some.injEq] at e; subst e; exact kB _ _ _ (by decide +kernel))
  | lst q _ _ _ =>
    refine ⟨_, .base (.lst q), ?_⟩
    rcases ht' with rfl | rfl | rfl | rfl | rfl <;> (simp only [isD, Option.some.injEq] at e; subst e; exact kB _ _ _ (by decide +kernel))
  | _ => simp [isD] at e
/-- tuple(x) -/
def rTupS (K : PySem.W.Frag) : List V → Hp → VK → Prop := fun xs H Q => ∃ p ys, xs = [.ref p] ∧ ((SqL K H p ys ∧ ∀ l o, H l = none → o.dict = none → Q (.ref l) (upd H l (.frz o (.tup ys)))) ∨ (SqT K H p ys ∧ Q (.ref p) H))
theorem call_tupS {X : Cx} : CallR X (.type "tuple") (rTupS X.K) := by
  intro pins s σ H xs us Q I r h
  obtain ⟨p, ys, rfl, h⟩ := h
  have eu := Vals.ref1 r
  subst eu
  rcases h with ⟨hq, q⟩ | ⟨hq, q⟩
  · obtain ⟨its, r2, pl, hz⟩ := I.list hq
    have el := r2.length
    refine call_tuple_list pl.isList (fun h2 kp => ?_) (by simp; omega)
    have I1 : Inv X pins σ H { s with heap := h2 } := I.kept (t' := s.toks) kp
    exact ⟨.ref h2.objs.size, _, Inv.laidT (s := s) I1 r2 hz, rfl, q _ _ (I1.hok.fresh (Nat.le_refl _)) rfl⟩
  · obtain ⟨its, r2, pl, hz⟩ := I.tuple hq
    exact call_tuple_same pl ⟨.ref p, H, I, rfl, q⟩
/-- sorted(d), the keys texts -/
def rSortDS : List V → Hp → VK → Prop := fun xs H Q => ∃ (a : Addr) (kvs : List (Key × V)) (ks : List Str), xs = [.ref a] ∧ Rd H a (.dK kvs) ∧ kvs.map (·.1) = ks.map Sum.inr ∧ ks.length < 64 ∧ ∀ ys p, ys.Perm ks → sortedS ys = true → H p = none → Q (.ref p) (upd H p (.lst (ys.map V.str)))
/-- what a built-in's name holds -/
def bltV (f : String) : Option Value :=
  match f with
  | "isinstance" => some (.builtin "isinstance")
  | "len" => some (.builtin "len")
  | "all" => some (.builtin "all")
  | "any" => some (.builtin "any")
  | "abs" => some (.builtin "abs")
  | "min" => some (.builtin "min")
  | "max" => some (.builtin "max")
  | "sorted" => some (.builtin "sorted")
  | "tuple" => some (.type "tuple")
  | "list" => some (.type "list")
  | "int" => some (.type "int")
  | _ => none
def rBlt (K : PySem.W.Frag) (f : String) : List V → Hp → VK → Prop :=
  match f with
  | "isinstance" => rIsi K
  | "len" => rLenD K
  | "all" => rAll K
  | "any" => rAny K
  | "min" => rMin K
  | "max" => rMax K
  | "sorted" => rSortDS
  | "abs" => fun xs H Q => ∃ i, xs = [.int i] ∧ Q (.int (if i < 0 then -i else i)) H
  | "tuple" => rTupS K
  | "list" => fun xs H Q => ∃ p ys, xs = [.ref p] ∧ (SqL K H p ys ∨ SqT K H p ys) ∧ ∀ l, H l = none → Q (.ref l) (upd H l (.lst ys))
  | "int" => fun xs H Q => (∃ i, xs = [.int i] ∧ Q (.int i) H) ∨ ∃ k, xs = [.bl k] ∧ Q (.int (if k then 1 else 0)) H
  | _ => fun _ _ _ => False
theorem boot_blt {f : String} {u : Value} (e : bltV f = some u) : bootBuiltins (Str.ofString f) = some u ∧ (Str.ofString f) ≠ "__name__" ∧ ((Str.ofString f) == ("__debug__" : Str)) = false := by
  unfold bltV at e
  split at e <;> first
    | (cases e; exact ⟨by decide +kernel, by decide +kernel, by decide +kernel⟩)
    | cases e
theorem call_blt {X : Cx} (hc : X.calm = true) {f : String} {u : Value} (e : bltV f = some u) : CallR X u (rBlt X.K f) := by
  unfold bltV at e
  split at e
  · cases e; exact call_isi
  · cases e; exact call_len.or call_lenD
  · cases e; exact cr_all hc
  · cases e; exact cr_any hc
  · cases e; exact call_abs
  · cases e; exact cr_min hc
  · cases e; exact cr_max hc
  · cases e; exact call_sortedD hc
  · cases e; exact call_tupS
  · cases e; exact call_list_of
  · cases e; exact call_int1
  · cases e
theorem lenD_ok (rep : Rep K F be h H) {d : D} {v : V} {n : Nat} {Q : V → Hp → Prop} (r : RV K F be H d v) (e : lenD h d = some n) (q : Q (.int n) H) : rLenD K [v] H Q := by
  unfold lenD at e
  split at e
  · cases r
    split at e
    · rename_i z
      simp only [Option.some.injEq] at e
      subst e
      exact .inl ⟨_, _, rfl, ⟨Nat.le_trans z (by decide), rfl⟩, q⟩
    · cases e
  · split at e
    · rename_i xs hx
      simp only [Option.some.injEq] at e
      subst e
      obtain ⟨a, vs, rfl, z, t⟩ := itemsOf_ok rep r hx
      rw [t.length] at q
      rcases z with z | z
      · exact .inl ⟨_, _, rfl, .inl ⟨_, z, rfl⟩, q⟩
      · exact .inl ⟨_, _, rfl, .inr ⟨_, z, rfl⟩, q⟩
    · split at e
      · split at e
        · rename_i hd
          cases e
          cases r with
          | loc hb =>
            have ro := rep.obj _ _ _ hb hd
            cases ro with
            | dic0 z1 z2 =>
              rw [z2.length] at q
              exact .inr ⟨_, _, rfl, z1, q⟩
        · cases e
      · cases e
/-! ### least, greatest, sorted -/
theorem RVs.intsD : ∀ {ds : List D} {vs : List V} {ns : List Int}, RVs K F be H ds vs → Lt.intsD ds = some ns → vs = ns.map V.int
  | _, _, _, .nil, e => by
    simp only [Lt.intsD, Option.some.injEq] at e
    subst e
    rfl
  | _, _, _, .cons r t, e => by
    cases r with
    | int b =>
      simp only [Lt.intsD, Option.map_eq_some_iff] at e
      obtain ⟨cs, e, rfl⟩ := e
      rw [RVs.intsD t e]
      rfl
    | _ => simp [Lt.intsD] at e
theorem minI_ok : ∀ (l : List Int) (i : Int), minI i l ∈ i :: l ∧ ∀ y ∈ i :: l, minI i l ≤ y
  | [], i => by simp [minI]
  | j :: r, i => by
    obtain ⟨h1, h2⟩ := minI_ok r (if j < i then j else i)
    simp only [minI]
    refine ⟨?_, fun y hy => ?_⟩
    · rcases List.mem_cons.mp h1 with z | z
      · rw [z]
        split <;> simp
      · exact List.mem_cons_of_mem _ (List.mem_cons_of_mem _ z)
    · have h3 := h2 _ List.mem_cons_self
      rcases List.mem_cons.mp hy with rfl | hy
      · split at h3 <;> split <;> omega
      · rcases List.mem_cons.mp hy with rfl | hy
        · split at h3 <;> split <;> omega
        · exact h2 y (List.mem_cons_of_mem _ hy)
theorem maxI_ok : ∀ (l : List Int) (i : Int), maxI i l ∈ i :: l ∧ ∀ y ∈ i :: l, y ≤ maxI i l
  | [], i => by simp [maxI]
  | j :: r, i => by
    obtain ⟨h1, h2⟩ := maxI_ok r (if i < j then j else i)
    simp only [maxI]
    refine ⟨?_, fun y hy => ?_⟩
    · rcases List.mem_cons.mp h1 with z | z
      · rw [z]
        split <;> simp
      · exact List.mem_cons_of_mem _ (List.mem_cons_of_mem _ z)
    · have h3 := h2 _ List.mem_cons_self
      rcases List.mem_cons.mp hy with rfl | hy
      · split at h3 <;> split <;> omega
      · rcases List.mem_cons.mp hy with rfl | hy
        · split at h3 <;> split <;> omega
        · exact h2 y (List.mem_cons_of_mem _ hy)
theorem minD_ok (rep : Rep K F be h H) {d dv : D} {v : V} {Q : V → Hp → Prop} (r : RV K F be H d v) (e : minD d h = some dv) (q : ∀ c, RV K F be H dv c → Q c H) : rMin K [v] H Q := by
  unfold minD at e
  split at e
  · rename_i ys hy
    obtain ⟨a, vs, rfl, ha, ra⟩ := seqOf_ok rep r hy
    split at e
    · rename_i i l hi
      simp only [Option.some.injEq] at e
      subst e
      have := ra.intsD hi
      subst this
      refine ⟨a, i :: l, rfl, .of ha, by simp, fun m hm hle => ?_⟩
      have w := minI_ok l i
      have : m = minI i l := Int.le_antisymm (hle _ w.1) (w.2 _ hm)
      rw [this]
      exact q _ (.int _)
    · cases e
  · cases e
theorem maxD_ok (rep : Rep K F be h H) {d dv : D} {v : V} {Q : V → Hp → Prop} (r : RV K F be H d v) (e : maxD d h = some dv) (q : ∀ c, RV K F be H dv c → Q c H) : rMax K [v] H Q := by
  unfold maxD at e
  split at e
  · rename_i ys hy
    obtain ⟨a, vs, rfl, ha, ra⟩ := seqOf_ok rep r hy
    split at e
    · rename_i i l hi
      simp only [Option.some.injEq] at e
      subst e
      have := ra.intsD hi
      subst this
      refine ⟨a, i :: l, rfl, .of ha, by simp, fun m hm hle => ?_⟩
      have w := maxI_ok l i
      have : m = maxI i l := Int.le_antisymm (w.2 _ hm) (hle _ w.1)
      rw [this]
      exact q _ (.int _)
    · cases e
  · cases e
/-- no less, of texts -/
def leS (a b : Str) : Prop := strLt b a = false
theorem leS_trans {a b c : Str} (h1 : leS a b) (h2 : leS b c) : leS a c := by
  simp only [leS, strLt, decide_eq_false_iff_not] at h1 h2 ⊢
  intro z
  rcases Std.Trichotomous.rel_or_eq_or_rel_swap (r := fun (x y : List Nat) => x < y) (a := b.cps.toList) (b := c.cps.toList) with w | w | w
  · exact h1 (List.lt_trans w z)
  · rw [w] at h1; exact h1 z
  · exact h2 w
theorem leS_anti {a b : Str} (h1 : leS a b) (h2 : leS b a) : a = b := by
  simp only [leS, strLt, decide_eq_false_iff_not] at h1 h2
  have : a.cps.toList = b.cps.toList := List.le_antisymm h1 h2
  cases a; cases b
  simp only at this
  rw [Str.mk.injEq]
  exact Array.toList_inj.mp this
theorem leS_total {a b : Str} (h : strLt a b = true) : leS a b := by
  simp only [leS, strLt, decide_eq_false_iff_not, decide_eq_true_eq] at h ⊢
  exact fun z => List.lt_irrefl _ (List.lt_trans h z)
theorem insS_mem {x y : Str} : ∀ {l : List Str}, y ∈ insS x l ↔ y = x ∨ y ∈ l
  | [] => by simp [insS]
  | z :: r => by
    simp only [insS]
    split
    · simp only [List.mem_cons, insS_mem (l := r)]
      constructor
      · rintro (h | h | h) <;> simp [h]
      · rintro (h | h | h) <;> simp [h]
    · simp
theorem insS_pw {x : Str} : ∀ {l : List Str}, l.Pairwise leS → (insS x l).Pairwise leS
  | [], _ => by simp [insS]
  | z :: r, h => by
    simp only [insS]
    have h' := List.pairwise_cons.mp h
    split
    · rename_i q
      refine List.pairwise_cons.mpr ⟨fun y hy => ?_, insS_pw h'.2⟩
      rcases insS_mem.mp hy with rfl | hy
      · exact leS_total q
      · exact h'.1 y hy
    · rename_i q
      have q' : leS x z := by simpa [leS] using q
      refine List.pairwise_cons.mpr ⟨fun y hy => ?_, h⟩
      rcases List.mem_cons.mp hy with rfl | hy
      · exact q'
      · exact leS_trans q' (h'.1 y hy)
theorem insS_perm {x : Str} : ∀ {l : List Str}, (insS x l).Perm (x :: l)
  | [] => .refl _
  | z :: r => by
    simp only [insS]
    split
    · exact (List.Perm.cons z insS_perm).trans (List.Perm.swap x z r)
    · exact .refl _
theorem sortS_perm : ∀ {l : List Str}, (sortS l).Perm l
  | [] => .refl _
  | x :: r => insS_perm.trans (List.Perm.cons x sortS_perm)
theorem sortS_pw : ∀ {l : List Str}, (sortS l).Pairwise leS
  | [] => .nil
  | x :: r => insS_pw sortS_pw
theorem rising_pw : ∀ {l : List Str} {p : Str}, risingS p l = true → (p :: l).Pairwise leS
  | [], p, _ => by simp
  | x :: r, p, h => by
    simp only [risingS, Bool.and_eq_true, Bool.not_eq_true'] at h
    have w := rising_pw h.2
    have e : leS p x := by
      have := h.1
      rw [ltCps_eq] at this
      exact this
    refine List.pairwise_cons.mpr ⟨fun y hy => ?_, w⟩
    rcases List.mem_cons.mp hy with rfl | hy
    · exact e
    · exact leS_trans e ((List.pairwise_cons.mp w).1 y hy)
theorem sorted_pw {l : List Str} (h : sortedS l = true) : l.Pairwise leS := by
  cases l with
  | nil => exact .nil
  | cons x r => exact rising_pw h
theorem sort_eq {l ys : List Str} (hp : ys.Perm l) (hs : sortedS ys = true) : ys = sortS l :=
  List.Perm.eq_of_pairwise (fun a b _ _ h1 h2 => leS_anti h1 h2) (sorted_pw hs) sortS_pw (hp.trans sortS_perm.symm)
theorem RVp.keyS : ∀ {kvs : List (Ky × D)} {ls : List (Key × V)} {ks : List Str}, RVp K F be H kvs ls → Lt.keyS kvs = some ks → ls.map (·.1) = ks.map Sum.inr
  | _, _, _, .nil, e => by
    simp only [Lt.keyS, Option.some.injEq] at e
    subst e
    rfl
  | _, _, _, .cons k r t, e => by
    cases k with
    | str s =>
      simp only [Lt.keyS, Option.map_eq_some_iff] at e
      obtain ⟨cs, e, rfl⟩ := e
      simp only [List.map_cons, RVp.keyS t e]
    | int i => simp [Lt.keyS] at e
theorem RVs.strs : ∀ (l : List Str), RVs K F be H (l.map D.str) (l.map V.str)
  | [] => .nil
  | s :: r => .cons (.str s) (RVs.strs r)
theorem sortD_ok (rep : Rep K F be h H) {own : Bool} {d : D} {v : V} {Q : V → Hp → Prop} (r : RV K F be H d v) (q : Post K F be H (RV K F) (sortD own d h) Q E) : rSortDS [v] H Q := by
  unfold sortD at q
  split at q
  · rename_i kvs hd
    obtain ⟨a, rfl, _, ls, z1, z2⟩ := dicOf_ok rep r hd
    split at q
    · rename_i ks hk
      split at q
      · rename_i hz
        refine ⟨a, ls, ks, rfl, z1, z2.keyS hk, hz, fun ys p hp hs np => ?_⟩
        rw [sort_eq hp hs]
        exact q.mkL rep (RVs.strs _) np
      · exact q.elim
    · exact q.elim
  · exact q.elim
theorem bltD_ok (rep : Rep K F be h H) {own : Bool} {f : String} {ds : List D} {vs : List V} {Q : V → Hp → Prop} (r : RVs K F be H ds vs) (q : Post K F be H (RV K F) (bltD own f ds h) Q E) : rBlt K f vs H Q := by
  unfold bltD at q
  split at q
  · cases r with
    | cons rx r =>
    cases r with
    | cons ry r =>
    cases r
    cases ry
    split at q
    · rename_i ht
      obtain ⟨d, e, q⟩ := q.of1 rep
      simp only [Option.map_eq_some_iff] at e
      obtain ⟨b, e, rfl⟩ := e
      obtain ⟨u, h1, h2⟩ := isD_ok ht rx e
      exact ⟨_, _, _, _, b, rfl, .ty _, h1, h2, q _ (.bl b)⟩
    · exact q.elim
  · cases r with
    | cons rx r =>
    cases r
    obtain ⟨d, e, q⟩ := q.of1 rep
    simp only [Option.map_eq_some_iff] at e
    obtain ⟨n, e, rfl⟩ := e
    exact lenD_ok rep rx e (q _ (.int n))
  · cases r with
    | cons rx r =>
    cases r
    split at q
    · rename_i ys hy
      obtain ⟨a, vs, rfl, ha, ra⟩ := seqOf_ok rep rx hy
      obtain ⟨d, e, q⟩ := q.of1 rep
      simp only [Option.map_eq_some_iff] at e
      obtain ⟨bs, e, rfl⟩ := e
      have := ra.bools e
      subst this
      exact ⟨_, bs, rfl, .of ha, q _ (.bl _)⟩
    · exact q.elim
  · cases r with
    | cons rx r =>
    cases r
    split at q
    · rename_i ys hy
      obtain ⟨a, vs, rfl, ha, ra⟩ := seqOf_ok rep rx hy
      obtain ⟨d, e, q⟩ := q.of1 rep
      simp only [Option.map_eq_some_iff] at e
      obtain ⟨bs, e, rfl⟩ := e
      have := ra.bools e
      subst this
      exact ⟨_, bs, rfl, .of ha, q _ (.bl _)⟩
    · exact q.elim
  · cases r with
    | cons rx r =>
    cases r
    cases rx with
    | tup ha na ra => exact ⟨_, _, rfl, .inr ⟨fT ha, q.ok rep (.tup ha na ra)⟩⟩
  · cases r with
    | cons rx r =>
    cases r
    split at q
    · rename_i ys hy
      obtain ⟨a, vs, rfl, ha, ra⟩ := seqOf_ok rep rx hy
      exact ⟨_, _, rfl, .inl ⟨.of ha, fun p o np nd => q _ _ be (Ext.new np) (rep.new np) (.tup upd_same nd (ra.ext (Ext.new np)))⟩⟩
    · exact q.elim
  · cases r with
    | cons rx r =>
    cases r
    split at q
    · rename_i ys hy
      obtain ⟨a, vs, rfl, ha, ra⟩ := itemsOf_ok rep rx hy
      exact ⟨_, _, rfl, ha, fun p np => q.mkL rep ra np⟩
    · exact q.elim
  · cases r with
    | cons rx r =>
    cases r
    obtain ⟨d, e, q⟩ := q.of1 rep
    exact minD_ok rep rx e q
  · cases r with
    | cons rx r =>
    cases r
    obtain ⟨d, e, q⟩ := q.of1 rep
    exact maxD_ok rep rx e q
  · cases r with
    | cons rx r =>
    cases r
    exact sortD_ok rep rx q
  · cases r with
    | cons rx r =>
    cases r
    cases rx
    exact ⟨_, rfl, q.ok rep (.int _)⟩
  · cases r with
    | cons rx r =>
    cases r
    cases rx
    exact .inl ⟨_, rfl, q.ok rep (.int _)⟩
  · cases r with
    | cons rx r =>
    cases r
    cases rx
    exact .inr ⟨_, rfl, q.ok rep (.int _)⟩
  · exact q.elim

/-! ### subscripts, slices -/
def rIxD : R2 := fun x y H Q => ∃ a v, x = .ref a ∧ DGet H a y (some v) ∧ Q v H
theorem ix_dict {X : Cx} (hu : X.A.units + 1 < cLine) : IxR X rIxD := by
  intro value slice pins s σ H x y o i Q I rx ry h hs
  obtain ⟨a, v, rfl, g, q⟩ := h
  obtain rfl : o = Value.ref a := rx
  have hT := dict_typeIs I g
  unfold subscriptTail
  refine wpAny_bind ?_
  rw [getitemInPython_of_ne hT.not_modules]
  refine wpAny_bind (wpAny_specialOf hT PySem.F.slot_dict_getitem.lookup ?_)
  have fin : wpAny (model X.prog X.w) X.A (subscripted slice false (.ref a) i) (fun r s₃ => wpAny (model X.prog X.w) X.A (letTemporaryGo value (.ref a) r >>= fun _ => pure r) (EP X pins σ Q) X.xe s₃) X.xe s := by
    rw [hs]
    exact wpAny_operating (wpAny_mono (d_getItem hu I g ry fun w' s3 I3 rw' => (⟨v, H, I3, rw', q⟩ : EP X pins σ Q w' s3)) (fun r s₃ h₃ => wpAny_bind (wpAny_letTemporaryGo (wpAny_pure h₃))) fun _ _ x => x)
  first
    | exact wpAny_pure (wpAny_bind fin)
    | exact wpAny_bind (wpAny_pure (wpAny_bind fin))
    | exact wpAny_bind fin
def rIxA (K : PySem.W.Frag) : R2 := fun x y H Q => rIx K x y H Q ∨ rIxD x y H Q
theorem ix_all {X : Cx} {k : Nat} (hr : Room k X.A) : IxR X (rIxA X.K) := ix_seq.or (ix_dict (hu_of hr))
theorem RVs.atI {xs : List D} {vs : List V} {i : Int} {d : D} (r : RVs K F be H xs vs) (e : L2.atI xs i = some d) : ∃ v, L2.atI vs i = some v ∧ RV K F be H d v := by
  unfold L2.atI at e ⊢
  rw [← r.length]
  cases hj : ixN xs.length i with
  | none => rw [hj] at e; cases e
  | some j =>
    rw [hj] at e
    obtain ⟨v, e1, e2⟩ := r.get (show xs[j]? = some d from e)
    exact ⟨v, e1, e2⟩
theorem getD_ok (rep : Rep K F be h H) {dx dy d : D} {x y : V} {Q : V → Hp → Prop} (rx : RV K F be H dx x) (ry : RV K F be H dy y) (e : getD dx dy h = some d) (q : ∀ v, RV K F be H d v → Q v H) : rIxA K x y H Q := by
  unfold getD at e
  split at e
  · cases rx; cases ry
    split at e
    · rename_i z
      simp only [Option.map_eq_some_iff] at e
      obtain ⟨c, e, rfl⟩ := e
      exact .inl (.inr (.inr ⟨_, _, c, rfl, rfl, Nat.le_trans z (by decide), e, q _ (.str _)⟩))
    · cases e
  · split at e
    · rename_i xs hx
      obtain ⟨a, vs, rfl, z, t⟩ := itemsOf_ok rep rx hx
      split at e
      · cases ry
        obtain ⟨v, e1, e2⟩ := t.atI e
        rcases z with z | z
        · exact .inl (.inl ⟨_, _, _, v, rfl, rfl, z, e1, q v e2⟩)
        · exact .inl (.inr (.inl ⟨_, _, _, v, rfl, rfl, z, e1, q v e2⟩))
      · cases e
    · split at e
      · rename_i t kvs k hd hk
        split at e
        · rename_i hkt
          obtain ⟨a, o, rfl, g, z⟩ := dget_ok rep rx hd ry hk hkt
          rcases z with ⟨z1, z2⟩ | ⟨d', v', z1, z2, z3⟩
          · rw [z1] at e; cases e
          · rw [z1] at e
            cases e
            subst z2
            exact .inr ⟨a, v', rfl, g, q v' z3⟩
        · cases e
      · cases e
theorem RVs.cut {xs : List D} {vs : List V} (r : RVs K F be H xs vs) (lo hi : Option Int) : RVs K F be H (cutX xs lo hi) (cutV vs lo hi) := by
  unfold cutX cutV
  rw [← r.length]
  exact (r.drop _).take _
/-- t[lo:hi]: the whole of it is t itself -/
def rSlS (K : PySem.W.Frag) : V → Option Int → Option Int → Hp → VK → Prop := fun x lo hi H Q => ∃ a xs, x = .ref a ∧ SqT K H a xs ∧
  (HT.sIx xs.length 0 lo = 0 ∧ HT.sIx xs.length xs.length hi = xs.length → Q (.ref a) H) ∧
  (¬ (HT.sIx xs.length 0 lo = 0 ∧ HT.sIx xs.length xs.length hi = xs.length) → ∀ p o, H p = none → o.dict = none → Q (.ref p) (upd H p (.frz o (.tup (cutV xs lo hi)))))
theorem sl_tupS {X : Cx} : SlR X (rSlS X.K) := by
  intro pins s σ H x v vl vu lo hi sl Q I rx hs pl pu h
  obtain ⟨a, xs, rfl, hx, q1, q2⟩ := h
  cases rx
  obtain ⟨us, r, ht, hz⟩ := I.tuple hx
  have en : us.toArray.size = xs.length := by simpa using r.length.symm
  refine ⟨"tuple", _, PyProof.Rows.slot_tuple_getitem.lookup, ht.typeIs, ?_⟩
  by_cases hw : HT.sIx xs.length 0 lo = 0 ∧ HT.sIx xs.length xs.length hi = xs.length
  · exact getItem_tuple_whole ht hs pl pu (by rw [en]; exact hw) ⟨.ref a, H, I, rfl, q1 hw⟩
  · refine HT.getItem_tuple_cut ht hs pl pu (by rw [en]; exact hw) ?_ (by rw [en]; exact hz)
    have rc : Vals (cutV xs lo hi) ((us.toArray.toList.drop (HT.sIx us.toArray.size 0 lo)).take (HT.sIx us.toArray.size us.toArray.size hi - HT.sIx us.toArray.size 0 lo)) := by
      rw [en]
      exact (r.drop _).take _
    exact ⟨.ref s.heap.objs.size, _, Inv.laidT (s := s) (h' := s.heap) I rc (Nat.le_trans (cutV_length xs lo hi) hz), rfl, q2 hw _ _ (I.hok.fresh (Nat.le_refl _)) rfl⟩
def rSlD (K : PySem.W.Frag) : V → Option Int → Option Int → Hp → VK → Prop := fun x lo hi H Q => rSlS K x lo hi H Q ∨ rSlL K x lo hi H Q
theorem sl_all {X : Cx} : SlR X (rSlD X.K) := sl_tupS.or sl_list
theorem cut_whole {α : Type} {xs : List α} {lo hi : Option Int} (h : HT.sIx xs.length 0 lo = 0 ∧ HT.sIx xs.length xs.length hi = xs.length) : cutX xs lo hi = xs := by
  unfold cutX
  rw [h.1, h.2]
  simp
theorem cutD_ok (rep : Rep K F be h H) {own : Bool} {dx : D} {x : V} {lo hi : Option Int} {Q : V → Hp → Prop} (rx : RV K F be H dx x) (q : Post K F be H (RV K F) (cutD own dx lo hi h) Q E) : rSlD K x lo hi H Q := by
  unfold cutD at q
  split at q
  · cases rx with
    | tup ha na ra =>
    refine .inl ⟨_, _, rfl, fT ha, fun e => ?_, fun _ p o np nd => ?_⟩
    · rw [← ra.length] at e
      rw [cut_whole e] at q
      exact q.ok rep (.tup ha na ra)
    · exact q _ _ be (Ext.new np) (rep.new np) (.tup upd_same nd ((ra.cut lo hi).ext (Ext.new np)))
  · split at q
    · rename_i ys hy
      obtain ⟨a, vs, rfl, ha, ra⟩ := seqOf_ok rep rx hy
      exact .inr ⟨_, _, rfl, .of ha, fun p np => q.mkL rep (ra.cut lo hi) np⟩
    · exact q.elim

/-! ### stores -/
def rSetA : V → V → V → Hp → (Hp → Prop) → Prop := fun o i v H Q => rSetL o i v H Q ∨ ∃ a H', o = .ref a ∧ DPut H a i v H' ∧ Q H'
theorem set_all {X : Cx} {k : Nat} (hr : Room k X.A) : PSet X rSetA := by
  intro pins s σ H o i v ov iv u Q I ro ri rv h
  rcases h with h | ⟨a, H', rfl, g, q⟩
  · exact set_list pins s σ H o i v ov iv u Q I ro ri rv h
  · obtain rfl : ov = Value.ref a := ro
    exact d_setItem (hu_of hr) I g ri rv fun s4 I4 => ⟨H', I4, q⟩
theorem putD_ok (rep : Rep K F be h H) {dx dy dv : D} {x y v : V} {h' : MHeap} {Q : Hp → Prop} (rx : RV K F be H dx x) (ry : RV K F be H dy y) (rv : RV K F be H dv v) (e : putD dx dy dv h = some h')
    (q : ∀ H', Ext F be H be H' → Rep K F be h' H' → Q H') : rSetA x y v H Q := by
  unfold putD at e
  split at e
  · cases rx with
    | loc hn =>
    obtain ⟨o, e1, ro⟩ := rep.at hn
    rw [e1] at e
    cases ro with
    | lst ha ra =>
      simp only at e
      split at e
      · cases ry
        simp only [Option.map_eq_some_iff] at e
        obtain ⟨j, e, rfl⟩ := e
        rw [ra.length] at e
        exact .inl ⟨_, _, _, j, rfl, rfl, ha, e, q _ (rep.ext_write hn e1 rfl) (rep.write hn e1 rfl (.lst upd_same ((ra.set rv j).ext (rep.ext_write hn e1 rfl))))⟩
      · cases e
    | dic0 ha ra =>
      simp only at e
      split at e
      · rename_i k hk
        split at e
        · rename_i z
          simp only [Bool.and_eq_true, decide_eq_true_eq] at z
          simp only [Option.some.injEq] at e
          subst e
          obtain ⟨l, hl, rfl⟩ := key0 hk z.1 ry
          exact .inr ⟨_, _, rfl, .k ha (by rw [← ra.length]; exact Nat.lt_of_lt_of_le z.2 (by decide)), q _ (rep.ext_write hn e1 rfl) (rep.write hn e1 rfl (.dic0 upd_same ((ra.put hl rv).ext (rep.ext_write hn e1 rfl))))⟩
        · cases e
      · cases e
    | fdic0 => simp at e
    | ins => simp at e
  · cases e
end
end Lt

/-! Lt, part G: a text of the row against the syntax without places; the context of a body. -/
namespace Lt
open PySem PySem.Spec PyProof.Rows L2
variable [Mk]

/-! ### names -/
structure Sx where
  N : List Str
  sc : Scope
  fn : Str → Bool
  /-- a def that makes lambdas -/
  lam : Bool := false
def visB (sc : Scope) (x : Str) : Bool := match sc.names.lookup x with
  | some .local => true
  | some .cell => true
  | some .free => true
  | _ => false
def locB (S : Sx) (x : Str) : Bool := match S.sc.names.lookup x with
  | some .local => true
  | some .cell => S.fn x
  | _ => false
def glB (sc : Scope) (x : Str) : Bool := (match sc.names.lookup x with
  | some .globalImplicit => true
  | _ => false) && !(x == ("__debug__" : Str))
theorem visB_ok {sc : Scope} {x : Str} (h : visB sc x = true) : Vis sc x := by
  unfold visB at h
  split at h
  · exact .inl (by assumption)
  · exact .inr (.inl (by assumption))
  · exact .inr (.inr (by assumption))
  · cases h
theorem locB_ok {S : Sx} {x : Str} (h : locB S x = true) : Loc S.sc x ∧ (S.fn x = true ∨ S.sc.names.lookup x = some .local) := by
  unfold locB at h
  split at h
  · rename_i e
    exact ⟨.inl e, .inr e⟩
  · rename_i e
    exact ⟨.inr e, .inl h⟩
  · cases h
theorem glB_ok {sc : Scope} {x : Str} (h : glB sc x = true) : sc.names.lookup x = some .globalImplicit ∧ (x == ("__debug__" : Str)) = false := by
  unfold glB at h
  simp only [Bool.and_eq_true, Bool.not_eq_true'] at h
  refine ⟨?_, h.2⟩
  have h1 := h.1
  split at h1
  · assumption
  · cases h1

/-! ### the match -/
def notSlice : Expr → Bool
  | .Slice _ _ _ _ => false
  | _ => true
def notSet : Expr → Bool
  | .Set _ _ _ => false
  | _ => true
/-- the receiver is no super() -/
def plainRecv : Expr → Bool
  | .Call (.Name _ _) [] [] _ => false
  | _ => true
mutual
def mT (S : Sx) : MT → Expr → Bool
  | .name i, e => match e with
    | .Name x _ => decide (S.N[i]? = some x) && locB S x
    | _ => false
  | .tup ts, e => match e with
    | .Tuple es _ _ => mTs S ts es
    | _ => false
def mTs (S : Sx) : List MT → List Expr → Bool
  | [], es => match es with
    | [] => true
    | _ => false
  | t :: ts, es => match es with
    | e :: es => mT S t e && mTs S ts es
    | _ => false
end
mutual
def MT.slots : MT → List Nat
  | .name i => [i]
  | .tup ts => MT.slotsL ts
def MT.slotsL : List MT → List Nat
  | [] => []
  | t :: ts => MT.slots t ++ MT.slotsL ts
end
/-- the block of a comprehension -/
def blkS (S : Sx) (scope : Scope) : Sx := ⟨S.N, relS scope S.sc, fun x => scope.names.lookup x == some .cell, false⟩
/-- a lambda's body -/
def lamS (S : Sx) (scope : Scope) : Sx := ⟨S.N, scope, fun _ => false, false⟩
def noPar : Arguments → Bool
  | ⟨[], [], none, [], [], none, []⟩ => true
  | _ => false
/-- the block's own names, by slots -/
def ownOf (S : Sx) (vs : List Nat) : List (Str × Nat) := vs.filterMap fun i => (S.N[i]?).map fun x => (x, i)
def blkB (S : Sx) (scope : Scope) (vs : List Nat) : Bool := decide ((ownOf S vs).map (·.2) = vs) && blkC S.N S.sc scope (ownOf S vs)
def kwsOf : List Keyword → Option (List Str × List Expr)
  | [] => some ([], [])
  | ⟨some n, e, _⟩ :: r => (kwsOf r).map fun p => (n :: p.1, e :: p.2)
  | _ => none
def methNs : List String := ["append", "extend", "get", "index", "update"]
def tyNs : List String := ["int", "bool", "str", "tuple", "list"]
mutual
def mE (P : Prg) : ME → Sx → Expr → Bool
  | .var i, S, e => match e with
    | .Name x _ => decide (S.N[i]? = some x) && visB S.sc x && !(x == ("__debug__" : Str)) && !(x == ("__classdict__" : Str))
    | _ => false
  | .non, _, e => match e with
    | .Constant .none _ _ => true
    | _ => false
  | .bl b, _, e => match e with
    | .Constant (.bool c) _ _ => decide (b = c)
    | _ => false
  | .int i, _, e => match e with
    | .Constant (.int j) _ _ => decide (i = j)
    | _ => false
  | .str i, _, e => match e with
    | .Constant (.str j) _ _ => decide (i = j)
    | _ => false
  | .glob x, S, e => match e with
    | .Name y _ => decide (Str.ofString x = y) && glB S.sc y
    | _ => false
  | .ty n, S, e => match e with
    | .Name y _ => decide (Str.ofString n = y) && glB S.sc y && tyNs.contains n
    | _ => false
  | .heard b, S, e => match e with
    | .Call (.Name y _) [.Lambda params body scope _] [] _ => decide (y = ("_law_heard" : Str)) && glB S.sc y && S.lam && noPar params && LamX.lamSB S.sc scope && mE P b (lamS S scope) body
    | _ => false
  | .inG neg a x, S, e => match e with
    | .Compare l [o] [.Name y _] _ => decide (o = (if neg then .NotIn else .In)) && decide (y = Str.ofString x) && glB S.sc y && (P.tcs.lookup x).isSome && mE P a S l
    | _ => false
  | .isx a y, S, e => match e with
    | .Call (.Name z _) [l, .Name w _] [] _ => decide (z = ("isinstance" : Str)) && glB S.sc z && decide (w = Str.ofString y) && glB S.sc w && P.exs && (exNames.contains y || y == "ValueError") && mE P a S l
    | _ => false
  | .bin _ op a b, S, e => match e with
    | .BinOp l o r _ => decide (op = o) && mE P a S l && mE P b S r
    | _ => false
  | .neg a, S, e => match e with
    | .UnaryOp .USub l _ => mE P a S l
    | _ => false
  | .not a, S, e => match e with
    | .UnaryOp .Not l _ => mE P a S l
    | _ => false
  | .and as, S, e => match e with
    | .BoolOp .And es _ => mEs P as S es
    | _ => false
  | .or as, S, e => match e with
    | .BoolOp .Or es _ => mEs P as S es
    | _ => false
  | .ite c a b, S, e => match e with
    | .IfExp t l r _ => mE P c S t && mE P a S l && mE P b S r
    | _ => false
  | .cmp op a b, S, e => match e with
    | .Compare l [o] [r] _ => decide (op = o) && notSet r && mE P a S l && mE P b S r
    | _ => false
  | .chain o1 o2 a b c, S, e => match e with
    | .Compare l [p1, p2] [r, t] _ => decide (o1 = p1) && decide (o2 = p2) && notSet r && notSet t && mE P a S l && mE P b S r && mE P c S t
    | _ => false
  | .tup as, S, e => match e with
    | .Tuple es _ _ => mEs P as S es
    | _ => false
  | .lst _ as, S, e => match e with
    | .List es _ => mEs P as S es
    | _ => false
  | .dic _ t kvs, S, e => match e with
    | .Dict ks vs _ => mD P kvs S ks vs && decide (t = 0) && decide (ks.length ≤ 15)
    | _ => false
  | .call f as, S, e => match e with
    | .Call (.Name y _) es kws _ => decide (Str.ofString f = y) && glB S.sc y && (match P.tab.lookup f, kwsOf kws with
      | some d, some (ks, kes) => decide ((d.ps.map Str.ofString).drop es.length = ks) && decide (es.length ≤ d.ps.length) && (P.mth.lookup f).isNone && mEs P as S (es ++ kes)
      | _, _ => false)
    | _ => false
  | .blt _ f as, S, e => match e with
    | .Call (.Name y _) (e :: es) [] _ => decide (Str.ofString f = y) && glB S.sc y && (bltV f).isSome && mEs P as S (e :: es)
    | _ => false
  | .meth m o as, S, e => match e with
    | .Call (.Attribute l n apos) (e :: es) [] cpos => decide (Str.ofString m = n) && methNs.contains m && (apos.endLine == cpos.line) && plainRecv l && decide (es.length < 20) && mE P o S l && mEs P as S (e :: es)
    | _ => false
  | .ix a i, S, e => match e with
    | .Subscript l r _ => notSlice r && mE P a S l && mE P i S r
    | _ => false
  | .cut _ a lo hi, S, e => match e with
    | .Subscript l (.Slice b c none _) _ => mE P a S l && mO P lo S b && mO P hi S c
    | _ => false
  | .rev _ a, S, e => match e with
    | .Subscript l (.Slice none none (some (.UnaryOp .USub (.Constant (.int 1) _ _) _)) _) _ => mE P a S l
    | _ => false
  | .comp _ elt tg it ifs vs, S, e => match e with
    | .ListComp l [⟨t, i, fs, 0⟩] scope _ => blkB S scope vs && decide (tg.slots = vs) && mT (blkS S scope) tg t && mI P it S t i && notSet i && mE P elt (blkS S scope) l && mEs P ifs (blkS S scope) fs && decide (fs.length ≤ 1)
    | _ => false
  | .comp2 _ elt tg it tg1 it1 vs vs1, S, e => match e with
    | .ListComp l [⟨t, i, [], 0⟩, ⟨t1, i1, [], 0⟩] scope _ => blkB S scope vs && decide (tg.slots ++ tg1.slots = vs) && decide (tg1.slots = vs1) && mT (blkS S scope) tg t && mI P it S t i && notSet i && mT (blkS S scope) tg1 t1 && mI P it1 (blkS S scope) t1 i1 && notSet i1 && mE P elt (blkS S scope) l
    | _ => false
  | .fld o f, S, e => match e with
    | .Attribute l n _ => decide (f = n) && P.flds.contains f && decide (P.cn ≠ "") && plainRecv l && mE P o S l
    | _ => false
  | .mcall f m o as, S, e => match e with
    | .Call (.Attribute l n apos) es [] cpos => decide (m = n) && (P.tab.lookup f).isSome && decide (P.mth.lookup f = some m) && decide (P.cn ≠ "") && (apos.endLine == cpos.line) && plainRecv l && decide (es.length < 20) && mE P o S l && mEs P as S es
    | _ => false
  | .make f as, S, e => match e with
    | .Call (.Name y _) es kws _ => decide (Str.ofString P.cn = y) && glB S.sc y && decide (P.cn ≠ "") && decide (P.mth.lookup f = some ("__init__" : Str)) && (match P.tab.lookup f, kwsOf kws with
      | some d, some (ks, kes) => decide ((d.ps.map Str.ofString).drop (es.length + 1) = ks) && decide (es.length + 1 ≤ d.ps.length) && mEs P as S (es ++ kes)
      | _, _ => false)
    | _ => false
  | .lenO f o, S, e => match e with
    | .Call (.Name y _) [l] [] _ => decide (y = ("len" : Str)) && glB S.sc y && (P.tab.lookup f).isSome && decide (P.mth.lookup f = some ("__len__" : Str)) && decide (P.cn ≠ "") && mE P o S l
    | _ => false
  | .strO f o, S, e => match e with
    | .Call (.Name y _) [l] [] _ => decide (y = ("str" : Str)) && glB S.sc y && (P.tab.lookup f).isSome && decide (P.mth.lookup f = some ("__str__" : Str)) && decide (P.cn ≠ "") && mE P o S l
    | _ => false
  | .fstr as, S, e => match e with
    | .JoinedStr (v1 :: v2 :: vs) _ => mF P as S (v1 :: v2 :: vs)
    | _ => false
  | .pop o, S, e => match e with
    | .Call (.Attribute l n apos) [] [] cpos => decide (n = ("pop" : Str)) && (apos.endLine == cpos.line) && plainRecv l && mE P o S l
    | _ => false
def mF (P : Prg) : MEs → Sx → List Expr → Bool
  | .nil, _, es => match es with
    | [] => true
    | _ => false
  | .cons a as, S, es => match es with
    | .FormattedValue e (-1) none _ :: es => mE P a S e && mF P as S es
    | .Constant c k p :: es => (match a with
      | .str _ => true
      | _ => false) && mE P a S (.Constant c k p) && mF P as S es
    | _ => false
def mEs (P : Prg) : MEs → Sx → List Expr → Bool
  | .nil, _, es => match es with
    | [] => true
    | _ => false
  | .cons a as, S, es => match es with
    | e :: es => mE P a S e && mEs P as S es
    | _ => false
def mD (P : Prg) : MEs → Sx → List (Option Expr) → List Expr → Bool
  | .nil, _, ks, vs => ks.isEmpty && vs.isEmpty
  | .cons _ .nil, _, _, _ => false
  | .cons a (.cons b as), S, ks, vs => match ks, vs with
    | some k :: ks, v :: vs => mE P a S k && mE P b S v && mD P as S ks vs
    | _, _ => false
def mO (P : Prg) : MO → Sx → Option Expr → Bool
  | .none, _, e => e.isNone
  | .some a, S, e => match e with
    | some e => mE P a S e
    | none => false
def mI (P : Prg) : MI → Sx → Expr → Expr → Bool
  | .val a, S, _, e => mE P a S e
  | .range1 a, S, _, e => match e with
    | .Call (.Name y _) [l] [] _ => decide (y = ("range" : Str)) && glB S.sc y && mE P a S l
    | _ => false
  | .range2 a b, S, _, e => match e with
    | .Call (.Name y _) [l, r] [] _ => decide (y = ("range" : Str)) && glB S.sc y && mE P a S l && mE P b S r
    | _ => false
  | .enum a, S, tg, e => match e, tg with
    | .Call (.Name y _) [l] [] _, .Tuple _ _ _ => decide (y = ("enumerate" : Str)) && glB S.sc y && mE P a S l
    | _, _ => false
  | .zip a b, S, tg, e => match e, tg with
    | .Call (.Name y _) [l, r] [] _, .Tuple _ _ _ => decide (y = ("zip" : Str)) && glB S.sc y && mE P a S l && mE P b S r
    | _, _ => false
end
end Lt

set_option maxHeartbeats 2000000
/-! Lt, part V: an exception that is caught and kept by a name. -/
namespace Lt
open PySem PySem.Spec PyProof.Rows L2
variable [Mk]
section
variable {X : Cx} {pins : List (Addr × Obj)} {σ : L2.St} {H : Hp} {s : Shared} {a C : Addr} {ex : Obj}
theorem excO_ok {P : Program} {w : World} {G : Hp} {hp : Heap} (here : hp.get? a = some ex) (cl : Zc (.ref C) none ex) (fl : ∃ vs, ex.data = .fields vs) : ObjOk P w G hp a (ExcO a C) :=
  ⟨⟨ex, here, cl, fl⟩, ⟨ex, here⟩, fun _ _ ⟨o, e, r⟩ st => ⟨o, st _ e, r⟩⟩
/-- it may be tracked: made since the frame was entered, no cell, no pin, not the frame's own -/
structure Loose (X : Cx) (pins : List (Addr × Obj)) (H : Hp) (a : Addr) : Prop where
  untracked : H a = none
  since : X.s_0.heap.get? a = none
  nopin : ∀ q ∈ X.pn ++ pins, q.1 ≠ a
  notL : X.env.locals ≠ a
theorem Inv.track (I : Inv X pins σ H s) (L : Loose X pins H a) (here : s.heap.get? a = some ex) (cl : Zc (.ref C) none ex) (fl : ∃ vs, ex.data = .fields vs) : Inv X pins σ (upd H a (ExcO a C)) s := by
  have up : ∀ {b u}, H b = some u → upd H a (ExcO a C) b = some u := fun {b u} e => (upd_ne (ne_of_none e L.untracked)).trans e
  have un : ∀ {b}, H b = none → b ≠ a → upd H a (ExcO a C) b = none := fun {b} e n => (upd_ne n).trans e
  have nocell : ∀ {y c}, X.env.cells.lookup y = some c → c ≠ a := fun {y c} e z => by
    have ⟨v, o, q1, q2⟩ := I.cell y c e
    have ⟨vs, q3⟩ := fl
    subst z
    cases here.symm.trans q1
    cases q3.symm.trans q2
  have B : Un X.fs X.ex X.H_0 (upd H a (ExcO a C)) X.s_0.heap s.heap := { I.base with
    free := fun b o e n hx => un (I.base.free b o e n hx) (fun z => by subst z; cases L.since.symm.trans e)
    tups := fun b xs e => up (I.base.tups b xs e)
    frzs := fun b o u e => up (I.base.frzs b o u e)
    tbls := fun b ps e => let ⟨m, q⟩ := I.base.tbls b ps e; ⟨m, up q⟩ }
  exact { I with
    base := B
    free := un I.free L.notL
    freeC := fun y c e => un (I.freeC y c e) (nocell e)
    pin := fun q hq => let ⟨e, n, r⟩ := I.pin q hq; ⟨e, un n (L.nopin q hq), r⟩
    hok := fun b u e => by
      by_cases z : b = a
      · subst z
        cases upd_same.symm.trans e
        exact excO_ok here cl fl
      · exact (I.hok b u ((upd_ne z).symm.trans e)).stay (fun _ _ _ q => q) (fun _ q => up q) fun _ _ q => up q }
/-- the suite of an except clause over a frame; nothing is pinned anew -/
theorem Inv.toSuite (I : Inv X pins σ H s) (e : Addr) : Inv (X.suite e (X.pn ++ pins)) [] σ H s :=
  { ok := I.ok.suite _ _, os := I.os, bare := I.bare, base := I.base, loc := I.loc, cell := I.cell, free := I.free, freeC := I.freeC, pin := fun q hq => I.pin q (List.append_nil (X.pn ++ pins) ▸ hq), hok := I.hok, len := I.len }
theorem Inv.ofSuite {e : Addr} (ok : X.Ok) (I : Inv (X.suite e (X.pn ++ pins)) [] σ H s) : Inv X pins σ H s :=
  { ok := ok, os := I.os, bare := I.bare, base := I.base, loc := I.loc, cell := I.cell, free := I.free, freeC := I.freeC, pin := fun q hq => I.pin q ((List.append_nil (X.pn ++ pins)).symm ▸ hq), hok := I.hok, len := I.len }
end
/-- isinstance(e, c), e a kept exception -/
def rIsX (K : PySem.W.Frag) : List V → Hp → VK → Prop := fun xs H Q => ∃ (a D : Addr) (c : V) (cv : Value) (b : Bool), xs = [.ref a, c] ∧ H a = some (ExcO a D) ∧ ExcC K D ∧ (∀ u, RelV c u → u = cv) ∧ PySem.W.kitOne K (.ref D) cv = some b ∧ Q (.bl b) H
theorem excO_inst {h : Heap} {a D : Addr} {ob : Obj} (e : h.get? a = some ob) (cl : Zc (.ref D) none ob) (fl : ∃ vs, ob.data = .fields vs) : PySem.W.InstAt h a ob D none := by
  match ob, e, cl, fl with
  | ⟨_, _, _, _⟩, e, ⟨c1, c2⟩, ⟨_, f⟩ =>
    simp only at c1 c2 f
    subst c1 c2 f
    exact ⟨e, rfl, rfl, trivial⟩
theorem call_isX {X : Cx} : CallR X (.builtin "isinstance") (rIsX X.K) := by
  rintro pins s σ H _ us Q I r ⟨a, D, c, cv, b, rfl, trk, cls, known, ans, go⟩
  have ⟨u, w, eu, ru, rw'⟩ := vals2 r
  subst eu
  cases ru
  cases known w rw'
  have ⟨⟨ob, e, cl, fl⟩, _⟩ := I.hok a _ trk
  exact PySem.W.kia_one (PySem.W.handS_kitx_exc cls.hg cls.hk cls.hs cls.hd cls.ha cls.hn cls.ht cls.hm) I.kIn (excO_inst e cl fl) ans (fun z => nomatch z) fun tk => ⟨.bl b, H, I.kept (t' := tk) fun _ _ z => z, rfl, go⟩
/-- what 'except x as n' wishes, where the exception is kept -/
def wKeep (K : PySem.W.Frag) (len : Nat) (c : Value) (i : Nat) (ts : Addr → TS) (D : Ends) : WX := fun cls d σ H =>
  ∃ C, cls = .ref C ∧ d = none ∧ PySem.W.exmOne K cls c = some true ∧ ∀ a, H a = none → σ.length = len → ts a ⟨fun σ' => D.nx (σ'.set i none), D.rt, fun σ' => D.bk (σ'.set i none), fun σ' => D.ct (σ'.set i none)⟩ (σ.set i (some (.ref a))) (upd H a (ExcO a C))
section
variable {X : Cx} {x n : Str} {c : Value} {i : Nat} {np pos pos' : Pos} {body suite : List Stmt} {b₀ : Stmt} {tb : WX → TS} {ts : Addr → TS}
/-- a frame's exception that has landed -/
structure Landed (X : Cx) (pins : List (Addr × Obj)) (σ : L2.St) (H : Hp) (a C : Addr) (B : Heap) (st : Shared) : Prop where
  inv : Inv X pins σ H st
  fly : HandSPX.FlyingZ B (X.env :: X.outer) a (Zc (.ref C) none) st.heap
theorem Landed.nofr {pins : List (Addr × Obj)} {σ : L2.St} {H : Hp} {a C : Addr} {B : Heap} {st : Shared} (L : Landed X pins σ H a C B st) : a ∉ frs (X.env :: X.outer) := fun m => by
  have ⟨_, _, e, _, f⟩ := L.fly.there
  have ⟨_, _, e', nf⟩ := L.fly.2.2.1.mem m
  cases e.symm.trans e'
  exact nf _ f
theorem ps_try_keep (hs : X.stack = X.env :: X.outer) (hf : X.env.frame = some X.env.locals) (hex : X.ex = []) (hN : X.N.Nodup) (hi : X.N[i]? = some n) (hln : X.env.kindOf n = some .local) (hc : Names X x c)
    (hb : ∀ (wish : WX) (ps : List (Addr × Obj)) (sky : Value → Shared → Prop), Takes (X.tr ps sky) wish → PassesOwn (model X.prog X.w) X.A X.env sky → PSs (X.tr ps sky) body (tb wish))
    (hsu : ∀ (a : Addr) (pn : List (Addr × Obj)), PSs (X.suite a pn) (b₀ :: suite) (ts a)) :
    PS X (.Try body [.ExceptHandler (some (.Name x np)) (some n) (b₀ :: suite) pos'] [] [] pos) (fun D σ H => tb (wKeep X.K X.N.length c i ts D) D σ H) := by
  constructor
  intro pins s σ H D I want
  have ok := I.ok
  let clauses : List ExceptHandler := [.ExceptHandler (some (.Name x np)) (some n) (b₀ :: suite) pos']
  let M := model X.prog X.w
  -- what the body's exceptions meet
  let sky : Value → Shared → Prop := fun e t1 => wpAny M X.A (noteFrame e X.env) (fun _ t2 => wpAny M X.A (setFlight e none) (fun _ t3 => wpAny M X.A (handleBy e X.env clauses) (SP X pins D) X.xe t3) X.xe t2) X.xe t1
  have takes : Takes (X.tr (X.pn ++ pins) sky) (wKeep X.K X.N.length c i ts D) := by
    rintro _ t ⟨a, B, t0, pins0, σ0, G, _, _, rfl, I0, ground, slots, inair, free, os, bare, C, rfl, rfl, caught, next⟩
    have J : Inv X pins σ0 G t0 := I0.ofTry ok
    rw [show (X.tr (X.pn ++ pins) sky).stack = X.env :: X.outer from hs] at inair
    apply Sky.land Zc.steady (ok.frames.trans (congrArg some hs)) hf inair
    intro h1 fly1 slots1
    have L1 : Landed X pins σ0 G a C B { t with heap := h1 } := ⟨J.landed ground fly1.1 (slots.trans slots1) os bare, fly1⟩
    have out := L1.nofr
    have gone : t0.heap.get? a = none := Option.eq_none_iff_forall_not_mem.mpr fun o e => by
      cases fly1.2.1.symm.trans (ground a o e (hs ▸ out))
    have loose : Loose X pins G a :=
      { untracked := free
        since := Option.eq_none_iff_forall_not_mem.mpr fun o e => by
          have ⟨o', e'⟩ := J.base.there a o e (hex ▸ List.not_mem_nil)
          cases gone.symm.trans e'
        nopin := fun q hq z => by
          cases gone.symm.trans (z ▸ (J.pin q hq).1)
        notL := fun z => out (List.mem_filterMap.mpr ⟨X.env, List.mem_cons_self, z ▸ hf⟩) }
    have ⟨ob1, vs1, e1, z1, f1⟩ := fly1.there
    have T1 : Inv (X.suite a (X.pn ++ pins)) [] σ0 _ { t with heap := h1 } := Inv.toSuite (Inv.track L1.inv loose e1 z1 ⟨vs1, f1⟩) a
    have isOne : PySem.W.Looks M h1 (typeOf (.ref a)) (.ref C) := fun A Q E s keep q => wpAny_typeOf_ref (keep _ _ e1) (z1.1.symm ▸ q)
    have name : ∀ {Q : Value → Shared → Prop} {E : Value → Shared → Prop}, Q c { t with heap := h1 } → wpAny M (X.A.mark (some (.ref a))) (eval (.Name x np) X.env) Q E { t with heap := h1 } := fun {Q E} q => by
      obtain ⟨g, dbg, m | ⟨m, v, nn⟩⟩ := hc
      · exact ld_glob T1 g m q dbg
      · exact ld_blt T1 g m v q nn dbg
    have yes := PySem.W.exm_one (M := M) L1.inv.kIn isOne caught
    refine wpAny_handleBy_cons (codeAny_handlers_test (name (yes.here (codeAny_handlers_suite_as (HandSPX.lands_againZ fly1 ?_))))) (fun z => nomatch z)
    intro h2 fly2 slots2
    have ⟨ob2, vs2, e2, z2, f2⟩ := fly2.there
    have J2 : Inv X pins σ0 G { t with heap := h2 } := J.landed ground fly2.1 ((slots.trans slots1).trans slots2) os bare
    have T2 := Inv.toSuite (Inv.track J2 loose e2 z2 ⟨vs2, f2⟩) a
    refine store_ok (X := X.suite a (X.pn ++ pins)) (v := .ref a) T2 hN hi (.inl hln) rfl (fun t5 T5 => ?_) (.inr hln)
    refine wpAny_mono ((hsu a (X.pn ++ pins)).run [] t5 _ _ _ T5 (next a free J.len)) ?_ (fun _ _ z => z.elim)
    have leave : ∀ {t6 : Shared} {σ6 : L2.St} {G6 : Hp} {R : Shared → Prop}, Inv (X.suite a (X.pn ++ pins)) [] σ6 G6 t6 → (∀ t7, Inv X pins (σ6.set i none) G6 t7 → R t7) →
        wpAny M X.A (do bindName X.env n .none; unbindBehindTheSuite X.env n pos') (fun _ t7 => R t7) X.xe t6 := fun J6 r => gone_ok (Inv.ofSuite ok J6) hN hi hln r
    rintro (_ | _ | _ | u) t6 r
    · have ⟨_, _, J6, q⟩ := r
      exact leave J6 fun _ J7 => ⟨_, _, J7, q⟩
    · have ⟨_, _, J6, q⟩ := r
      exact leave J6 fun _ J7 => ⟨_, _, J7, q⟩
    · have ⟨_, _, J6, q⟩ := r
      exact leave J6 fun _ J7 => ⟨_, _, J7, q⟩
    · have ⟨_, _, _, J6, rv, q⟩ := r
      exact leave J6 fun _ J7 => ⟨_, _, _, J7, rv, q⟩
  apply wpAny_Try_except
  refine wpAny_mono ((hb _ (X.pn ++ pins) sky takes PassesOwn.looking).run [] s σ H D (I.toTry _) want) ?_ (fun _ _ z => z)
  rintro (_ | _ | _ | u) t r
  · have ⟨_, _, J, q⟩ := r
    exact wpAny_execs_nil ⟨_, _, J.ofTry ok, q⟩
  · have ⟨_, _, J, q⟩ := r
    exact ⟨_, _, J.ofTry ok, q⟩
  · have ⟨_, _, J, q⟩ := r
    exact ⟨_, _, J.ofTry ok, q⟩
  · have ⟨_, _, _, J, rv, q⟩ := r
    exact ⟨_, _, _, J.ofTry ok, rv, q⟩
end
end Lt

set_option maxHeartbeats 2000000
/-! Lt, part W: a tuple turned round. -/
namespace Lt
open PySem PySem.Spec PyProof.Rows L2 HT
variable [Mk]
/-- from the last place down, as many as there are -/
theorem places_back (n : Nat) : Builtin.Slice.slicePlaces ((n : Int) - 1) (-1) (-1) = n := by
  cases n with
  | zero => rfl
  | succ m =>
    have big : (((m + 1 : Nat) : Int) - 1 > -1) := by omega
    have cnt : (((m + 1 : Nat) : Int) - 1 - -1 - 1) / (- -1) + 1 = ((m + 1 : Nat) : Int) := by
      have : (- -1 : Int) = 1 := rfl
      rw [this, Int.ediv_one]; omega
    simp only [Builtin.Slice.slicePlaces]
    rw [if_neg (by decide : ¬ ((-1 : Int) > 0)), if_pos big, cnt, Int.toNat_natCast]
theorem items_back (a : Array Value) : ((List.range a.size).filterMap fun (j : Nat) => a[((a.size : Int) - 1 + (j : Int) * (-1)).toNat]?).toArray = a.toList.reverse.toArray := by
  have pt : ∀ j : Nat, ((a.size : Int) - 1 + (j : Int) * (-1)).toNat = a.size - 1 - j := fun j => by omega
  simp only [pt]
  have h := PySem.W.krv_all a
  have g := PySem.W.krv_range a.size
  rw [← h, ← List.filterMap_reverse, ← g, List.filterMap_map]
  rfl
section
variable {p : Program} {wd : World} {Ar : Around} {Ex : Value → Shared → Prop} {st : Shared} {t z : Addr} {its : Array Value} {vs : Value}
theorem back_bounds {R : Int × Int × Nat → Shared → Prop} (sl : st.heap.IsSliceOf z .none .none vs) (neg : IsPart vs (some (-1))) (n : Nat) (k : R ((n : Int) - 1, -1, n) st) :
    wpAny (model p wd) Ar (Builtin.Slice.sliceApplied (.ref z) (pure (n : Int))) R Ex st := by
  have ⟨ob, at_, _, dat⟩ := sl
  have out : wpAny (model p wd) Ar (pure ((n : Int) - 1, (-1 : Int), Builtin.Slice.slicePlaces ((n : Int) - 1) (-1) (-1))) R Ex st := wpAny_pure (by rw [places_back]; exact k)
  have last := wpAny_bind (f := fun stop => _) (slicePart_none (s := st) (prog := p) (w := wd) (A := Ar) (E := Ex) (wpAny_bind (f := fun len => _) (wpAny_pure out)))
  have flds : ∀ {Q : Value × Value × Value → Shared → Prop}, Q (.none, .none, vs) st → wpAny (model p wd) Ar (Builtin.Slice.sliceFields (.ref z)) Q Ex st := fun q => by
    unfold Builtin.Slice.sliceFields
    exact wpAny_bind (wpAny_field at_ dat (x := .none) rfl (wpAny_bind (wpAny_field at_ dat (x := .none) rfl (wpAny_bind (wpAny_field at_ dat (x := vs) rfl (wpAny_pure q))))))
  unfold Builtin.Slice.sliceApplied
  exact wpAny_bind (flds (wpAny_bind (slicePart_ neg (wpAny_bind (slicePart_none last)))))
theorem turned_round {R : Value → Shared → Prop} (tu : IsTup st.heap t its) (few : its.size ≤ sizeLine) (sl : st.heap.IsSliceOf z .none .none vs) (neg : IsPart vs (some (-1)))
    (k : R (.ref st.heap.objs.size) { st with heap := st.heap.push (tupO its.toList.reverse) }) : wpAny (model p wd) Ar (getItem (.ref t) (.ref z)) R Ex st := by
  have room : sizeOk (.seq its.toList.reverse.toArray) := (by simpa using few : its.toList.reverse.toArray.size ≤ sizeLine)
  have kind : st.TypeIs (.ref z) "slice" := let ⟨ob, e, c, _⟩ := sl; ⟨ob, e, c⟩
  have notall : ((((its.size : Int) - 1 == 0) && (-1 : Int) == 1 && its.size == its.size) = true) → False := fun q => by
    simp only [Bool.and_eq_true] at q
    exact absurd q.1.2 (by decide)
  unfold getItem
  refine wpAny_holding (wpAny_bind (wpAny_sequenceKey tu.typeIs (by decide) (wpAny_bind (wpAny_callSpecial?_slot (name := Str.ofString "__getitem__") tu.typeIs PyProof.Rows.slot_tuple_getitem
    (wpAny_call_entry PyProof.Rows.slot_tuple_getitem tu.typeIs entry_tuple_getitem (wpAny_bind (m := Builtin.Tuple.tupleItemsOf (.ref t)) (tupleItemsOf_ tu (wpAny_bind (wpAny_typeOf kind ?_)))) (args_tuple_getitem _ _))))))
  rw [if_pos (by decide)]
  refine wpAny_bind (back_bounds sl neg its.size ?_)
  show wpAny _ _ (if (((its.size : Int) - 1 == 0) && (-1 : Int) == 1 && its.size == its.size) = true then _ else _) _ _ st
  rw [if_neg notall, items_back]
  first
    | exact wpAny_bind (m := Builtin.Tuple.tupleExact _) (wpAny_newObj_type (wpAny_pure ⟨_, rfl, wpAny_pure k⟩) room)
    | exact wpAny_bind (wpAny_bind (m := Builtin.Tuple.tupleExact _) (wpAny_newObj_type (wpAny_pure ⟨_, rfl, wpAny_pure k⟩) room))
    | exact wpAny_bind (wpAny_bind (m := Builtin.Tuple.tupleExact _) (wpAny_newObj_type (wpAny_pure (wpAny_pure ⟨_, rfl, wpAny_pure k⟩)) room))
    | exact wpAny_bind (m := Builtin.Tuple.tupleExact _) (wpAny_newObj_type (wpAny_bind (wpAny_pure (wpAny_pure ⟨_, rfl, wpAny_pure k⟩))) room)
end
section
variable {X : Cx} {e : Expr} {te : TE}
/-- x[::-1], x a list or a tuple -/
def tBack (K : PySem.W.Frag) (te : TE) : TE := fun σ H Q => te σ H fun x H1 => ∃ a xs, x = .ref a ∧
  ((SqL K H1 a xs ∧ ∀ p, H1 p = none → Q (.ref p) (upd H1 p (.lst xs.reverse))) ∨ (SqT K H1 a xs ∧ ∀ p o, H1 p = none → o.dict = none → Q (.ref p) (upd H1 p (.frz o (.tup xs.reverse)))))
abbrev minusOne (k : Nat) (p1 p2 : Pos) : Expr := .UnaryOp .USub (.Constant (.int 1) k p1) p2
theorem po_minus {k : Nat} {p1 p2 : Pos} : PO X (some (minusOne k p1 p2)) (tPart (tUn (rU fun i => .int (-i)) (tC (.int 1)))) := po_some (pe_un un_neg pe_int)
theorem pe_back {k : Nat} {p1 p2 p3 pos : Pos} (he : PE X e te) : PE X (.Subscript e (.Slice none none (some (minusOne k p1 p2)) p3) pos) (tBack X.K te) := by
  constructor
  intro pins s σ H Q I want
  apply Subscript_
  refine thn (he.run pins s σ H _ I want) ?_
  rintro val sA ⟨_, HA, IA, rA, a, xs, rfl, way⟩
  cases rA
  apply wpAny_Slice
  refine thn (po_none.run pins sA σ HA (fun o G => o = none ∧ G = HA) IA ⟨rfl, rfl⟩) ?_
  rintro w1 sB ⟨_, _, IB, part1, rfl, rfl⟩
  refine thn (po_none.run pins sB σ _ (fun o G => o = none ∧ G = _) IB ⟨rfl, rfl⟩) ?_
  rintro w2 sC ⟨_, _, IC, part2, rfl, rfl⟩
  refine thn (po_minus.run pins sC σ _ (fun o G => o = some (-1) ∧ G = _) IC ⟨1, rfl, -1, rfl, rfl, rfl⟩) ?_
  rintro w3 sD ⟨_, _, ID, part3, rfl, rfl⟩
  let cutObj : Obj := { cls := .type "slice", data := .fields #[w1, w2, w3] }
  have J : Inv X pins σ _ { sD with heap := sD.heap.push cutObj } := ID.kept (t' := sD.toks) fun _ _ old => Heap.get?_push_of_some _ old
  rcases way with ⟨seq, go⟩ | ⟨seq, go⟩
  · have ⟨us, rel, lst, few⟩ := J.list seq
    have n := rel.length
    refine tail_any (ops := [.ref a, .ref sD.heap.objs.size]) lst.isList.typeIs (PySem.slot_list_getitem.lookup) ?_ (by with_unfolding_all rfl)
    refine wpAny_getItem_list_slice lst.isList (Heap.IsSliceOf.new _ w1 w2 w3) part1 part2 part3 (by decide) ?_ (by simpa using n ▸ few)
    rw [PySem.W.krv_pick]
    exact ⟨.ref _, _, J.laid (t' := sD.toks) (o := .lst xs.reverse) (fun _ _ old => Heap.get?_push_of_some _ old) (Nat.le_refl _) ⟨by simpa using few, _, 0, rel.reverse, Heap.get?_push_size _ rfl⟩, rfl, go _ (J.hok.fresh (Nat.le_refl _))⟩
  · cases part1
    cases part2
    have ⟨us, rel, tup, few⟩ := J.tuple seq
    have n : us.toArray.size = xs.length := by simpa using rel.length.symm
    refine tail_any (ops := [.ref a, .ref sD.heap.objs.size]) tup.typeIs (PyProof.Rows.slot_tuple_getitem.lookup) ?_ (by with_unfolding_all rfl)
    refine turned_round tup (n ▸ few) (Heap.IsSliceOf.new _ _ _ w3) part3 ?_
    exact ⟨.ref _, _, Inv.laidT (s := { sD with heap := sD.heap.push cutObj }) (h' := sD.heap.push cutObj) (us := us.reverse) J rel.reverse (by simpa using few), rfl, go _ _ (J.hok.fresh (Nat.le_refl _)) rfl⟩
end
end Lt

/-! Lt, part H: slots; readings; the context of a body. -/
namespace Lt
open PySem PySem.Spec PyProof.Rows L2
variable [Mk]

abbrev St := L2.St
/-- what the exceptions' names stand for -/
abbrev ExA := String → Value
/-- a call's promise by the evaluator -/
def spOf (K : PySem.W.Frag) (xa : ExA) (P : Prg) (k : Nat) (f : String) : Sp := fun vs H Q E =>
  ∃ F be h ds, Rep K F be h H ∧ RVs K F be H ds vs ∧ Post K F be H (RV K F) ((calls P k).fn f ds h) Q fun x H' => E (xa x) none H'
/-- a def of the text, as its callers see it -/
structure FnF (P : Prg) (xa : ExA) (k : Nat) (f : String) (d : MDef) (X : Cx) (a : Addr) (fd : FuncData) : Prop where
  mg : P.mth.lookup f = none → X.mg (Str.ofString f) = some (.ref a)
  mt : ∀ m, P.mth.lookup f = some m → Meth X.K (clsOf X.K P.cn) m a
  kp : PySem.W.keepIn X.K (.ref a) = true
  bi : ∀ (j : Nat) (s : Shared) (us ws : List Value), j ≤ d.ps.length → X.K.In s.heap → us.length = j → ws.length = d.ps.length - j → BindsTo s fd ⟨us, ((d.ps.map Str.ofString).drop j).zip ws⟩ ((d.ps.map Str.ofString).zip (us ++ ws))
  ok : FnOk X.prog X.w X.K X.mg X.base (L2.CX X.prog X.w) (8 * k) a fd (d.ps.map Str.ofString) (spOf X.K xa P k f)
/-- the text's class -/
structure ClsF (P : Prg) (K : PySem.W.Frag) (mg : Str → Option Value) : Prop where
  mg : mg (Str.ofString P.cn) = some (.ref (clsOf K P.cn))
  cl : Cls K (clsOf K P.cn)
  no : ∀ f ∈ P.flds, NoAttr K (clsOf K P.cn) f
  makes : PySem.W.makesIn K (clsOf K P.cn) = true
  kp : PySem.W.keepIn K (.ref (clsOf K P.cn)) = true
abbrev WW := String → St → Hp → Prop
/-- the wish about exceptions -/
def wx (xa : ExA) (W : WW) : WX := fun c d σ H => ∃ x, xa x = c ∧ d = none ∧ W x σ H
/-- a class of refusals -/
structure ExF (K : PySem.W.Frag) (mg : Str → Option Value) (x : String) : Prop where
  mg : mg (Str.ofString x) = some (.ref (clsOf K x))
  kp : PySem.W.keepIn K (.ref (clsOf K x)) = true
  mx : PySem.W.excIn K (clsOf K x) [.type "ValueError", .type "Exception", .type "BaseException", .type "object"] "ValueError.__new__" = true
  rs : PySem.W.subIn K (.ref (clsOf K x)) (.type "BaseException") = some true
  ty : PySem.W.typeIn K (.ref (clsOf K x)) = some (.type "type")
  ec : ExcC K (clsOf K x)
  is : ∀ y ∈ exNames, PySem.W.kitOne K (.ref (clsOf K x)) (.ref (clsOf K y)) = some (decide (x = y))
  ve : PySem.W.kitOne K (.ref (clsOf K x)) (.type "ValueError") = some true
  ex : PySem.W.exmOne K (.ref (clsOf K x)) (.ref (clsOf K "StrikeError")) = some true
/-- a look at a class of refusals -/
def exfB (K : PySem.W.Frag) (x : String) : Bool :=
  decide (PySem.W.nsIn K mainGlobals (Str.ofString x) = some (some (.ref (clsOf K x)))) && PySem.W.keepIn K (.ref (clsOf K x)) &&
  PySem.W.excIn K (clsOf K x) [.type "ValueError", .type "Exception", .type "BaseException", .type "object"] "ValueError.__new__" &&
  decide (PySem.W.subIn K (.ref (clsOf K x)) (.type "BaseException") = some true) && decide (PySem.W.typeIn K (.ref (clsOf K x)) = some (.type "type")) &&
  (decide (PySem.W.findIn K (.ref (clsOf K x)) "__getattribute__" = some (some (.builtin "BaseException.__getattribute__"))) && decide (PySem.W.findIn K (.ref (clsOf K x)) "__getattr__" = some none) &&
    PySem.W.hasDictIn K (clsOf K x) && decide (PySem.W.findIn K (.ref (clsOf K x)) "__class__" = some (some (.builtin "object.__class__"))) &&
    decide (PySem.W.specialIn K (.builtin "object.__class__") "__get__" = some (some (.builtin "getset_descriptor.__get__"))) && decide (PySem.W.takesIn K (.builtin "object.__class__") = some true) &&
    decide (PySem.W.mroIn K (clsOf K x) (.type "object") = some true)) &&
  exNames.all (fun y => decide (PySem.W.kitOne K (.ref (clsOf K x)) (.ref (clsOf K y)) = some (decide (x = y)))) &&
  decide (PySem.W.kitOne K (.ref (clsOf K x)) (.type "ValueError") = some true) && decide (PySem.W.exmOne K (.ref (clsOf K x)) (.ref (clsOf K "StrikeError")) = some true)
theorem exfB_ok {K : PySem.W.Frag} {h : Heap} {mg : Str → Option Value} (X : K.In h) (G : h.Ns mainGlobals mg) {x : String} (e : exfB K x = true) : ExF K mg x := by
  unfold exfB at e
  simp only [Bool.and_eq_true, decide_eq_true_eq, List.all_eq_true] at e
  obtain ⟨⟨⟨⟨⟨⟨⟨⟨e1, e2⟩, e3⟩, e4⟩, e5⟩, ⟨⟨⟨⟨⟨⟨f1, f2⟩, f3⟩, f4⟩, f5⟩, f6⟩, f7⟩⟩, e6⟩, e7⟩, e8⟩ := e
  exact ⟨PySem.W.mg_of X G e1, e2, e3, e4, e5, ⟨f1, f2, e4, f3, f4, f5, f6, f7⟩, e6, e7, e8⟩
/-- what _law_heard makes of a lambda's reading -/
def TTh (K : PySem.W.Frag) (xa : ExA) : (XK → Hp → VK → Prop) → Hp → VK → Prop := fun tl H Q =>
  ∃ F be h o, Rep K F be h H ∧ Post K F be H (RV K F) (heardO o) Q (fun _ _ => False) ∧
    ∀ H1, Ext F be H be H1 → Rep K F be h H1 → ∀ Q' E', Post K F be H1 (RV K F) o Q' E' → tl (fun cls d H' => ∃ x, cls = xa x ∧ d = none ∧ E' x H') H1 Q'
/-- _law_heard(lambda: ..) as its callers see it -/
def HeardX (xa : ExA) (k : Nat) (X : Cx) : Prop := ∀ {body : Expr} {scope : Scope} {t : XK → TE} {params : Arguments} {p lpos pos : Pos}, Gl X ("_law_heard" : Str) → noPar params = true → LamX.LamS X.env.scope scope →
  (∀ (A : Around) (outer : List PySem.Env) (s : Shared) (H : Hp) (E : XK) (f c' : Addr), Room (8 * k + 4) (A.deeper (LamX.lamEnv X scope s.heap.objs.size f c')) → PE (LamX.lamCx X A outer s H E scope f c') body (t E)) →
  PE X (.Call (.Name ("_law_heard" : Str) p) [.Lambda params body scope lpos] [] pos) (LamX.tLam (tabsOf X.K) (TTh X.K xa) t)
structure Gd (P : Prg) (xa : ExA) (k : Nat) (S : Sx) (W : WW) (X : Cx) : Prop where
  N : X.N = S.N
  nd : S.N.Nodup
  sc : X.env.scope = S.sc
  fn : X.fn = S.fn
  calm : X.calm = true
  room : Room (8 * k + 4) X.A
  fns : ∀ f d, P.tab.lookup f = some d → ∃ a fd, FnF P xa k f d X a fd
  cst : ∀ x d, P.cst.lookup x = some d → ∃ u v, X.mg (Str.ofString x) = some u ∧ RelV v u ∧ ∀ F be H, RV X.K F be H d v
  blt : ∀ x ∈ bltNs, X.mg (Str.ofString x) = none
  tcs : ∀ x l, P.tcs.lookup x = some l → ∃ a, X.mg (Str.ofString x) = some (.ref a) ∧ ∀ H, SqT X.K H a (l.map V.str)
  xaE : ∀ x, xa x = .ref (clsOf X.K x)
  exs : P.exs = true → ∀ x ∈ exNames, ExF X.K X.mg x
  cls : P.cn ≠ "" → ClsF P X.K X.mg
  hrd : S.lam = true → HeardX xa k X
  tk : Takes X (wx xa W)

section
variable {K : PySem.W.Frag} {F be be' be1 : List Addr} {H H' H1 : Hp} {h h' : MHeap}
structure RSl (K : PySem.W.Frag) (F be : List Addr) (H : Hp) (env : Env) (σ : St) : Prop where
  len : env.length = σ.length
  get : ∀ (i : Nat) (d : D), env[i]? = some (some d) → ∃ v, σ[i]? = some (some v) ∧ RV K F be H d v
theorem RSl.ext1 {env : Env} {σ : St} (r : RSl K F be H env σ) {F1 : List Addr} (x : Ext F1 be H be' H') : RSl K F be' H' env σ :=
  ⟨r.len, fun i d e => let ⟨v, e1, e2⟩ := r.get i d e; ⟨v, e1, e2.ext1 x⟩⟩
theorem RSl.ext {env : Env} {σ : St} (r : RSl K F be H env σ) (x : Ext F be H be' H') : RSl K F be' H' env σ := r.ext1 x
theorem RSl.set {env : Env} {σ : St} {i : Nat} {d : D} {v : V} (r : RSl K F be H env σ) (rv : RV K F be H d v) : RSl K F be H (env.set i (some d)) (σ.set i (some v)) := by
  refine ⟨by simp [r.len], fun j d' e => ?_⟩
  by_cases hj : i = j
  · subst hj
    by_cases hi : i < env.length
    · rw [List.getElem?_set_self hi] at e
      cases e
      exact ⟨v, List.getElem?_set_self (by rw [← r.len]; exact hi), rv⟩
    · rw [List.getElem?_eq_none (by simpa using hi)] at e
      cases e
  · rw [List.getElem?_set_ne hj] at e
    obtain ⟨w, e1, e2⟩ := r.get j d' e
    exact ⟨w, by rw [List.getElem?_set_ne hj]; exact e1, e2⟩
theorem RSl.setN {env : Env} {σ : St} {i : Nat} (r : RSl K F be H env σ) : RSl K F be H (env.set i none) (σ.set i none) := by
  refine ⟨by simp [r.len], fun j d' e => ?_⟩
  by_cases hj : i = j
  · subst hj
    by_cases hi : i < env.length
    · rw [List.getElem?_set_self hi] at e
      cases e
    · rw [List.getElem?_eq_none (by simpa using hi)] at e
      cases e
  · rw [List.getElem?_set_ne hj] at e
    obtain ⟨w, e1, e2⟩ := r.get j d' e
    exact ⟨w, by rw [List.getElem?_set_ne hj]; exact e1, e2⟩
theorem RSl.wipe {env : Env} {σ : St} (r : RSl K F be H env σ) : ∀ vs : List Nat, RSl K F be H (wipeE env vs) (L2.wipe σ vs)
  | [] => r
  | v :: vs => (RSl.wipe r vs).setN
end

section
variable {K : PySem.W.Frag} {F F' be : List Addr} {H : Hp}
mutual
theorem RV.addF {d : D} {v : V} (x : ∀ a ∈ F', a ∈ F ∨ H a = none) : RV K F be H d v → RV K F' be H d v
  | .non => .non
  | .bl b => .bl b
  | .int i => .int i
  | .str s => .str s
  | .ty n => .ty n
  | .tup q n r => .tup q n (RVs.addF x r)
  | .wt q r => .wt q (RVs.addF x r)
  | .lst q n1 n2 r => .lst q n1 (fun z => (x _ z).elim n2 fun e => by rw [q] at e; cases e) (RVs.addF x r)
  | .dic0 q n1 n2 r => .dic0 q n1 (fun z => (x _ z).elim n2 fun e => by obtain ⟨o, q', _⟩ := q.there; rw [q'] at e; cases e) (RVp.addF x r)
  | .adr a => .adr a
  | .exc q n1 n2 => .exc q n1 (fun z => (x _ z).elim n2 fun e => by rw [q] at e; cases e)
  | .loc q => .loc q
  | .scr q => .scr q
  | .scl q n1 n2 => .scl q n1 (fun z => (x _ z).elim n2 fun e => by rw [q] at e; cases e)
theorem RVs.addF {ds : List D} {vs : List V} (x : ∀ a ∈ F', a ∈ F ∨ H a = none) : RVs K F be H ds vs → RVs K F' be H ds vs
  | .nil => .nil
  | .cons r t => .cons (RV.addF x r) (RVs.addF x t)
theorem RVp.addF {ds : List (Ky × D)} {vs : List (Key × V)} (x : ∀ a ∈ F', a ∈ F ∨ H a = none) : RVp K F be H ds vs → RVp K F' be H ds vs
  | .nil => .nil
  | .cons k r t => .cons k (RV.addF x r) (RVp.addF x t)
end
theorem RVf.addF (x : ∀ a ∈ F', a ∈ F ∨ H a = none) : ∀ {ds : List (Str × D)} {vs : List (Str × V)}, RVf K F be H ds vs → RVf K F' be H ds vs
  | _, _, .nil => .nil
  | _, _, .cons r t => .cons (RV.addF x r) (RVf.addF x t)
theorem RO.addF {o : MObj} {a : Addr} (x : ∀ a ∈ F', a ∈ F ∨ H a = none) : RO K F be H o a → RO K F' be H o a
  | .lst q r => .lst q (r.addF x)
  | .dic0 q r => .dic0 q (r.addF x)
  | .fdic0 q r => .fdic0 q (r.addF x)
  | .ins q r => .ins q (r.addF x)
end

def bEq : List Addr → Hp → Bool → Bool → Prop := fun _ _ a c => a = c
/-- readings by the evaluator -/
def TEo (K : PySem.W.Frag) (C : Calls) (W : WW) (m : ME) : TE := fun σ H Q =>
  ∃ F be h env, Rep K F be h H ∧ RSl K F be H env σ ∧ Post K F be H (RV K F) (evE C m env h) Q fun x H' => W x σ H'
def evT (C : Calls) (m : ME) (env : Env) (h : MHeap) : Out Bool := (evE C m env h).bind fun x h => Out.of (truD h x) h
def TTo (K : PySem.W.Frag) (C : Calls) (W : WW) (m : ME) : TT := fun σ H Q =>
  ∃ F be h env, Rep K F be h H ∧ RSl K F be H env σ ∧ Post K F be H bEq (evT C m env h) Q fun x H' => W x σ H'
def TAo (K : PySem.W.Frag) (C : Calls) (W : WW) (as : MEs) : TA := fun σ H Q =>
  ∃ F be h env, Rep K F be h H ∧ RSl K F be H env σ ∧ Post K F be H (RVs K F) (evEs C as env h) Q fun x H' => W x σ H'
def TOo (K : PySem.W.Frag) (C : Calls) (W : WW) (o : MO) : TO := fun σ H Q =>
  ∃ F be h env, Rep K F be h H ∧ RSl K F be H env σ ∧ Post K F be H (fun _ _ (a c : Option Int) => a = c) (evO C o env h) Q fun x H' => W x σ H'
/-- as Ext, but what stands in F may change -/
structure ExtW (F be : List Addr) (H : Hp) (be' : List Addr) (H' : Hp) : Prop where
  pre : ∃ ext, be' = be ++ ext ∧ ∀ a ∈ ext, ∀ o, H a = some o → ¬ NoTbl o
  keep : ∀ a o, H a = some o → a ∉ be → a ∉ F → NoTbl o → ∃ o', H' a = some o' ∧ Kept o o'
  tups : ∀ a xs, H a = some (.tup xs) → H' a = some (.tup xs)
  frzs : ∀ a o u, H a = some (.frz o u) → H' a = some (.frz o u)
  there : ∀ a o, H a = some o → NoTbl o → ∃ o', H' a = some o' ∧ NoTbl o'
section
variable {K : PySem.W.Frag} {F F' be be' be'' : List Addr} {H H' H'' : Hp}
theorem Ext.w {F1 : List Addr} (x : Ext F1 be H be' H') : ExtW F be H be' H' := ⟨x.pre, fun a o q n _ nt => x.keep a o q n nt, x.tups, x.frzs, x.there⟩
theorem ExtW.notin (x : ExtW F be H be' H') {a : Addr} {o : HO} (q : H a = some o) (nt : NoTbl o) (n : a ∉ be) : a ∉ be' := by
  obtain ⟨e1, rfl, n1⟩ := x.pre
  intro z
  rcases List.mem_append.mp z with z | z
  · exact n z
  · exact n1 a z o q nt
theorem ExtW.trans {F1 : List Addr} (x : ExtW F be H be' H') (y : Ext F1 be' H' be'' H'') : ExtW F be H be'' H'' := by
  have z := x
  obtain ⟨e1, rfl, n1⟩ := x.pre
  obtain ⟨e2, rfl, n2⟩ := y.pre
  refine ⟨⟨e1 ++ e2, by simp, fun a ha o q nt => ?_⟩, fun a o q n f nt => ?_, fun a xs q => y.tups a xs (x.tups a xs q), fun a o u q => y.frzs a o u (x.frzs a o u q), fun a o q nt => ?_⟩
  · rcases List.mem_append.mp ha with w | w
    · exact n1 a w o q nt
    · obtain ⟨o', q', nt'⟩ := x.there a o q nt
      exact n2 a w o' q' nt'
  · obtain ⟨o', q', kk⟩ := x.keep a o q n f nt
    rcases kk with rfl | ⟨kvs, ob, rfl, rfl⟩
    · exact y.keep a _ q' (z.notin q nt n) nt
    · exact ⟨_, y.frzs _ _ _ q', .inr ⟨kvs, ob, rfl, rfl⟩⟩
  · obtain ⟨o', q', nt'⟩ := x.there a o q nt
    exact y.there a o' q' nt'
theorem ExtW.push (x : ExtW F be H be' H') {p : Addr} {o : HO} {vs : List V} (m : p ∈ F) (hp : H' p = some (.lst vs)) (no : NoTbl o := by exact fun _ z => nomatch z) : ExtW F be H be' (upd H' p o) := by
  refine ⟨x.pre, fun a u q n f nt => ?_, fun a xs q => ?_, fun a w u q => ?_, fun a u q nt => ?_⟩
  · have na : a ≠ p := fun z => f (z ▸ m)
    rw [upd_ne na]; exact x.keep a u q n f nt
  · have q' := x.tups a xs q
    have na : a ≠ p := fun z => by rw [z, hp] at q'; cases q'
    rw [upd_ne na]; exact q'
  · have q' := x.frzs a w u q
    have na : a ≠ p := fun z => by rw [z, hp] at q'; cases q'
    rw [upd_ne na]; exact q'
  · by_cases na : a = p
    · subst na; exact ⟨o, upd_same, no⟩
    · obtain ⟨o', q', nt'⟩ := x.there a u q nt
      exact ⟨o', by rw [upd_ne na]; exact q', nt'⟩
theorem ExtW.keepL (x : ExtW F be H be' H') {a : Addr} {vs : List V} (q : H a = some (.lst vs)) (n : a ∉ be) (f : a ∉ F) : H' a = some (.lst vs) := by
  obtain ⟨o', q', k⟩ := x.keep a _ q n f (fun ps z => by cases z)
  rw [q', k.lst]
theorem ExtW.keepX (x : ExtW F be H be' H') {a : Addr} {φ : Heap → Prop} (q : H a = some (.ext φ)) (n : a ∉ be) (f : a ∉ F) : H' a = some (.ext φ) := by
  obtain ⟨o', q', k⟩ := x.keep a _ q n f (fun ps z => by cases z)
  rw [q', k.ext]
theorem ExtW.keepD (x : ExtW F be H be' H') {a : Addr} {ls : List (Key × V)} (q : Rd0 H a ls) (n : a ∉ be) (f : a ∉ F) : Rd0 H' a ls := by
  rcases q with q | ⟨o, q⟩
  · obtain ⟨o', q', k⟩ := x.keep a _ q n f (fun ps z => by cases z)
    rcases k with rfl | ⟨kvs, ob, e, rfl⟩
    · exact .inl q'
    · cases e
      exact .inr ⟨_, q'⟩
  · exact .inr ⟨o, x.frzs _ _ _ q⟩
theorem ExtW.sqT (x : ExtW F be H be' H') {a : Addr} {xs : List V} (q : SqT K H a xs) : SqT K H' a xs := by
  rcases q with (q | ⟨o, q⟩) | q
  · exact .inl (.inl (x.tups a xs q))
  · exact .inl (.inr ⟨o, x.frzs a o _ q⟩)
  · exact .inr q
mutual
theorem RV.extW {d : D} {v : V} (x : ExtW F be H be' H') (s : ∀ a ∈ F, a ∈ F') : RV K F' be H d v → RV K F' be' H' d v
  | .non => .non
  | .bl b => .bl b
  | .int i => .int i
  | .str s => .str s
  | .ty n => .ty n
  | .tup q n r => .tup (x.frzs _ _ _ q) n (RVs.extW x s r)
  | .wt q r => .wt (x.tups _ _ q) (RVs.extW x s r)
  | .lst q n1 n2 r => .lst (x.keepL q n1 fun z => n2 (s _ z)) (x.notin q ntL n1) n2 (RVs.extW x s r)
  | .dic0 q n1 n2 r => .dic0 (x.keepD q n1 fun z => n2 (s _ z)) (x.notin q.there.choose_spec.1 q.there.choose_spec.2 n1) n2 (RVp.extW x s r)
  | .adr a => .adr a
  | .exc q n1 n2 => .exc (x.keepX q n1 fun z => n2 (s _ z)) (x.notin q ntX n1) n2
  | .loc q => .loc (by obtain ⟨e1, rfl, _⟩ := x.pre; rw [List.getElem?_append_left (List.getElem?_eq_some_iff.mp q).1]; exact q)
  | .scr q => .scr (q.mono (x.frzs _))
  | .scl q n1 n2 => .scl (x.keepL q n1 fun z => n2 (s _ z)) (x.notin q ntL n1) n2
theorem RVs.extW {ds : List D} {vs : List V} (x : ExtW F be H be' H') (s : ∀ a ∈ F, a ∈ F') : RVs K F' be H ds vs → RVs K F' be' H' ds vs
  | .nil => .nil
  | .cons r t => .cons (RV.extW x s r) (RVs.extW x s t)
theorem RVp.extW {ds : List (Ky × D)} {vs : List (Key × V)} (x : ExtW F be H be' H') (s : ∀ a ∈ F, a ∈ F') : RVp K F' be H ds vs → RVp K F' be' H' ds vs
  | .nil => .nil
  | .cons k r t => .cons k (RV.extW x s r) (RVp.extW x s t)
end
end
/-- the walk of items -/
structure WalkD (K : PySem.W.Frag) (F be : List Addr) (H : Hp) (its : Items) (J : It) : Prop where
  w : ∃ G Y, Walk J its.xs.length G Y ∧
    (∀ F' be' H' h', ExtW F be H be' H' → Rep K F' be' h' H' → its.okIn h' = true → G H') ∧
    (∀ (i : Nat) F' be' H' h' v H2, ExtW F be H be' H' → Rep K F' be' h' H' → (∀ a ∈ F, a ∈ F') → (∀ a ∈ F', a ∈ F ∨ H a = none) → its.okIn h' = true → i < its.xs.length → Y i H' v H2 → Ext F' be' H' be' H2 ∧ Rep K F' be' h' H2 ∧ ∃ d, its.xs[i]? = some d ∧ RV K F' be' H2 d v)
def TIo (K : PySem.W.Frag) (C : Calls) (W : WW) (it : MI) : TI := fun σ H R =>
  ∃ F be h env, Rep K F be h H ∧ RSl K F be H env σ ∧ Post K F be H (WalkD K F) (evI C it env h) R fun x H' => W x σ H'

theorem PE.mono' {X : Cx} {e : Expr} {t t' : TE} (p : PE X e t) (h : ∀ σ H Q, t' σ H Q → t σ H Q) : PE X e t' := ⟨fun pins s σ H Q I q => p.run pins s σ H Q I (h σ H Q q)⟩
theorem PT.mono' {X : Cx} {e : Expr} {t t' : TT} (p : PT X e t) (h : ∀ σ H Q, t' σ H Q → t σ H Q) : PT X e t' := ⟨fun pins s σ H Q I q => p.run pins s σ H Q I (h σ H Q q)⟩
theorem PW.mono' {X : Cx} {e : Expr} {t t' : TT} (p : PW X e t) (h : ∀ σ H Q, t' σ H Q → t σ H Q) : PW X e t' := ⟨fun wh pins s σ H Q I q => p.run wh pins s σ H Q I (h σ H Q q)⟩
theorem PA.mono' {X : Cx} {e : List Expr} {t t' : TA} (p : PA X e t) (h : ∀ σ H Q, t' σ H Q → t σ H Q) : PA X e t' := ⟨fun ps pins s σ H Q I q => p.run ps pins s σ H Q I (h σ H Q q)⟩
theorem PO.mono' {X : Cx} {e : Option Expr} {t t' : TO} (p : PO X e t) (h : ∀ σ H Q, t' σ H Q → t σ H Q) : PO X e t' := ⟨fun pins s σ H Q I q => p.run pins s σ H Q I (h σ H Q q)⟩
theorem PI.mono' {X : Cx} {g e : Expr} {t t' : TI} (p : PI X g e t) (h : ∀ σ H Q, t' σ H Q → t σ H Q) : PI X g e t' := ⟨fun pins s σ H Q I q => p.run pins s σ H Q I (h σ H Q q)⟩

/-- no star in what was matched -/
theorem mE_star {P : Prg} {m : ME} {S : Sx} {e : Expr} (h : mE P m S e = true) (es : List Expr) (env : PySem.Env) : starEach (e :: es) env = (false, eval e env) :: starEach es env := by
  cases e with
  | Starred v p => cases m <;> simp [mE] at h
  | _ => rfl
theorem mE_plainIx {r : Expr} (h : notSlice r = true) : PlainIx r := by
  intro o i
  cases r with
  | Slice => simp [notSlice] at h
  | _ => rfl
theorem noMarks {op : CmpOp} {r : Expr} (h : notSet r = true) : behindInMarks op r = false := by
  cases r with
  | Set => simp [notSet] at h
  | _ => rfl
theorem mEs_any {P : Prg} : ∀ {as : MEs} {S : Sx} {es : List Expr} (env : PySem.Env) (pos : Pos), mEs P as S es = true → (backTo pos (starEach es env)).any (·.1) = false
  | as, S, [], env, pos, _ => rfl
  | .nil, S, e :: es, env, pos, h => by simp [mEs] at h
  | .cons a as, S, e :: es, env, pos, h => by
    simp only [mEs, Bool.and_eq_true] at h
    rw [mE_star h.1]
    simp only [backTo, List.map_cons, List.any_cons, Bool.false_or]
    exact mEs_any env pos h.2
theorem mEs_all {P : Prg} : ∀ {as : MEs} {S : Sx} {es : List Expr} (env : PySem.Env) (pos : Pos), mEs P as S es = true → (backTo pos (starEach es env)).all (fun x => !x.1) = true
  | as, S, [], env, pos, _ => rfl
  | .nil, S, e :: es, env, pos, h => by simp [mEs] at h
  | .cons a as, S, e :: es, env, pos, h => by
    simp only [mEs, Bool.and_eq_true] at h
    rw [mE_star h.1]
    simp only [backTo, List.map_cons, List.all_cons, Bool.not_false, Bool.true_and]
    exact mEs_all env pos h.2
theorem base_plain {o : Expr} (h : plainRecv o = true) (m : Str) (env : PySem.Env) (whole : Sem Value) : attributeBase o m env whole = whole := by
  unfold attributeBase
  split
  · simp [plainRecv] at h
  · rfl
theorem Gd.gl {P : Prg} {xa : ExA} {k : Nat} {S : Sx} {W : WW} {X : Cx} (g : Gd P xa k S W X) {x : Str} (h : glB S.sc x = true) : Gl X x := by
  have := (glB_ok h).1
  rw [← g.sc] at this
  exact this
end Lt

/-! Lt, part I: calls; the rules for expressions. -/
namespace Lt
open PySem PySem.Spec PyProof.Rows L2
variable [Mk]
section
variable {P : Prg} {xa : ExA} {k : Nat} {S : Sx} {W : WW} {X : Cx} {C : Calls} {e l r : Expr} {m a b c : ME} {pos : Pos}

theorem PT.ofE (pe : PE X e (TEo X.K C W m)) (he : ∀ whole, isTrue e X.env whole = (do let v ← whole; standAt e.pos; holding [v] (truthy v))) : PT X e (TTo X.K C W m) := by
  refine PT.mono' (pt_truth pe he) fun σ H Q ⟨F, be, h, env, rep, rs, post⟩ => ⟨F, be, h, env, rep, rs, ?_⟩
  refine Post.bind post fun d h1 v H1 be1 x1 rep1 rv p1 => ?_
  obtain ⟨t, e, q⟩ := p1.of1 rep1
  exact ⟨t, truD_ok rep1 rv e, q t rfl⟩
theorem e_var {i : Nat} (h : mE P (.var i) S e = true) (g : Gd P xa k S W X) : PE X e (TEo X.K C W (.var i)) := by
  simp only [mE] at h
  split at h
  · simp only [Bool.and_eq_true, decide_eq_true_eq, Bool.not_eq_true'] at h
    obtain ⟨⟨⟨h1, h2⟩, h3⟩, h4⟩ := h
    refine PE.mono' (pe_var (i := i) (by rw [g.N]; exact h1) (by rw [g.sc]; exact visB_ok h2) h3 h4) fun σ H Q ⟨F, be, h, env, rep, rs, post⟩ => ?_
    simp only [evE] at post
    split at post
    · rename_i d e1
      obtain ⟨v, e2, rv⟩ := rs.get i d e1
      exact ⟨v, e2, post.ok rep rv⟩
    · exact post.elim
  · cases h
theorem e_non (h : mE P .non S e = true) : PE X e (TEo X.K C W .non) := by
  simp only [mE] at h
  split at h
  · exact PE.mono' pe_non fun σ H Q ⟨F, be, h, env, rep, rs, post⟩ => Post.ok post rep .non
  · cases h
theorem e_bl {b : Bool} (h : mE P (.bl b) S e = true) : PE X e (TEo X.K C W (.bl b)) := by
  simp only [mE] at h
  split at h
  · simp only [decide_eq_true_eq] at h
    subst h
    exact PE.mono' pe_bl fun σ H Q ⟨F, be, h, env, rep, rs, post⟩ => Post.ok post rep (.bl b)
  · cases h
theorem e_int {b : Int} (h : mE P (.int b) S e = true) : PE X e (TEo X.K C W (.int b)) := by
  simp only [mE] at h
  split at h
  · simp only [decide_eq_true_eq] at h
    subst h
    exact PE.mono' pe_int fun σ H Q ⟨F, be, h, env, rep, rs, post⟩ => Post.ok post rep (.int b)
  · cases h
theorem e_str {b : Str} (h : mE P (.str b) S e = true) : PE X e (TEo X.K C W (.str b)) := by
  simp only [mE] at h
  split at h
  · simp only [decide_eq_true_eq] at h
    subst h
    exact PE.mono' pe_str fun σ H Q ⟨F, be, h, env, rep, rs, post⟩ => Post.ok post rep (.str b)
  · cases h
theorem e_glob {x : String} (h : mE P (.glob x) S e = true) (g : Gd P xa k S W X) : PE X e (TEo X.K (calls P k) W (.glob x)) := by
  simp only [mE] at h
  split at h
  · simp only [Bool.and_eq_true, decide_eq_true_eq] at h
    obtain ⟨h1, h2⟩ := h
    subst h1
    refine ⟨fun pins s σ H Q I ⟨F, be, h, env, rep, rs, post⟩ => ?_⟩
    have ec : (calls P k).cst x = P.cst.lookup x := by cases k <;> rfl
    obtain ⟨d, e1, q⟩ := Post.of1 post rep
    obtain ⟨u, v, m1, m2, m3⟩ := g.cst x d (ec ▸ e1)
    exact (pe_glob (g.gl h2) m1 m2 (glB_ok h2).2).run pins s σ H Q I (q v (m3 F be H))
  · cases h
theorem e_ty {n : String} (h : mE P (.ty n) S e = true) (g : Gd P xa k S W X) : PE X e (TEo X.K C W (.ty n)) := by
  simp only [mE] at h
  split at h
  · simp only [Bool.and_eq_true, decide_eq_true_eq] at h
    obtain ⟨⟨h1, h2⟩, h3⟩ := h
    subst h1
    have h3' : n = "int" ∨ n = "bool" ∨ n = "str" ∨ n = "tuple" ∨ n = "list" := by simpa [tyNs] using h3
    have hb : bootBuiltins (Str.ofString n) = some (.type n) ∧ (Str.ofString n) ≠ "__name__" ∧ X.mg (Str.ofString n) = none := by
      rcases h3' with rfl | rfl | rfl | rfl | rfl <;> exact ⟨by decide +kernel, by decide +kernel, g.blt _ (by decide +kernel)⟩
    exact PE.mono' (pe_bltn (v := .ty n) (g.gl h2) hb.2.2 hb.1 rfl hb.2.1 (glB_ok h2).2) fun σ H Q ⟨F, be, h, env, rep, rs, post⟩ => Post.ok post rep (.ty n)
  · cases h
theorem e_bin {own : Bool} {op : Operator} (ha : PE X l (TEo X.K C W a)) (hb : PE X r (TEo X.K C W b)) : PE X (.BinOp l op r pos) (TEo X.K C W (.bin own op a b)) :=
  PE.mono' (pe_op (op_bin op) ha hb) fun σ H Q ⟨F, be, h, env, rep, rs, post⟩ => ⟨F, be, h, env, rep, rs, Post.bind post fun dx h1 x H1 be1 x1 rep1 rx p1 =>
    ⟨F, be1, h1, env, rep1, rs.ext x1, p1.bind fun dy h2 y H2 be2 x2 rep2 ry p2 => binD_ok rep2 (rx.ext x2) ry p2⟩⟩
theorem e_neg (ha : PE X l (TEo X.K C W a)) : PE X (.UnaryOp .USub l pos) (TEo X.K C W (.neg a)) :=
  PE.mono' (pe_un un_neg ha) fun σ H Q ⟨F, be, h, env, rep, rs, post⟩ => ⟨F, be, h, env, rep, rs, Post.bind post fun dx h1 x H1 be1 x1 rep1 rx p1 => by
    split at p1
    · cases rx
      exact ⟨_, rfl, p1.ok rep1 (.int _)⟩
    · exact p1.elim⟩
theorem e_not (ha : PE X l (TEo X.K C W a)) : PE X (.UnaryOp .Not l pos) (TEo X.K C W (.not a)) :=
  PE.mono' (pe_notT ha) fun σ H Q ⟨F, be, h, env, rep, rs, post⟩ => ⟨F, be, h, env, rep, rs, Post.bind post fun dx h1 x H1 be1 x1 rep1 rx p1 => by
    cases ht : truD h1 dx with
    | none => rw [ht] at p1; exact p1.elim
    | some t =>
      rw [ht] at p1
      exact ⟨t, truD_ok rep1 rx ht, Post.ok p1 rep1 (.bl _)⟩⟩
theorem bind_tru {o : Out Bool} {f : Bool → Bool} : ((o.bind fun b h => Out.ok (D.bl (f b)) h).bind fun x h => Out.of (truD h x) h) = o.bind fun b h => .ok (f b) h := by
  cases o <;> rfl
theorem Out.assoc {α β γ : Type} (o : Out α) (f : α → MHeap → Out β) (g : β → MHeap → Out γ) : (o.bind f).bind g = o.bind fun a h => (f a h).bind g := by
  cases o <;> rfl
theorem t_not (ha : PT X l (TTo X.K C W a)) : PT X (.UnaryOp .Not l pos) (TTo X.K C W (.not a)) :=
  PT.mono' (pt_not ha) fun σ H Q ⟨F, be, h, env, rep, rs, post⟩ => ⟨F, be, h, env, rep, rs, by
    have e : evT C (.not a) env h = (evT C a env h).bind fun b h => .ok (!b) h := by
      simp only [evT, evE, Out.assoc]
      all_goals (congr 1)
    rw [e] at post
    exact post.bind fun t h1 c H1 be1 x1 rep1 rc p1 => by
      cases rc
      exact p1.ok rep1 rfl⟩
theorem e_ite {t : Expr} (hc : PT X t (TTo X.K C W c)) (ha : PE X l (TEo X.K C W a)) (hb : PE X r (TEo X.K C W b)) : PE X (.IfExp t l r pos) (TEo X.K C W (.ite c a b)) :=
  PE.mono' (pe_ifExp hc ha hb) fun σ H Q ⟨F, be, h, env, rep, rs, post⟩ => ⟨F, be, h, env, rep, rs, by
    have e : evE C (.ite c a b) env h = (evT C c env h).bind fun t h => if t then evE C a env h else evE C b env h := by
      simp only [evT, evE, Out.assoc]
    rw [e] at post
    exact post.bind fun t h1 c H1 be1 x1 rep1 rc p1 => by
      cases rc
      cases t with
      | true => exact ⟨F, be1, h1, env, rep1, rs.ext x1, p1⟩
      | false => exact ⟨F, be1, h1, env, rep1, rs.ext x1, p1⟩⟩
/-- a test that is a conditional expression -/
theorem pt_ifExp {t : Expr} {tc ta tb : TT} (hc : PT X t tc) (ha : PT X l ta) (hb : PT X r tb) : PT X (.IfExp t l r pos) (fun σ H Q => tc σ H fun k H1 => if k = true then ta σ H1 Q else tb σ H1 Q) := by
  refine ⟨fun pins s σ H Q I h => ?_⟩
  refine isTrue_IfExp (thn (hc.run pins s σ H _ I h) fun d s1 ⟨H1, I1, q1⟩ => ?_)
  cases d with
  | true => exact ha.run pins s1 σ H1 Q I1 q1
  | false => exact hb.run pins s1 σ H1 Q I1 q1
theorem t_ite {t : Expr} (hc : PT X t (TTo X.K C W c)) (ha : PT X l (TTo X.K C W a)) (hb : PT X r (TTo X.K C W b)) : PT X (.IfExp t l r pos) (TTo X.K C W (.ite c a b)) :=
  PT.mono' (pt_ifExp hc ha hb) fun σ H Q ⟨F, be, h, env, rep, rs, post⟩ => ⟨F, be, h, env, rep, rs, by
    have e : evT C (.ite c a b) env h = (evT C c env h).bind fun t h => if t then evT C a env h else evT C b env h := by
      simp only [evT, evE, Out.assoc]
      congr 1
      funext x h1
      congr 1
      funext t h2
      cases t <;> rfl
    rw [e] at post
    exact post.bind fun t h1 c H1 be1 x1 rep1 rc p1 => by
      cases rc
      cases t with
      | true => exact ⟨F, be1, h1, env, rep1, rs.ext x1, p1⟩
      | false => exact ⟨F, be1, h1, env, rep1, rs.ext x1, p1⟩⟩
theorem e_cmp {op : CmpOp} (hr : Room k X.A) (hn : notSet r = true) (ha : PE X l (TEo X.K C W a)) (hb : PE X r (TEo X.K C W b)) : PE X (.Compare l [op] [r] pos) (TEo X.K C W (.cmp op a b)) :=
  PE.mono' (pe_cmpR (op_cmp hr op) ha hb (noMarks hn)) fun σ H Q ⟨F, be, h, env, rep, rs, post⟩ => ⟨F, be, h, env, rep, rs, Post.bind post fun dx h1 x H1 be1 x1 rep1 rx p1 =>
    ⟨F, be1, h1, env, rep1, rs.ext x1, p1.bind fun dy h2 y H2 be2 x2 rep2 ry p2 => by
      cases ht : cmpD op dx dy h2 with
      | none => rw [ht] at p2; exact p2.elim
      | some t =>
        rw [ht] at p2
        exact cmpD_ok rep2 (rx.ext x2) ry ht (Post.ok p2 rep2 (.bl t))⟩⟩
theorem t_cmp {op : CmpOp} (hr : Room k X.A) (hn : notSet r = true) (ha : PE X l (TEo X.K C W a)) (hb : PE X r (TEo X.K C W b)) : PT X (.Compare l [op] [r] pos) (TTo X.K C W (.cmp op a b)) :=
  PT.mono' (pt_cmpR (op_cmp hr op) ha hb (noMarks hn)) fun σ H Q ⟨F, be, h, env, rep, rs, post⟩ => ⟨F, be, h, env, rep, rs, by
    have e : evT C (.cmp op a b) env h = (evE C a env h).bind fun x h => (evE C b env h).bind fun y h => Out.of (cmpD op x y h) h := by
      simp only [evT, evE, Out.assoc]
      congr 1
      funext x h1
      congr 1
      funext y h2
      cases cmpD op x y h2 <;> rfl
    rw [e] at post
    exact Post.bind post fun dx h1 x H1 be1 x1 rep1 rx p1 =>
      ⟨F, be1, h1, env, rep1, rs.ext x1, p1.bind fun dy h2 y H2 be2 x2 rep2 ry p2 => by
        obtain ⟨t, ht, q⟩ := p2.of1 rep2
        exact cmpD_ok rep2 (rx.ext x2) ry ht ⟨t, rfl, q t rfl⟩⟩⟩
theorem lastM {o1 o2 : CmpOp} {t : Expr} (h2 : notSet t = true) : lastMarks [o1, o2] [r, t] = false := noMarks (op := o2) h2
theorem e_chain {o1 o2 : CmpOp} {t : Expr} (hr : Room k X.A) (hn : notSet t = true) (ha : PE X l (TEo X.K C W a)) (hb : PE X r (TEo X.K C W b)) (hc : PE X t (TEo X.K C W c)) : PE X (.Compare l [o1, o2] [r, t] pos) (TEo X.K C W (.chain o1 o2 a b c)) :=
  PE.mono' (pe_chain (op_cmp hr o1) (op_cmp hr o2) ha hb hc (lastM hn)) fun σ H Q ⟨F, be, h, env, rep, rs, post⟩ => ⟨F, be, h, env, rep, rs, Post.bind post fun dx h1 x H1 be1 x1 rep1 rx p1 =>
    ⟨F, be1, h1, env, rep1, rs.ext x1, p1.bind fun dy h2 y H2 be2 x2 rep2 ry p2 => by
      cases ht : cmpD o1 dx dy h2 with
      | none => rw [ht] at p2; exact p2.elim
      | some t =>
        rw [ht] at p2
        refine cmpD_ok rep2 (rx.ext x2) ry ht ⟨t, rfl, ?_⟩
        cases t with
        | false => exact Post.ok p2 rep2 (.bl false)
        | true =>
          refine ⟨F, be2, h2, env, rep2, (rs.ext x1).ext x2, Post.bind p2 fun dz h3 z H3 be3 x3 rep3 rz p3 => ?_⟩
          cases ht : cmpD o2 dy dz h3 with
          | none => rw [ht] at p3; exact p3.elim
          | some t =>
            rw [ht] at p3
            exact cmpD_ok rep3 (ry.ext x3) rz ht (Post.ok p3 rep3 (.bl t))⟩⟩
theorem t_chain {o1 o2 : CmpOp} {t : Expr} (hr : Room k X.A) (hn : notSet t = true) (ha : PE X l (TEo X.K C W a)) (hb : PE X r (TEo X.K C W b)) (hc : PE X t (TEo X.K C W c)) : PT X (.Compare l [o1, o2] [r, t] pos) (TTo X.K C W (.chain o1 o2 a b c)) :=
  PT.mono' (pt_chain (op_cmp hr o1) (op_cmp hr o2) ha hb hc (lastM hn)) fun σ H Q ⟨F, be, h, env, rep, rs, post⟩ => ⟨F, be, h, env, rep, rs, by
    have e : evT C (.chain o1 o2 a b c) env h = (evE C a env h).bind fun x h => (evE C b env h).bind fun y h => (Out.of (cmpD o1 x y h) h).bind fun t h =>
        if t then (evE C c env h).bind fun z h => Out.of (cmpD o2 y z h) h else .ok false h := by
      simp only [evT, evE, Out.assoc]
      congr 1
      funext x h1
      congr 1
      funext y h2
      congr 1
      funext t h3
      cases t with
      | false => rfl
      | true =>
        show Out.bind (Out.bind _ _) _ = _
        rw [Out.assoc]
        show Out.bind _ _ = Out.bind _ _
        congr 1
        funext z h4
        show Out.bind (Out.bind _ _) _ = _
        cases cmpD o2 y z h4 <;> rfl
    rw [e] at post
    exact Post.bind post fun dx h1 x H1 be1 x1 rep1 rx p1 =>
      ⟨F, be1, h1, env, rep1, rs.ext x1, p1.bind fun dy h2 y H2 be2 x2 rep2 ry p2 => by
      cases ht : cmpD o1 dx dy h2 with
      | none => rw [ht] at p2; exact p2.elim
      | some t =>
        rw [ht] at p2
        refine cmpD_ok rep2 (rx.ext x2) ry ht ⟨t, rfl, ?_⟩
        cases t with
        | false => exact ⟨false, rfl, Post.ok p2 rep2 rfl⟩
        | true =>
          refine ⟨F, be2, h2, env, rep2, (rs.ext x1).ext x2, Post.bind p2 fun dz h3 z H3 be3 x3 rep3 rz p3 => ?_⟩
          obtain ⟨t, ht, q⟩ := p3.of1 rep3
          exact cmpD_ok rep3 (ry.ext x3) rz ht ⟨t, rfl, q t rfl⟩⟩⟩
variable {es : List Expr} {as : MEs}
theorem a_nil : PA X [] (TAo X.K C W .nil) := PA.mono' pa_nil fun σ H Q ⟨F, be, h, env, rep, rs, post⟩ => Post.ok post rep .nil
theorem a_cons (ha : PE X e (TEo X.K C W a)) (hr : PA X es (TAo X.K C W as)) (hs : starEach (e :: es) X.env = (false, eval e X.env) :: starEach es X.env) : PA X (e :: es) (TAo X.K C W (.cons a as)) :=
  PA.mono' (pa_cons ha hr hs) fun σ H Q ⟨F, be, h, env, rep, rs, post⟩ => ⟨F, be, h, env, rep, rs, Post.bind post fun dx h1 x H1 be1 x1 rep1 rx p1 =>
    ⟨F, be1, h1, env, rep1, rs.ext x1, p1.bind fun ds h2 vs H2 be2 x2 rep2 rv p2 => p2.ok rep2 (.cons (rx.ext x2) rv)⟩⟩
/-- (a, b, ..) -/
def tTupS (t : TA) : TE := fun σ H Q => t σ H fun xs H1 => xs.length ≤ sizeLine ∧ ∀ p o, H1 p = none → o.dict = none → Q (.ref p) (upd H1 p (.frz o (.tup xs)))
theorem pe_tupS {t : TA} {j : Nat} (h : PA X es t) : PE X (.Tuple es j pos) (tTupS t) :=
  ⟨fun pins s σ H Q I hq => wpAny_Tuple_spliced (thn (h.run pos pins s σ H _ I hq) fun us s1 ⟨xs, H1, I1, r, z, q⟩ =>
    ⟨by rw [← r.length]; exact z, .ref s1.heap.objs.size, _, Inv.laidT (s := s1) (h' := s1.heap) I1 r z, rfl, q _ _ (I1.hok.fresh (Nat.le_refl _)) rfl⟩)⟩
theorem e_tup {j : Nat} (ha : PA X es (TAo X.K C W as)) : PE X (.Tuple es j pos) (TEo X.K C W (.tup as)) :=
  PE.mono' (pe_tupS ha) fun σ H Q ⟨F, be, h, env, rep, rs, post⟩ => ⟨F, be, h, env, rep, rs, Post.bind post fun ds h1 vs H1 be1 x1 rep1 rv p1 =>
    ⟨by rw [← rv.length]; exact mkT_len p1, fun p o np nd => p1.mkT rep1 rv np nd⟩⟩
theorem e_lst {own : Bool} (ha : PA X es (TAo X.K C W as)) : PE X (.List es pos) (TEo X.K C W (.lst own as)) :=
  PE.mono' (pe_lst ha) fun σ H Q ⟨F, be, h, env, rep, rs, post⟩ => ⟨F, be, h, env, rep, rs, Post.bind post fun ds h1 vs H1 be1 x1 rep1 rv p1 =>
    ⟨by rw [← rv.length]; exact mkL_len p1, fun p np => p1.mkL rep1 rv np⟩⟩
/-- and, or as values and tests: one, and one more -/
theorem e_bool1 {op : BoolOp} (ha : PE X e (TEo X.K C W a)) : PE X (.BoolOp op [e] pos) (TEo X.K C W a) := pe_one ha
theorem e_and {e2 : Expr} (ha : PE X e (TEo X.K C W a)) (hr : PE X (.BoolOp .And (e2 :: es) pos) (TEo X.K C W (.and (.cons b as)))) : PE X (.BoolOp .And (e :: e2 :: es) pos) (TEo X.K C W (.and (.cons a (.cons b as)))) :=
  PE.mono' (pe_andT ha hr) fun σ H Q ⟨F, be, h, env, rep, rs, post⟩ => ⟨F, be, h, env, rep, rs, Post.bind (show Post _ _ _ _ _ (Out.bind _ _) _ _ from post) fun dx h1 x H1 be1 x1 rep1 rx p1 => by
    cases ht : truD h1 dx with
    | none => rw [ht] at p1; exact p1.elim
    | some t =>
      rw [ht] at p1
      refine ⟨t, truD_ok rep1 rx ht, ?_⟩
      cases t with
      | true => exact ⟨F, be1, h1, env, rep1, rs.ext x1, p1⟩
      | false => exact Post.ok p1 rep1 rx⟩
theorem e_or {e2 : Expr} (ha : PE X e (TEo X.K C W a)) (hr : PE X (.BoolOp .Or (e2 :: es) pos) (TEo X.K C W (.or (.cons b as)))) : PE X (.BoolOp .Or (e :: e2 :: es) pos) (TEo X.K C W (.or (.cons a (.cons b as)))) :=
  PE.mono' (pe_orT ha hr) fun σ H Q ⟨F, be, h, env, rep, rs, post⟩ => ⟨F, be, h, env, rep, rs, Post.bind (show Post _ _ _ _ _ (Out.bind _ _) _ _ from post) fun dx h1 x H1 be1 x1 rep1 rx p1 => by
    cases ht : truD h1 dx with
    | none => rw [ht] at p1; exact p1.elim
    | some t =>
      rw [ht] at p1
      refine ⟨t, truD_ok rep1 rx ht, ?_⟩
      cases t with
      | true => exact Post.ok p1 rep1 rx
      | false => exact ⟨F, be1, h1, env, rep1, rs.ext x1, p1⟩⟩
theorem w_and1 (ha : PT X e (TTo X.K C W a)) : PW X (.BoolOp .And [e] pos) (TTo X.K C W (.and (.cons a .nil))) := PW.mono' (pw_and1 ha) fun σ H Q z => z
theorem w_or1 (ha : PT X e (TTo X.K C W a)) : PW X (.BoolOp .Or [e] pos) (TTo X.K C W (.or (.cons a .nil))) := PW.mono' (pw_or1 ha) fun σ H Q z => z
theorem w_and {e2 : Expr} (ha : PT X e (TTo X.K C W a)) (hr : PW X (.BoolOp .And (e2 :: es) pos) (TTo X.K C W (.and (.cons b as)))) : PW X (.BoolOp .And (e :: e2 :: es) pos) (TTo X.K C W (.and (.cons a (.cons b as)))) :=
  PW.mono' (pw_and ha hr) fun σ H Q ⟨F, be, h, env, rep, rs, post⟩ => ⟨F, be, h, env, rep, rs, by
    have e : evT C (.and (.cons a (.cons b as))) env h = (evT C a env h).bind fun t h => if t then evT C (.and (.cons b as)) env h else .ok false h := by
      show (Out.bind (Out.bind _ _) _) = Out.bind (Out.bind _ _) _
      rw [Out.assoc, Out.assoc]
      congr 1
      funext x h1
      cases ht : truD h1 x with
      | none => rfl
      | some t =>
        cases t with
        | true => rfl
        | false =>
          show Out.of (truD h1 x) h1 = _
          rw [ht]
          rfl
    rw [e] at post
    exact post.bind fun t h1 c H1 be1 x1 rep1 rc p1 => by
      cases rc
      cases t with
      | true => exact ⟨F, be1, h1, env, rep1, rs.ext x1, p1⟩
      | false => exact Post.ok p1 rep1 rfl⟩
theorem w_or {e2 : Expr} (ha : PT X e (TTo X.K C W a)) (hr : PW X (.BoolOp .Or (e2 :: es) pos) (TTo X.K C W (.or (.cons b as)))) : PW X (.BoolOp .Or (e :: e2 :: es) pos) (TTo X.K C W (.or (.cons a (.cons b as)))) :=
  PW.mono' (pw_or ha hr) fun σ H Q ⟨F, be, h, env, rep, rs, post⟩ => ⟨F, be, h, env, rep, rs, by
    have e : evT C (.or (.cons a (.cons b as))) env h = (evT C a env h).bind fun t h => if t then .ok true h else evT C (.or (.cons b as)) env h := by
      show (Out.bind (Out.bind _ _) _) = Out.bind (Out.bind _ _) _
      rw [Out.assoc, Out.assoc]
      congr 1
      funext x h1
      cases ht : truD h1 x with
      | none => rfl
      | some t =>
        cases t with
        | false => rfl
        | true =>
          show Out.of (truD h1 x) h1 = _
          rw [ht]
          rfl
    rw [e] at post
    exact post.bind fun t h1 c H1 be1 x1 rep1 rc p1 => by
      cases rc
      cases t with
      | true => exact Post.ok p1 rep1 rfl
      | false => exact ⟨F, be1, h1, env, rep1, rs.ext x1, p1⟩⟩
theorem e_ix (hr : Room k X.A) (hn : notSlice r = true) (ha : PE X l (TEo X.K C W a)) (hb : PE X r (TEo X.K C W b)) : PE X (.Subscript l r pos) (TEo X.K C W (.ix a b)) :=
  PE.mono' (pe_ix (ix_all hr) ha hb (mE_plainIx hn)) fun σ H Q ⟨F, be, h, env, rep, rs, post⟩ => ⟨F, be, h, env, rep, rs, Post.bind post fun dx h1 x H1 be1 x1 rep1 rx p1 =>
    ⟨F, be1, h1, env, rep1, rs.ext x1, p1.bind fun dy h2 y H2 be2 x2 rep2 ry p2 => by
      obtain ⟨d, e, q⟩ := p2.of1 rep2
      exact getD_ok rep2 (rx.ext x2) ry e q⟩⟩
theorem o_none : PO X none (TOo X.K C W .none) := PO.mono' po_none fun σ H Q ⟨F, be, h, env, rep, rs, post⟩ => Post.ok post rep rfl
theorem o_some (ha : PE X e (TEo X.K C W a)) : PO X (some e) (TOo X.K C W (.some a)) :=
  PO.mono' (po_some ha) fun σ H Q ⟨F, be, h, env, rep, rs, post⟩ => ⟨F, be, h, env, rep, rs, Post.bind post fun dx h1 x H1 be1 x1 rep1 rx p1 => by
    split at p1
    · cases rx
      exact ⟨_, rfl, p1.ok rep1 rfl⟩
    · exact p1.elim⟩
theorem e_cut {own : Bool} {lo hi : MO} {b c : Option Expr} {p2 : Pos} (ha : PE X l (TEo X.K C W a)) (hb : PO X b (TOo X.K C W lo)) (hc : PO X c (TOo X.K C W hi)) : PE X (.Subscript l (.Slice b c none p2) pos) (TEo X.K C W (.cut own a lo hi)) :=
  PE.mono' (pe_slice sl_all ha hb hc) fun σ H Q ⟨F, be, h, env, rep, rs, post⟩ => ⟨F, be, h, env, rep, rs, Post.bind post fun dx h1 x H1 be1 x1 rep1 rx p1 =>
    ⟨F, be1, h1, env, rep1, rs.ext x1, p1.bind fun ol h2 ol' H2 be2 x2 rep2 e1 p2 => by
      cases e1
      exact ⟨F, be2, h2, env, rep2, (rs.ext x1).ext x2, p2.bind fun oh h3 oh' H3 be3 x3 rep3 e2 p3 => by
        cases e2
        exact cutD_ok rep3 ((rx.ext x2).ext x3) p3⟩⟩⟩
theorem e_blt {own : Bool} {f : String} {p : Pos} (g : Gd P xa k S W X) (hf : (bltV f).isSome = true) (hg : glB S.sc (Str.ofString f) = true) (hm : mEs P as S (e :: es) = true) (hs : starEach (e :: es) X.env = (false, eval e X.env) :: starEach es X.env)
    (hpl : (backTo pos (starEach es X.env)).any (·.1) = false) (ha : PA X (e :: es) (TAo X.K C W as)) : PE X (.Call (.Name (Str.ofString f) p) (e :: es) [] pos) (TEo X.K C W (.blt own f as)) := by
  cases hv : bltV f with
  | none => rw [hv] at hf; cases hf
  | some u =>
    obtain ⟨b1, b2, b3⟩ := boot_blt hv
    have hmg : X.mg (Str.ofString f) = none := g.blt f (by
      unfold bltV at hv
      split at hv <;> first | decide +kernel | cases hv)
    have hcall := call_blt g.calm hv
    have fin : ∀ σ H Q, TEo X.K C W (.blt own f as) σ H Q → tCB (rBlt X.K f) (TAo X.K C W as) σ H Q := fun σ H Q ⟨F, be, h, env, rep, rs, post⟩ =>
      ⟨F, be, h, env, rep, rs, Post.bind post fun ds h1 vs H1 be1 x1 rep1 rv p1 => bltD_ok rep1 rv p1⟩
    have hv' := hv
    unfold bltV at hv'
    split at hv' <;> first
      | (cases hv'; exact PE.mono' (pe_callB hcall (g.gl hg) hmg b1 ha b2 b3 hs hpl) fin)
      | (cases hv'; exact PE.mono' (pe_callTy hcall (g.gl hg) hmg b1 ha b2 b3 hs hpl) fin)
      | cases hv'
theorem e_rev {own : Bool} {j : Nat} {p1 p2 p3 : Pos} (ha : PE X l (TEo X.K C W a)) : PE X (.Subscript l (.Slice none none (some (.UnaryOp .USub (.Constant (.int 1) j p1) p2)) p3) pos) (TEo X.K C W (.rev own a)) :=
  PE.mono' (pe_back ha) fun σ H Q ⟨F, be, h, env, rep, rs, post⟩ => ⟨F, be, h, env, rep, rs, Post.bind post fun dx h1 x H1 be1 x1 rep1 rx p1 => by
    unfold revD at p1
    split at p1
    · cases rx with
      | tup ha na ra => exact ⟨_, _, rfl, .inr ⟨fT ha, fun p o np nd => p1 _ _ be1 (Ext.new np) (rep1.new np) (.tup upd_same nd (ra.reverse.ext (Ext.new np)))⟩⟩
    · split at p1
      · rename_i ys hy
        obtain ⟨a, vs, rfl, ha, ra⟩ := seqOf_ok rep1 rx hy
        exact ⟨_, _, rfl, .inl ⟨.of ha, fun p np => p1.mkL rep1 ra.reverse np⟩⟩
      · exact p1.elim⟩
theorem e_isx {y : String} {p p2 : Pos} (g : Gd P xa k S W X) (hx : P.exs = true) (hy : (exNames.contains y || y == "ValueError") = true) (hg : glB S.sc ("isinstance" : Str) = true) (hw : glB S.sc (Str.ofString y) = true)
    (hs : starEach [l, .Name (Str.ofString y) p2] X.env = [(false, eval l X.env), (false, eval (.Name (Str.ofString y) p2) X.env)]) (hs1 : ∀ env, starEach [l, .Name (Str.ofString y) p2] env = (false, eval l env) :: starEach [.Name (Str.ofString y) p2] env)
    (ha : PE X l (TEo X.K C W a)) : PE X (.Call (.Name ("isinstance" : Str) p) [l, .Name (Str.ofString y) p2] [] pos) (TEo X.K C W (.isx a y)) := by
  have hmg : X.mg ("isinstance" : Str) = none := g.blt "isinstance" (by decide +kernel)
  have hpl : (backTo pos (starEach [.Name (Str.ofString y) p2] X.env)).any (·.1) = false := rfl
  have main : ∀ {t : TE} {cv : Value} {V0 : V}, (∀ u, RelV V0 u → u = cv) → PE X (.Name (Str.ofString y) p2) (fun _ H Q => Q V0 H) → (∀ x, exNames.contains x = true → ∀ d, isxD y (.exc x) = some d → ∃ b, d = .bl b ∧ PySem.W.kitOne X.K (.ref (clsOf X.K x)) cv = some b) →
      PE X (.Call (.Name ("isinstance" : Str) p) [l, .Name (Str.ofString y) p2] [] pos) (TEo X.K C W (.isx a y)) := by
    intro t cv V0 hV hn hk
    refine PE.mono' (pe_callB (call_isX (X := X)) (g.gl hg) hmg (by decide +kernel) (pa_cons ha (pa_cons hn pa_nil) (hs1 X.env)) (by decide +kernel) (by decide +kernel) (hs1 X.env) hpl) fun σ H Q ⟨F, be, h, env, rep, rs, post⟩ => ?_
    refine ⟨F, be, h, env, rep, rs, Post.bind post fun dx h1 x H1 be1 x1 rep1 rx p1 => ?_⟩
    obtain ⟨d, e, q⟩ := p1.of1 rep1
    have e0 := e
    unfold isxD at e
    split at e
    · rename_i x' 
      have hx' : exNames.contains x' = true := by
        cases hc : exNames.contains x' with
        | true => rfl
        | false => rw [hc] at e; simp only [Bool.false_and, Bool.false_eq_true, if_false] at e; cases e
      cases rx with
      | exc hq _ _ =>
        obtain ⟨b, rfl, hb⟩ := hk x' hx' d e0
        exact ⟨_, _, V0, cv, b, rfl, hq, (g.exs hx x' (by simpa using hx')).ec, hV, hb, q _ (.bl b)⟩
    · cases e
  rcases (Bool.or_eq_true _ _).mp hy with hy | hy
  · have hy' : y ∈ exNames := by simpa using hy
    have E := g.exs hx y hy'
    refine main (t := fun _ _ _ => True) (V0 := .ref (clsOf X.K y)) (cv := .ref (clsOf X.K y)) (fun u r => r) (PE.mono' (pe_glob (v := .ref (clsOf X.K y)) (g.gl hw) E.mg rfl (glB_ok hw).2) fun σ H Q q => q) fun x hx' d e => ?_
    simp only [isxD, hx', hy, Bool.and_self, if_true, Option.some.injEq] at e
    subst e
    exact ⟨_, rfl, (g.exs hx x (by simpa using hx')).is y hy'⟩
  · have hy' : y = "ValueError" := by simpa using hy
    subst hy'
    refine main (t := fun _ _ _ => True) (V0 := .ty "ValueError") (cv := .type "ValueError") (fun u r => r) (PE.mono' (pe_bltn (v := .ty "ValueError") (g.gl hw) (g.blt _ (by decide +kernel)) (by decide +kernel) rfl (by decide +kernel) (glB_ok hw).2) fun σ H Q q => q) fun x hx' d e => ?_
    have hn : exNames.contains "ValueError" = false := by decide +kernel
    simp only [isxD, hx', hn, Bool.and_false, Bool.false_eq_true, if_false, beq_self_eq_true, Bool.and_self, if_true, Option.some.injEq] at e
    subst e
    exact ⟨_, rfl, (g.exs hx x (by simpa using hx')).ve⟩
/-- the heap with grown tables -/
theorem Ext.ofN {F be : List Addr} {H H1 : Hp} (x : LamX.ExtN H H1) : Ext F be H be H1 :=
  ⟨⟨[], by simp, by simp⟩, fun a o q _ nt => ⟨o, x a o q nt, .inl rfl⟩, fun a o _ q nt => x a o q nt, fun a xs q => x a _ q (fun ps z => by cases z), fun a o u q => x a _ q (fun ps z => by cases z), fun a o q nt => ⟨o, x a o q nt, nt⟩⟩
theorem Rep.ofN {K : PySem.W.Frag} {F be : List Addr} {h : MHeap} {H H1 : Hp} (R : Rep K F be h H) (x : LamX.ExtN H H1) (t : LamX.Tabs (tabsOf K) H1) : Rep K F be h H1 := by
  refine ⟨R.len, R.nd, R.dis, fun a ha => let ⟨o, q, nt⟩ := R.fin a ha; ⟨o, x a o q nt, nt⟩, fun n a m e1 e2 => ?_, t⟩
  have ro := R.obj n a m e1 e2
  refine ro.ext (Ext.ofN x) fun u q => x a u q ?_
  cases ro with
  | lst z => rw [z] at q; cases q; exact ntL
  | dic0 z => rw [z] at q; cases q; exact ntD
  | fdic0 z => rw [z] at q; cases q; exact ntF
  | ins z => rw [z] at q; cases q; exact ntI
theorem Post.monoE {α γ : Type} {K : PySem.W.Frag} {F be : List Addr} {H : Hp} {R : List Addr → Hp → α → γ → Prop} {o : Out α} {Q : γ → Hp → Prop} {E E' : String → Hp → Prop} (p : Post K F be H R o Q E) (i : ∀ x G, E x G → E' x G) : Post K F be H R o Q E' := by
  cases o with
  | ok a h => exact p
  | ex x h => exact fun G b x rep => i _ _ (p G b x rep)
  | fail => exact p
theorem e_heard {scope : Scope} {params : Arguments} {body : Expr} {p lpos : Pos} (g : Gd P xa k S W X) (hgl : glB S.sc ("_law_heard" : Str) = true) (hl : S.lam = true) (hp : noPar params = true) (hsc : LamX.lamSB S.sc scope = true)
    (hbody : ∀ (A : Around) (outer : List PySem.Env) (s : Shared) (H : Hp) (E : XK) (f c' : Addr), Room (8 * k + 4) (A.deeper (LamX.lamEnv X scope s.heap.objs.size f c')) → PE (LamX.lamCx X A outer s H E scope f c') body (TEo X.K C (fun x _ H' => E (xa x) none H') b)) :
    PE X (.Call (.Name ("_law_heard" : Str) p) [.Lambda params body scope lpos] [] pos) (TEo X.K C W (.heard b)) := by
  refine PE.mono' (g.hrd hl (g.gl hgl) hp (LamX.lamS_by (g.sc ▸ hsc)) hbody) fun σ H Q ⟨F, be, h, env, rep, rs, post⟩ => ⟨rep.tabs, fun H1 x1 t1 => ?_⟩
  have rep1 := rep.ofN x1 t1
  have e1 : Ext F be H be H1 := Ext.ofN x1
  refine ⟨F, be, h, evE C b env h, rep1, ?_, fun H2 x2 rep2 Q' E' q => ⟨F, be, h, env, rep2, (rs.ext e1).ext x2, q.monoE fun x G z => ⟨x, rfl, rfl, z⟩⟩⟩
  have p1 : Post X.K F be H1 (RV X.K F) (heardO (evE C b env h)) Q fun x H' => W x σ H' := Post.weak post e1
  cases ho : evE C b env h with
  | ok v h' => rw [ho] at p1; exact p1
  | fail => rw [ho] at p1; exact p1
  | ex x h' =>
    rw [ho] at p1
    simp only [heardO] at p1 ⊢
    split at p1
    · exact p1
    · exact p1
/-! ### x in G, G a tuple of texts of the module -/
theorem pd_strs : ∀ l : List Str, D.pdL (l.map D.str) = l.map PyData.str
  | [] => rfl
  | s :: r => by simp only [List.map_cons, D.pdL, D.pd, pd_strs r]
theorem dp_strs {K : PySem.W.Frag} {H : Hp} : ∀ l : List Str, DpAll K H (l.map V.str) (l.map PyData.str)
  | [] => .nil
  | s :: r => .cons (.str s) (dp_strs r)
theorem inG_ok {K : PySem.W.Frag} {F be : List Addr} {h : MHeap} {H : Hp} {neg : Bool} {ws : List Str} {dx : D} {x : V} {b : Bool} {y : Addr} {Q : V → Hp → Prop} (rep : Rep K F be h H) (rx : RV K F be H dx x) (sq : SqT K H y (ws.map V.str)) (e : inD h dx (.tup (ws.map .str)) = some b) (q : Q (.bl (if neg then !b else b)) H) :
    rCmp K (if neg then .NotIn else .In) x (.ref y) H Q := by
  simp only [inD, itemsOf] at e
  split at e
  · rename_i z
    simp only [Bool.and_eq_true] at z
    simp only [Option.some.injEq] at e
    have ea := any_deq z.1 (ws.map .str) 60 z.2
    rw [e] at ea
    have hd := res_dp rep rx z.1
    have sd := okD_shaped (n := 60) (by decide) z.1
    have p : Dp K H (.ref y) (.tuple (D.pdL (ws.map .str))) := .tup sq (by rw [pd_strs]; exact dp_strs ws)
    cases neg with
    | true => exact .inr (.inr (.inl ⟨_, _, hd, p, sd, (shapedL z.2).2, by rw [ea]; exact q⟩))
    | false => exact .inr (.inr (.inl ⟨_, _, hd, p, sd, (shapedL z.2).2, by rw [ea]; exact q⟩))
  · cases e
section
variable {neg : Bool} {x : String} {p2 : Pos} {ws : List Str}
theorem ev_inG (hl : P.tcs.lookup x = some ws) (env : Env) (h : MHeap) : evE (calls P k) (.inG neg a x) env h = (evE (calls P k) a env h).bind fun y h => Out.of ((inD h y (.tup (ws.map .str))).map fun b => .bl (if neg then !b else b)) h := by
  have ec : (calls P k).tcs x = some ws := by cases k <;> exact hl
  rw [evE, ec]
theorem e_inG (g : Gd P xa k S W X) (hl : P.tcs.lookup x = some ws) (hg : glB S.sc (Str.ofString x) = true) (ha : PE X l (TEo X.K (calls P k) W a)) : PE X (.Compare l [if neg then .NotIn else .In] [.Name (Str.ofString x) p2] pos) (TEo X.K (calls P k) W (.inG neg a x)) := by
  obtain ⟨y, m1, m2⟩ := g.tcs x ws hl
  refine PE.mono' (pe_cmpR (op_cmp g.room _) ha (pe_glob (v := .ref y) (g.gl hg) m1 rfl (glB_ok hg).2) (noMarks rfl)) fun σ H Q ⟨F, be, h, env, rep, rs, post⟩ => ?_
  rw [ev_inG hl] at post
  refine ⟨F, be, h, env, rep, rs, Post.bind post fun dx h1 x H1 be1 x1 rep1 rx p1 => ?_⟩
  obtain ⟨d, e, q⟩ := p1.of1 rep1
  simp only [Option.map_eq_some_iff] at e
  obtain ⟨b, e, rfl⟩ := e
  exact inG_ok rep1 rx (m2 H1) e (q _ (.bl _))
theorem t_inG (g : Gd P xa k S W X) (hl : P.tcs.lookup x = some ws) (hg : glB S.sc (Str.ofString x) = true) (ha : PE X l (TEo X.K (calls P k) W a)) : PT X (.Compare l [if neg then .NotIn else .In] [.Name (Str.ofString x) p2] pos) (TTo X.K (calls P k) W (.inG neg a x)) := by
  obtain ⟨y, m1, m2⟩ := g.tcs x ws hl
  refine PT.mono' (pt_cmpR (op_cmp g.room _) ha (pe_glob (v := .ref y) (g.gl hg) m1 rfl (glB_ok hg).2) (noMarks rfl)) fun σ H Q ⟨F, be, h, env, rep, rs, post⟩ => ?_
  have e0 : evT (calls P k) (.inG neg a x) env h = (evE (calls P k) a env h).bind fun y h => Out.of ((inD h y (.tup (ws.map .str))).map fun b => if neg then !b else b) h := by
    unfold evT
    rw [ev_inG hl, Out.assoc]
    congr 1
    funext y h1
    cases inD h1 y (.tup (ws.map .str)) <;> rfl
  rw [e0] at post
  refine ⟨F, be, h, env, rep, rs, Post.bind post fun dx h1 x H1 be1 x1 rep1 rx p1 => ?_⟩
  obtain ⟨d, e, q⟩ := p1.of1 rep1
  simp only [Option.map_eq_some_iff] at e
  obtain ⟨b, e, rfl⟩ := e
  exact inG_ok rep1 rx (m2 H1) e ⟨_, rfl, q _ rfl⟩
end
end
end Lt

/-! Lt, part J: what is being made (a comprehension's list, a display's dict); targets; walks. -/
namespace Lt
open PySem PySem.Spec PyProof.Rows L2
variable [Mk]

section
variable {K : PySem.W.Frag} {F F' be be' be1 : List Addr} {H H' H1 : Hp} {h h' : MHeap} {p : Addr} {o o' : HO}
/-- the object at p is written, which no value speaks of -/
structure Over (F F' : List Addr) (H : Hp) (p : Addr) : Prop where
  mem : p ∈ F'
  sub : ∀ a ∈ F, a ∈ F'
  nt : ∀ xs, H p ≠ some (.tup xs)
  nf : ∀ o u, H p ≠ some (.frz o u)
  nb : ∀ ps, H p ≠ some (.tbl ps)
  nx : ∀ φ, H p ≠ some (.ext φ)
theorem upd_keep {H : Hp} {a p : Addr} {o u : HO} (q : H a = some u) (ne : a ≠ p) : upd H p o a = some u := by rw [upd_ne ne]; exact q
theorem mem_ne {l : List Addr} {a p : Addr} (n : a ∉ l) (m : p ∈ l) : a ≠ p := fun z => n (z ▸ m)
theorem Over.net (x : Over F F' H p) {a : Addr} {xs : List V} (q : H a = some (.tup xs)) : a ≠ p := fun z => x.nt xs (z ▸ q)
theorem Over.nef (x : Over F F' H p) {a : Addr} {o : Obj} {u : HO} (q : H a = some (.frz o u)) : a ≠ p := fun z => x.nf o u (z ▸ q)
mutual
theorem RV.over {d : D} {v : V} (x : Over F F' H p) : RV K F' be H d v → RV K F be (upd H p o') d v
  | .non => .non
  | .bl b => .bl b
  | .int i => .int i
  | .str s => .str s
  | .ty n => .ty n
  | .tup q n r => .tup (upd_keep q (x.nef q)) n (RVs.over x r)
  | .wt q r => .wt (upd_keep q (x.net q)) (RVs.over x r)
  | .lst q n1 n2 r => .lst (upd_keep q (mem_ne n2 x.mem)) n1 (fun z => n2 (x.sub _ z)) (RVs.over x r)
  | .dic0 q n1 n2 r => .dic0 (q.imp (fun q => upd_keep q (mem_ne n2 x.mem)) fun ⟨o, q⟩ => ⟨o, upd_keep q (mem_ne n2 x.mem)⟩) n1 (fun z => n2 (x.sub _ z)) (RVp.over x r)
  | .adr a => .adr a
  | .exc q n1 n2 => .exc (upd_keep q (mem_ne n2 x.mem)) n1 fun z => n2 (x.sub _ z)
  | .loc q => .loc q
  | .scr q => .scr (q.mono fun _ _ e => upd_keep e (x.nef e))
  | .scl q n1 n2 => .scl (upd_keep q (mem_ne n2 x.mem)) n1 fun z => n2 (x.sub _ z)
theorem RVs.over {ds : List D} {vs : List V} (x : Over F F' H p) : RVs K F' be H ds vs → RVs K F be (upd H p o') ds vs
  | .nil => .nil
  | .cons r t => .cons (RV.over x r) (RVs.over x t)
theorem RVp.over {ds : List (Ky × D)} {vs : List (Key × V)} (x : Over F F' H p) : RVp K F' be H ds vs → RVp K F be (upd H p o') ds vs
  | .nil => .nil
  | .cons k r t => .cons k (RV.over x r) (RVp.over x t)
end
theorem RVf.over (x : Over F F' H p) : ∀ {ds : List (Str × D)} {vs : List (Str × V)}, RVf K F' be H ds vs → RVf K F be (upd H p o') ds vs
  | _, _, .nil => .nil
  | _, _, .cons r t => .cons (RV.over x r) (RVf.over x t)
theorem RO.over {m : MObj} {a : Addr} (x : Over F F' H p) (ne : a ≠ p) : RO K F' be H m a → RO K F be (upd H p o') m a
  | .lst q r => .lst (by rw [upd_ne ne]; exact q) (r.over x)
  | .dic0 q r => .dic0 (by rw [upd_ne ne]; exact q) (r.over x)
  | .fdic0 q r => .fdic0 (by rw [upd_ne ne]; exact q) (r.over x)
  | .ins q r => .ins (by rw [upd_ne ne]; exact q) (r.over x)
theorem Rep.over (R : Rep K F' be h H) (x : Over F F' H p) (no : NoTbl o' := by exact fun _ z => nomatch z) : Rep K F be h (upd H p o') := by
  refine ⟨R.len, R.nd, fun a ha z => R.dis a ha (x.sub a z), fun a ha => ?_, fun n a m e1 e2 => (R.obj n a m e1 e2).over x fun z => R.dis a (List.mem_of_getElem? e1) (z ▸ x.mem), Tabs.keep R.tabs (fun b ps q => upd_keep q fun z => x.nb ps (z ▸ q)) fun b ps q => upd_keep q fun z => x.nx ps (z ▸ q)⟩
  by_cases hp : a = p
  · subst hp; exact ⟨o', upd_same, no⟩
  · obtain ⟨u, q, nt⟩ := R.fin a (x.sub a ha)
    exact ⟨u, by rw [upd_ne hp]; exact q, nt⟩
/-- over a new object that stands in F' -/
theorem Ext.over (x : Ext F be H be' H') (np : H p = none) : Ext F be H be' (upd H' p o') :=
  ⟨x.pre, fun a u q n nt => by rw [upd_ne (ne_of_none q np)]; exact x.keep a u q n nt, fun a u m q nt => by rw [upd_ne (ne_of_none q np)]; exact x.keepF a u m q nt, fun a u q => by rw [upd_ne (ne_of_none q np)]; exact x.tups a u q, fun a u w q => by rw [upd_ne (ne_of_none q np)]; exact x.frzs a u w q,
    fun a u q nt => by rw [upd_ne (ne_of_none q np)]; exact x.there a u q nt⟩
/-- what was made becomes a location -/
theorem Ext.overL (x : Ext F be H be' H') (np : H p = none) : Ext F be H (be' ++ [p]) H' := by
  obtain ⟨e1, rfl, n1⟩ := x.pre
  refine ⟨⟨e1 ++ [p], by simp, fun a ha o q => ?_⟩, x.keep, x.keepF, x.tups, x.frzs, x.there⟩
  rcases List.mem_append.mp ha with z | z
  · exact n1 a z o q
  · simp at z; rw [z, np] at q; cases q
theorem Rep.subF (R : Rep K F' be h H) (x : ∀ a ∈ F, a ∈ F') : Rep K F be h H :=
  ⟨R.len, R.nd, fun a ha z => R.dis a ha (x a z), fun a ha => R.fin a (x a ha), fun n a m e1 e2 => (R.obj n a m e1 e2).addF fun b hb => .inl (x b hb), R.tabs⟩
theorem Rep.addF (R : Rep K F be h H) (x : ∀ a ∈ F', a ∈ F ∨ H a = none) (y : ∀ a ∈ F', ∃ u, H' a = some u ∧ NoTbl u) (z : Ext F be H be H') (hb : ∀ a ∈ be, ∀ u, H a = some u → H' a = some u) (tt : LamX.Tabs (tabsOf K) H') : Rep K F' be h H' := by
  refine ⟨R.len, R.nd, fun a ha q => ?_, y, fun n a m e1 e2 => ((R.obj n a m e1 e2).addF x).ext1 z fun u q => hb a (List.mem_of_getElem? e1) u q, tt⟩
  rcases x a q with w | w
  · exact R.dis a ha w
  · exact R.new_be w ha
/-- begun: p is new -/
theorem Rep.begun (R : Rep K F be h H) (np : H p = none) (no : NoTbl o := by exact fun _ z => nomatch z) : Rep K (p :: F) be h (upd H p o) :=
  R.addF (fun a ha => by
    rcases List.mem_cons.mp ha with z | z
    · exact .inr (z ▸ np)
    · exact .inl z) (fun a ha => by
    rcases List.mem_cons.mp ha with z | z
    · exact ⟨o, by rw [z]; exact upd_same, no⟩
    · obtain ⟨u, q, nt⟩ := R.fin a z
      exact ⟨u, by rw [upd_ne (ne_of_none q np)]; exact q, nt⟩) (Ext.new np) (fun a ha u q => by rw [upd_ne (ne_of_none q np)]; exact q) (Rep.new R np).tabs
mutual
/-- a location more, that was in F -/
theorem RV.addB {d : D} {v : V} : RV K (p :: F) be H d v → RV K F (be ++ [p]) H d v
  | .non => .non
  | .bl b => .bl b
  | .int i => .int i
  | .str s => .str s
  | .ty n => .ty n
  | .tup q n r => .tup q n (RVs.addB r)
  | .wt q r => .wt q (RVs.addB r)
  | .lst q n1 n2 r => .lst q (fun z => by rcases List.mem_append.mp z with z | z; exact n1 z; exact n2 (by simp at z; rw [z]; exact List.mem_cons_self)) (fun z => n2 (List.mem_cons_of_mem _ z)) (RVs.addB r)
  | .dic0 q n1 n2 r => .dic0 q (fun z => by rcases List.mem_append.mp z with z | z; exact n1 z; exact n2 (by simp at z; rw [z]; exact List.mem_cons_self)) (fun z => n2 (List.mem_cons_of_mem _ z)) (RVp.addB r)
  | .adr a => .adr a
  | .exc q n1 n2 => .exc q (fun z => by rcases List.mem_append.mp z with z | z; exact n1 z; exact n2 (by simp at z; rw [z]; exact List.mem_cons_self)) (fun z => n2 (List.mem_cons_of_mem _ z))
  | .loc q => .loc (by rw [List.getElem?_append_left (List.getElem?_eq_some_iff.mp q).1]; exact q)
  | .scr q => .scr q
  | .scl q n1 n2 => .scl q (fun z => by rcases List.mem_append.mp z with z | z; exact n1 z; exact n2 (by simp at z; rw [z]; exact List.mem_cons_self)) (fun z => n2 (List.mem_cons_of_mem _ z))
theorem RVs.addB {ds : List D} {vs : List V} : RVs K (p :: F) be H ds vs → RVs K F (be ++ [p]) H ds vs
  | .nil => .nil
  | .cons r t => .cons (RV.addB r) (RVs.addB t)
theorem RVp.addB {ds : List (Ky × D)} {vs : List (Key × V)} : RVp K (p :: F) be H ds vs → RVp K F (be ++ [p]) H ds vs
  | .nil => .nil
  | .cons k r t => .cons k (RV.addB r) (RVp.addB t)
end
theorem RVf.addB : ∀ {ds : List (Str × D)} {vs : List (Str × V)}, RVf K (p :: F) be H ds vs → RVf K F (be ++ [p]) H ds vs
  | _, _, .nil => .nil
  | _, _, .cons r t => .cons (RV.addB r) (RVf.addB t)
theorem RO.addB {m : MObj} {a : Addr} : RO K (p :: F) be H m a → RO K F (be ++ [p]) H m a
  | .lst q r => .lst q r.addB
  | .dic0 q r => .dic0 q r.addB
  | .fdic0 q r => .fdic0 q r.addB
  | .ins q r => .ins q r.addB
theorem Rep.addB (R : Rep K (p :: F) be h H) {m : MObj} (np : p ∉ F) (r : RO K F (be ++ [p]) H m p) : Rep K F (be ++ [p]) (h ++ [m]) H := by
  have npb : p ∉ be := fun z => R.dis p z List.mem_cons_self
  refine ⟨by simp [R.len], ?_, fun a ha => ?_, fun a ha => R.fin a (List.mem_cons_of_mem _ ha), fun n a u e1 e2 => ?_, R.tabs⟩
  · rw [List.nodup_append]
    refine ⟨R.nd, by simp, fun a ha b hb => ?_⟩
    simp at hb
    subst hb
    exact fun e => npb (e ▸ ha)
  · rcases List.mem_append.mp ha with z | z
    · exact fun q => R.dis a z (List.mem_cons_of_mem _ q)
    · simp at z
      rw [z]; exact np
  · by_cases hn : n < be.length
    · rw [List.getElem?_append_left hn] at e1
      rw [List.getElem?_append_left (by rw [← R.len]; exact hn)] at e2
      exact (R.obj n a u e1 e2).addB
    · have hl : n < (be ++ [p]).length := (List.getElem?_eq_some_iff.mp e1).1
      have en : n = be.length := by simp at hl; omega
      subst en
      simp at e1
      rw [R.len] at e2
      simp at e2
      subst e1 e2
      exact r
end

/-! ### targets -/
/-- outside of these slots nothing changes -/
def SameOut (vs : List Nat) (σ σ' : St) : Prop := ∀ i, i ∉ vs → σ'[i]? = σ[i]?
theorem wipe_get {σ : St} {i : Nat} : ∀ {vs : List Nat}, (L2.wipe σ vs)[i]? = if i ∈ vs then (σ[i]?).map fun _ => none else σ[i]?
  | [] => by simp [L2.wipe]
  | v :: vs => by
    unfold L2.wipe
    by_cases hv : i = v
    · subst hv
      by_cases hl : i < (L2.wipe σ vs).length
      · rw [List.getElem?_set_self hl]
        have hl' : i < σ.length := by rw [wipe_length] at hl; exact hl
        simp [hl']
      · rw [List.getElem?_eq_none (by simpa using hl)]
        have hl' : ¬ i < σ.length := by rw [wipe_length] at hl; exact hl
        rw [List.getElem?_eq_none (by omega)]
        simp
    · rw [List.getElem?_set_ne (Ne.symm hv), wipe_get]
      simp [hv]
theorem SameOut.wipe {vs : List Nat} {σ σ' : St} (h : SameOut vs σ σ') (hl : σ'.length = σ.length) : L2.wipe σ' vs = L2.wipe σ vs := by
  refine List.ext_getElem? fun i => ?_
  rw [wipe_get, wipe_get]
  by_cases hi : i ∈ vs
  · rw [if_pos hi, if_pos hi]
    by_cases h1 : i < σ.length
    · simp [h1, show i < σ'.length by omega]
    · rw [List.getElem?_eq_none (by omega), List.getElem?_eq_none (by omega)]
  · rw [if_neg hi, if_neg hi]
    exact h i hi
theorem SameOut.trans {vs ws : List Nat} {σ σ1 σ2 : St} (a : SameOut vs σ σ1) (b : SameOut ws σ1 σ2) : SameOut (vs ++ ws) σ σ2 := fun i hi => by
  simp only [List.mem_append, not_or] at hi
  rw [b i hi.2, a i hi.1]
def TGo (K : PySem.W.Frag) (t : MT) : TG := fun v σ H Q => ∃ F be env env' d, RSl K F be H env σ ∧ RV K F be H d v ∧ bindT t d env = some env' ∧ ∀ σ', RSl K F be H env' σ' → SameOut t.slots σ σ' → Q σ' H
def TGs' (K : PySem.W.Frag) (ts : List MT) : TGs := fun vs σ H Q => ∃ F be env env' ds, RSl K F be H env σ ∧ RVs K F be H ds vs ∧ bindTs ts ds env = some env' ∧ ∀ σ', RSl K F be H env' σ' → SameOut (ts.flatMap MT.slots) σ σ' → Q σ' H
theorem slots_all : ∀ ts : List MT, MT.slotsL ts = ts.flatMap MT.slots
  | [] => rfl
  | t :: ts => by rw [MT.slotsL, slots_all ts, List.flatMap_cons]
theorem slots_tup (ts : List MT) : MT.slots (.tup ts) = ts.flatMap MT.slots := by rw [MT.slots, slots_all]
section
variable {P : Prg} {xa : ExA} {k : Nat} {S : Sx} {W : WW} {X : Cx}
theorem PG.mono' {e : Expr} {t t' : TG} (p : PG X e t) (h : ∀ v σ H Q, t' v σ H Q → t v σ H Q) : PG X e t' := ⟨fun pins s σ H v u Q I r q => p.run pins s σ H v u Q I r (h v σ H Q q)⟩
theorem PGs.mono' {e : List Expr} {t t' : TGs} (p : PGs X e t) (h : ∀ v σ H Q, t' v σ H Q → t v σ H Q) : PGs X e t' := ⟨fun pins s σ H v u Q I r q => p.run pins s σ H v u Q I r (h v σ H Q q)⟩
theorem mT_star {t : MT} {e : Expr} (h : mT S t e = true) (es : List Expr) (env : PySem.Env) : (assignEach (e :: es) env).map (·.2) = assign e env :: (assignEach es env).map (·.2) ∧ ∃ f, assignEach (e :: es) env = (false, f) :: assignEach es env := by
  cases e with
  | Starred v p => cases t <;> simp [mT] at h
  | _ => exact ⟨rfl, _, rfl⟩
theorem mTs_len : ∀ {ts : List MT} {es : List Expr} (env : PySem.Env), mTs S ts es = true → (assignEach es env).length = ts.length ∧ (assignEach es env).findIdx? (·.1) = none
  | [], [], env, _ => ⟨rfl, rfl⟩
  | [], _ :: _, env, h => by simp [mTs] at h
  | _ :: _, [], env, h => by simp [mTs] at h
  | t :: ts, e :: es, env, h => by
    simp only [mTs, Bool.and_eq_true] at h
    obtain ⟨_, f, e1⟩ := mT_star h.1 es env
    obtain ⟨h1, h2⟩ := mTs_len env h.2
    rw [e1]
    refine ⟨by simp [h1], ?_⟩
    rw [List.findIdx?_cons, h2]
    rfl
theorem bindTs_len : ∀ {ts : List MT} {xs : List D} {σ σ' : Env}, bindTs ts xs σ = some σ' → xs.length = ts.length
  | [], [], _, _, _ => rfl
  | [], _ :: _, _, _, h => by simp [bindTs] at h
  | _ :: _, [], _, _, h => by simp [bindTs] at h
  | t :: ts, x :: xs, σ, σ', h => by
    simp only [bindTs] at h
    split at h
    · simp [bindTs_len h]
    · cases h
mutual
theorem sndTg (g : Gd P xa k S W X) : ∀ (t : MT) (e : Expr), mT S t e = true → PG X e (TGo X.K t)
  | .name i, e, h => by
    simp only [mT] at h
    split at h
    · simp only [Bool.and_eq_true, decide_eq_true_eq] at h
      have hl := locB_ok h.2
      refine PG.mono' (pg_name (i := i) (by rw [g.N]; exact g.nd) (by rw [g.N]; exact h.1) (by rw [g.sc]; exact hl.1) (by rw [g.sc, g.fn]; exact hl.2)) fun v σ H Q ⟨F, be, env, env', d, rs, rv, eb, q⟩ => ?_
      simp only [bindT] at eb
      split at eb
      · simp only [Option.some.injEq] at eb
        subst eb
        exact q _ (rs.set rv) fun j hj => by
          simp [MT.slots] at hj
          exact List.getElem?_set_ne (Ne.symm hj)
      · cases eb
    · cases h
  | .tup ts, e, h => by
    simp only [mT] at h
    split at h
    · rename_i es j p
      have hl := mTs_len (S := S) X.env h
      refine PG.mono' (pg_tup (n := ts.length) g.calm (sndTgs g ts es h) hl.1 hl.2) fun v σ H Q ⟨F, be, env, env', d, rs, rv, eb, q⟩ => ?_
      simp only [bindT] at eb
      split at eb
      · cases rv with
        | tup ha _ ra => exact ⟨_, _, rfl, fT ha, by rw [← ra.length]; exact bindTs_len eb, F, be, env, env', _, rs, ra, eb, fun σ' r' s' => q σ' r' (by rw [slots_tup]; exact s')⟩
      · cases rv with
        | wt ha ra => exact ⟨_, _, rfl, .of ha, by rw [← ra.length]; exact bindTs_len eb, F, be, env, env', _, rs, ra, eb, fun σ' r' s' => q σ' r' (by rw [slots_tup]; exact s')⟩
      · cases eb
    · cases h
theorem sndTgs (g : Gd P xa k S W X) : ∀ (ts : List MT) (es : List Expr), mTs S ts es = true → PGs X es (TGs' X.K ts)
  | [], es, h => by
    simp only [mTs] at h
    split at h
    · refine PGs.mono' pgs_nil fun v σ H Q ⟨F, be, env, env', d, rs, rv, eb, q⟩ => ?_
      cases rv with
      | nil =>
        simp only [bindTs, Option.some.injEq] at eb
        subst eb
        exact ⟨rfl, q σ rs fun _ _ => rfl⟩
      | cons => simp [bindTs] at eb
    · cases h
  | t :: ts, es, h => by
    simp only [mTs] at h
    split at h
    · rename_i e es
      simp only [Bool.and_eq_true] at h
      refine PGs.mono' (pgs_cons (sndTg g t e h.1) (sndTgs g ts es h.2) (mT_star h.1 es X.env).1) fun v σ H Q ⟨F, be, env, env', d, rs, rv, eb, q⟩ => ?_
      cases rv with
      | nil => simp [bindTs] at eb
      | cons r1 r2 =>
        simp only [bindTs] at eb
        split at eb
        · rename_i env1 e1
          refine ⟨_, _, rfl, F, be, env, env1, _, rs, r1, e1, fun σ1 rs1 s1 => ⟨F, be, env1, env', _, rs1, r2, eb, fun σ2 rs2 s2 => q σ2 rs2 ?_⟩⟩
          rw [List.flatMap_cons]
          exact s1.trans s2
        · cases eb
    · cases h
end
end
end Lt

/-! Lt, part K: displays of dicts, calls, methods. -/
namespace Lt
open PySem PySem.Spec PyProof.Rows L2
variable [Mk]
section
variable {P : Prg} {xa : ExA} {k : Nat} {S : Sx} {W : WW} {X : Cx} {C : Calls} {e l r : Expr} {m a b c : ME} {as : MEs} {es : List Expr} {pos : Pos}

theorem Out.bind_ok {α β : Type} {a : α} {h : MHeap} {f : α → MHeap → Out β} : (Out.ok a h).bind f = f a h := rfl
/-! ### {k: v, ..} -/
theorem e_dic0 {own : Bool} : PE X (.Dict [] [] pos) (TEo X.K C W (.dic own 0 .nil)) := by
  refine PE.mono' pe_dnewK fun σ H Q ⟨F, be, h, env, rep, rs, post⟩ => fun p np => ?_
  have post : Post X.K F be H (RV X.K F) (mkD own 0 [] h) Q (fun x H' => W x σ H') := post
  unfold mkD at post
  cases own with
  | true => exact post _ _ (be ++ [p]) (Ext.newL np) (rep.newL np (.dic0 upd_same .nil)) (.loc (by rw [← rep.len]; simp))
  | false => exact post _ _ be (Ext.new np) (rep.new np) (.dic0 (.inl upd_same) (rep.new_be np) (rep.new_F np) .nil)
/-- the pairs' readings -/
def trsOf (K : PySem.W.Frag) (C : Calls) (W : WW) : MEs → List (TE × TE)
  | .nil => []
  | .cons _ .nil => []
  | .cons a (.cons b as) => (TEo K C W a, TEo K C W b) :: trsOf K C W as
/-- a step under further addresses that may change -/
theorem Post.bindF {α γ α' γ' : Type} {K : PySem.W.Frag} {F F' be be' : List Addr} {H H' : Hp} {R : List Addr → Hp → α → γ → Prop} {R' : List Addr → Hp → α' → γ' → Prop} {Q : γ → Hp → Prop} {Q' : γ' → Hp → Prop} {E : String → Hp → Prop}
    {o : Out α'} {f : α' → MHeap → Out α} (p : Post K F be H R (o.bind f) Q E) (sub : ∀ a ∈ F, a ∈ F') (x : Ext F be H be' H')
    (k : ∀ a h1 c H1 be1, Ext F' be' H' be1 H1 → Rep K F' be1 h1 H1 → R' be1 H1 a c → Post K F be H R (f a h1) Q E → Q' c H1) : Post K F' be' H' R' o Q' E := by
  cases o with
  | ok a h => exact fun c H1 be1 y rep r => k a h c H1 be1 y rep r p
  | ex e h => exact fun H2 be2 y rep => p H2 be2 (x.trans (y.mono sub)) (rep.subF sub)
  | fail => exact p
theorem tPairs_ok {K : PySem.W.Frag} {σ : St} {env : Env} {F F' be : List Addr} {H : Hp} {Q : V → Hp → Prop} (sub : ∀ a ∈ F, a ∈ F') : ∀ (as : MEs) (ks : List (Option Expr)) (vs : List Expr), mD P as S ks vs = true → ∀ {be' : List Addr} {H' : Hp} {h : MHeap} {f : List D → MHeap → Out D} {Q' : List (V × V) → Hp → Prop},
    Ext F be H be' H' → Rep K F' be' h H' → RSl K F' be' H' env σ → Post K F be H (RV K F) ((evEs C as env h).bind f) Q (fun x H' => W x σ H') →
    (∀ ds ps be2 H2 h2, Ext F' be' H' be2 H2 → Rep K F' be2 h2 H2 → RVs K F' be2 H2 ds (ps.flatMap fun p => [p.1, p.2]) → Post K F be H (RV K F) (f ds h2) Q (fun x H' => W x σ H') → Q' ps H2) →
    tPairs (trsOf K C W as) σ H' Q'
  | .nil, _, _, _, _, _, _, _, _, x, rep, rs, post, fin => fin [] [] _ _ _ .refl rep .nil post
  | .cons a .nil, _, _, hm, _, _, _, _, _, _, _, _, _, _ => by simp [mD] at hm
  | .cons a (.cons b as), ks, vs, hm, be', H', h, f, Q', x, rep, rs, post, fin => by
    simp only [mD] at hm
    split at hm
    · simp only [Bool.and_eq_true] at hm
      simp only [evEs, Out.assoc] at post
      refine ⟨F', be', h, env, rep, rs, post.bindF sub x fun d1 h1 v1 H1 be1 x1 rep1 r1 p1 => ?_⟩
      refine ⟨F', be1, h1, env, rep1, rs.ext x1, Post.bindF p1 sub (x.trans (x1.mono sub)) fun d2 h2 v2 H2 be2 x2 rep2 r2 p2 => ?_⟩
      refine tPairs_ok (Q := Q) sub as _ _ hm.2 ((x.trans (x1.mono sub)).trans (x2.mono sub)) rep2 ((rs.ext x1).ext x2) (f := fun xs h => f (d1 :: d2 :: xs) h) ?_ fun ds ps be3 H3 h3 x3 rep3 r3 p3 => ?_
      · simpa only [Out.assoc, Out.bind] using p2
      · exact fin (d1 :: d2 :: ds) ((v1, v2) :: ps) be3 H3 h3 ((x1.trans x2).trans x3) rep3 (.cons ((r1.ext x2).ext x3) (.cons (r2.ext x3) r3)) p3
    · cases hm
theorem pairs_len {K : PySem.W.Frag} {F be : List Addr} {H : Hp} : ∀ {ds : List D} {ps : List (V × V)} {kvs : List (Ky × D)}, RVs K F be H ds (ps.flatMap fun p => [p.1, p.2]) → pairUp 0 ds = some kvs → ∃ ls : List (Key × V), RVp K F be H kvs ls ∧ ps = ls.map fun kv => (kV kv.1, kv.2)
  | [], [], _, _, e => by
    simp only [pairUp, Option.some.injEq] at e
    subst e
    exact ⟨[], .nil, rfl⟩
  | [], _ :: _, _, r, _ => by cases r
  | _ :: _, [], _, r, _ => by cases r
  | [_], (_, _) :: _, _, r, _ => by
    cases r with
    | cons _ r => cases r
  | dk :: dv :: ds, (vk, vv) :: ps, kvs, r, e => by
    simp only [List.flatMap_cons, List.cons_append, List.nil_append] at r
    cases r with
    | cons r1 r =>
    cases r with
    | cons r2 r =>
    simp only [pairUp] at e
    split at e
    · rename_i k kvs' hk he
      split at e
      · rename_i hz
        simp only [Option.some.injEq] at e
        subst e
        obtain ⟨ls, q1, q2⟩ := pairs_len r he
        obtain ⟨l, p1, p2⟩ := key0 hk hz r1
        exact ⟨(l, vv) :: ls, .cons p1 r2 q1, by rw [p2, q2]; rfl⟩
      · cases e
    · cases e
theorem RVp.merge {K : PySem.W.Frag} {F be : List Addr} {H : Hp} : ∀ {xs ys : List (Ky × D)} {us vs : List (Key × V)}, RVp K F be H xs us → RVp K F be H ys vs → RVp K F be H (ys.foldl (fun acc kv => putKy acc kv.1 kv.2) xs) (mergeK us vs)
  | _, _, _, _, r, .nil => r
  | _, _, _, _, r, .cons k v t => by
    have z := RVp.merge (r.put k v) t
    exact z
theorem mD_len : ∀ {as : MEs} {ks : List (Option Expr)} {vs : List Expr}, mD P as S ks vs = true → ks.all (·.isSome) = true ∧ ks.length = vs.length
  | .nil, ks, vs, h => by
    simp only [mD, Bool.and_eq_true, List.isEmpty_iff] at h
    obtain ⟨rfl, rfl⟩ := h
    exact ⟨rfl, rfl⟩
  | .cons a .nil, _, _, h => by simp [mD] at h
  | .cons a (.cons b as), ks, vs, h => by
    simp only [mD] at h
    split at h
    · simp only [Bool.and_eq_true] at h
      obtain ⟨h1, h2⟩ := mD_len h.2
      exact ⟨by simpa using h1, by simp [h2]⟩
    · cases h
theorem e_dicN {own : Bool} {ks : List (Option Expr)} {vs : List Expr} (hm : mD P as S ks vs = true) (hk : ks ≠ []) (h15 : ks.length ≤ 15) (hp : PPs X pos ks vs (trsOf X.K C W as)) : PE X (.Dict ks vs pos) (TEo X.K C W (.dic own 0 as)) := by
  obtain ⟨l1, l2⟩ := mD_len hm
  refine PE.mono' (pe_disp hp l1 l2 hk h15) fun σ H Q ⟨F, be, h, env, rep, rs, post⟩ => fun p np => ?_
  have x0 : Ext F be H be (upd H p (.dK [])) := Ext.new np
  have addp : ∀ a ∈ p :: F, a ∈ F ∨ H a = none := fun a ha => by
    rcases List.mem_cons.mp ha with z | z
    · exact .inr (z ▸ np)
    · exact .inl z
  refine tPairs_ok (F := F) (F' := p :: F) (be := be) (H := H) (env := env) (h := h) (Q := Q) (fun a ha => List.mem_cons_of_mem _ ha) as ks vs hm x0 (rep.begun np) ⟨rs.len, fun i d e => ?_⟩ post fun ds ps be2 H2 h2 x2 rep2 r2 p2 => ?_
  · obtain ⟨v, e1, e2⟩ := rs.get i d e
    exact ⟨v, e1, (e2.addF addp).ext1 x0⟩
  · have npb : p ∉ be2 := fun z => rep2.dis p z List.mem_cons_self
    have hp2 : H2 p = some (.dK []) := x2.keepF p _ List.mem_cons_self upd_same ntD
    refine ⟨hp2, ?_⟩
    unfold dispD at p2
    split at p2
    · rename_i kvs he
      obtain ⟨ls, q1, q2⟩ := pairs_len r2 he
      split at p2
      · rename_i hz
        simp only [Bool.and_eq_true, decide_eq_true_eq] at hz
        have hlen : ls.length ≤ 15 := by rw [← q1.length]; exact hz.1
        refine ⟨ls, q2, hlen, ?_⟩
        have ov : Over F (p :: F) H2 p := ⟨List.mem_cons_self, fun a ha => List.mem_cons_of_mem _ ha, fun xs z => (by rw [hp2] at z; cases z), fun o u z => (by rw [hp2] at z; cases z), fun o z => (by rw [hp2] at z; cases z), fun o z => (by rw [hp2] at z; cases z)⟩
        have rm := RVp.merge (RVp.nil) q1
        have xf : Ext F be H be2 (upd H2 p (.dK (mergeK [] ls))) := (x0.trans (x2.mono fun a ha => List.mem_cons_of_mem _ ha)).over np
        unfold mkD at p2
        cases own with
        | false => exact p2 _ _ be2 xf (rep2.over ov) (.dic0 (.inl upd_same) npb (rep.new_F np) (rm.over ov))
        | true =>
          have ov1 : Over (p :: F) (p :: F) H2 p := ⟨List.mem_cons_self, fun a ha => ha, ov.nt, ov.nf, ov.nb, ov.nx⟩
          refine p2 _ _ (be2 ++ [p]) (xf.overL np) ((rep2.over ov1).addB (rep.new_F np) (.dic0 upd_same (rm.over ov1).addB)) (.loc (by rw [← rep2.len]; simp))
      · exact p2.elim
    · exact p2.elim

/-! ### calls -/
theorem run_fnU {K : PySem.W.Frag} {f : String} {d : MDef} {fa : Addr} {fd : FuncData} {pins : List (Addr × Obj)} {σ : St} {H : Hp} {s : Shared} {Q : VK} {us ws : List Value} {vs zs : List V} (g : Gd P xa k S W X) (Fn : FnF P xa k f d X fa fd) (hl : us.length ≤ d.ps.length)
    (I : Inv X pins σ H s) (r : Vals vs us) (rz : Vals zs ws) (h : spOf X.K xa P k f (vs ++ zs) H Q (WE (wx xa W) σ)) : wpAny (model X.prog X.w) X.A (call (.ref fa) us (((d.ps.map Str.ofString).drop us.length).zip ws)) (EP X pins σ Q) X.xe s := by
  have r2 : Vals (vs ++ zs) (us ++ ws) := r.append rz
  have hlen : (us ++ ws).length = d.ps.length := by
    rw [← r2.length]
    simpa using Fn.ok.len _ _ _ _ h
  rw [List.length_append] at hlen
  refine wpAny_call (codeAny_mono (Fn.ok.run X.A X.stack s H ⟨us, _⟩ (us ++ ws) (vs ++ zs) Q _ (g.room.mono (by omega)) I.env0 (Fn.bi us.length s us ws hl I.kIn rfl (by omega)) r2 h) fun r s' hq => ?_)
  cases r with
  | error e => exact passAt g.tk σ pins H s e s' I hq
  | ok fl =>
    cases fl with
    | ret u => exact I.after hq
    | next => exact False.elim hq
    | brk => exact False.elim hq
    | cont => exact False.elim hq
theorem backTo_one {e : Expr} {es : List Expr} {env : PySem.Env} {pos : Pos} (hs : starEach (e :: es) env = (false, eval e env) :: starEach es env) : (backTo pos (starEach (e :: es) env)).any (·.1) = (backTo pos (starEach es env)).any (·.1) := by
  rw [hs]
  simp [backTo]
theorem kws_facts {P : Prg} {S : Sx} : ∀ {kws : List Keyword} {ks : List Str} {kes : List Expr} (env : PySem.Env) (pos : Pos), kwsOf kws = some (ks, kes) →
    (backToKw pos (keywordEach kws env)).all (·.1.isSome) = true ∧ (backToKw pos (keywordEach kws env)).filterMap (·.1) = ks ∧ (backToKw pos (keywordEach kws env)).any (·.1.isNone) = false ∧ ks.length = kes.length
  | [], _, _, env, pos, h => by
    simp only [kwsOf, Option.some.injEq, Prod.mk.injEq] at h
    obtain ⟨rfl, rfl⟩ := h
    exact ⟨rfl, rfl, rfl, rfl⟩
  | ⟨some n, e, p⟩ :: r, ks, kes, env, pos, h => by
    simp only [kwsOf, Option.map_eq_some_iff] at h
    obtain ⟨⟨ks', kes'⟩, h1, h2⟩ := h
    simp only [Prod.mk.injEq] at h2
    obtain ⟨rfl, rfl⟩ := h2
    obtain ⟨a1, a2, a3, a4⟩ := kws_facts (P := P) (S := S) env pos h1
    refine ⟨?_, ?_, ?_, by simp [a4]⟩
    · simp only [keywordEach, backToKw, List.map_cons, List.all_cons, Option.isSome_some, Bool.true_and]
      exact a1
    · simp only [keywordEach, backToKw, List.map_cons, List.filterMap_cons]
      exact congrArg _ a2
    · simp only [keywordEach, backToKw, List.map_cons, List.any_cons, Option.isNone_some, Bool.false_or]
      exact a3
  | ⟨none, e, p⟩ :: r, ks, kes, env, pos, h => by simp [kwsOf] at h
theorem PK.mono' {kws : List Keyword} {t t' : TA} (p : PK X kws t) (h : ∀ σ H Q, t' σ H Q → t σ H Q) : PK X kws t' := ⟨fun ps pins s σ H Q I q => p.run ps pins s σ H Q I (h σ H Q q)⟩
/-- the arguments in two parts -/
def MEs.app : MEs → MEs → MEs
  | .nil, bs => bs
  | .cons a as, bs => .cons a (MEs.app as bs)
theorem evEs_app : ∀ (as bs : MEs) (env : Env) (h : MHeap), evEs C (as.app bs) env h = (evEs C as env h).bind fun xs h => (evEs C bs env h).bind fun ys h => .ok (xs ++ ys) h
  | .nil, bs, env, h => by
    simp only [MEs.app, evEs, Out.bind_ok]
    cases evEs C bs env h <;> rfl
  | .cons a as, bs, env, h => by
    simp only [MEs.app, evEs, Out.assoc]
    congr 1
    funext x h1
    rw [evEs_app as bs, Out.assoc]
    congr 1
    funext xs h2
    rw [Out.assoc]
    rfl
theorem evEs_len : ∀ {as : MEs} {es : List Expr} {env : Env} {h h' : MHeap} {ds : List D}, mEs P as S es = true → evEs C as env h = .ok ds h' → ds.length = es.length
  | .nil, es, env, h, h', ds, hm, e => by
    simp only [mEs] at hm
    split at hm
    · simp only [evEs, Out.ok.injEq] at e
      rw [← e.1]
      rfl
    · cases hm
  | .cons a as, es, env, h, h', ds, hm, e => by
    simp only [mEs] at hm
    split at hm
    · simp only [Bool.and_eq_true] at hm
      simp only [evEs] at e
      cases h1 : evE C a env h with
      | ok x h2 =>
        rw [h1] at e
        simp only [Out.bind_ok] at e
        cases h3 : evEs C as env h2 with
        | ok xs h4 =>
          rw [h3] at e
          simp only [Out.bind_ok, Out.ok.injEq] at e
          rw [← e.1]
          simp [evEs_len hm.2 h3]
        | ex => rw [h3] at e; cases e
        | fail => rw [h3] at e; cases e
      | ex => rw [h1] at e; cases e
      | fail => rw [h1] at e; cases e
    · cases hm
theorem Post.bindE {α γ α' γ' : Type} {K : PySem.W.Frag} {F be : List Addr} {H : Hp} {R : List Addr → Hp → α → γ → Prop} {R' : List Addr → Hp → α' → γ' → Prop} {Q : γ → Hp → Prop} {Q' : γ' → Hp → Prop} {E : String → Hp → Prop}
    {o : Out α'} {f : α' → MHeap → Out α} (p : Post K F be H R (o.bind f) Q E)
    (k : ∀ a h1 c H1 be1, o = .ok a h1 → Ext F be H be1 H1 → Rep K F be1 h1 H1 → R' be1 H1 a c → Post K F be1 H1 R (f a h1) Q E → Q' c H1) : Post K F be H R' o Q' E := by
  cases o with
  | ok a h => exact fun c H1 be1 x rep r => k a h c H1 be1 rfl x rep r (Post.weak (o := f a h) p x)
  | ex e h => exact p
  | fail => exact p
theorem mEs_split : ∀ {as : MEs} {es fs : List Expr}, mEs P as S (es ++ fs) = true → ∃ bs cs, as = MEs.app bs cs ∧ mEs P bs S es = true ∧ mEs P cs S fs = true
  | as, [], fs, h => ⟨.nil, as, rfl, rfl, h⟩
  | .nil, e :: es, fs, h => by simp [mEs] at h
  | .cons a as, e :: es, fs, h => by
    simp only [List.cons_append, mEs, Bool.and_eq_true] at h
    obtain ⟨bs, cs, rfl, h1, h2⟩ := mEs_split h.2
    exact ⟨.cons a bs, cs, rfl, by simp [mEs, h.1, h1], h2⟩
/-- f(e, .., k=v, ..) -/
theorem e_call {f : String} {d : MDef} {p : Pos} {kws : List Keyword} {ks : List Str} {kes : List Expr} {bs cs : MEs} (g : Gd P xa k S W X) (hg : glB S.sc (Str.ofString f) = true) (hd : P.tab.lookup f = some d) (hnm : P.mth.lookup f = none) (hk : kwsOf kws = some (ks, kes))
    (hps : (d.ps.map Str.ofString).drop es.length = ks) (hm : mEs P bs S es = true) (hl : es.length ≤ d.ps.length) (ha : PA X es (TAo X.K (calls P k) W bs)) (hkw : PK X kws (TAo X.K (calls P k) W cs)) :
    PE X (.Call (.Name (Str.ofString f) p) es kws pos) (TEo X.K (calls P k) W (.call f (bs.app cs))) := by
  obtain ⟨fa, fd, Fn⟩ := g.fns f d hd
  obtain ⟨k1, k2, k3, k4⟩ := kws_facts (P := P) (S := S) X.env pos hk
  refine ⟨fun pins s σ H Q I ⟨F, be, h, env, rep, rs, post⟩ => ?_⟩
  simp only [evE, evEs_app, Out.assoc, Out.bind_ok] at post
  refine wpAny_Call_Name_kw (ld_glob I (g.gl hg) (Fn.mg hnm) ?_ (glB_ok hg).2)
  have fin : ∀ s2 us vs ws zs H2 be2 h2 ds es', Inv X pins σ H2 s2 → us.length = es.length → Vals vs us → Vals zs ws → Rep X.K F be2 h2 H2 → RVs X.K F be2 H2 ds vs → RVs X.K F be2 H2 es' zs → Ext F be H be2 H2 → Post X.K F be2 H2 (RV X.K F) ((calls P k).fn f (ds ++ es') h2) Q (fun x H' => W x σ H') →
      wpAny (model X.prog X.w) X.A (call (.ref fa) ([] ++ us) (ks.zip ws)) (EP X pins σ Q) X.xe s2 := by
    intro s2 us vs ws zs H2 be2 h2 ds es' I2 hlu r rz rep2 rd re x2 p2
    rw [← hps, ← hlu]
    refine run_fnU (K := X.K) (us := us) g Fn (by rw [hlu]; exact hl) I2 r rz ⟨F, be2, h2, ds ++ es', rep2, rd.append re, ?_⟩
    cases ho : (calls P k).fn f (ds ++ es') h2 with
    | ok a h3 => rw [ho] at p2; exact p2
    | ex x h3 => rw [ho] at p2; exact fun H3 be3 x3 rep3 => ⟨x, rfl, rfl, p2 H3 be3 x3 rep3⟩
    | fail => rw [ho] at p2; exact p2
  cases hes : es with
  | nil =>
    subst hes
    cases bs with
    | cons => simp [mEs] at hm
    | nil =>
      simp only [evEs, Out.bind_ok] at post
      refine PySem.W.callWith_KW0 (h₀ := X.base) I.ok.mod.kin Fn.kp k1 ?_ (by rw [k3]; rfl)
      refine thn (hkw.run pos pins s σ H (fun zs H2 => ∃ be2 h2 es', Rep X.K F be2 h2 H2 ∧ RVs X.K F be2 H2 es' zs ∧ Ext F be H be2 H2 ∧ Post X.K F be2 H2 (RV X.K F) ((calls P k).fn f ([] ++ es') h2) Q (fun x H' => W x σ H')) I ⟨F, be, h, env, rep, rs, Post.bind post fun es' h2 zs H2 be2 x2 rep2 r2 p2 => ⟨be2, h2, es', rep2, r2, x2, p2⟩⟩)
        fun ws s2 ⟨zs, H2, I2, rz, be2, h2, es', rep2, r2, x2, p2⟩ => ⟨I2.kIn, ?_⟩
      rw [k2]
      exact fin s2 [] [] ws zs H2 be2 h2 [] es' I2 rfl .nil rz rep2 .nil r2 x2 p2
  | cons e es1 =>
    subst hes
    have hs : starEach (e :: es1) X.env = (false, eval e X.env) :: starEach es1 X.env := by
      cases bs with
      | nil => simp [mEs] at hm
      | cons b bs =>
        simp only [mEs, Bool.and_eq_true] at hm
        exact mE_star hm.1 _ _
    have hany := mEs_any X.env pos hm
    refine PySem.W.callWith_KW (h₀ := X.base) I.ok.mod.kin Fn.kp k1 ?_ (by rw [hany, k3]; rfl) hs
    refine thn (ha.run pos pins s σ H (fun vs H1 => ∃ be1 h1 ds, Rep X.K F be1 h1 H1 ∧ RVs X.K F be1 H1 ds vs ∧ Ext F be H be1 H1 ∧ vs.length = (e :: es1).length ∧ Post X.K F be1 H1 (RV X.K F) ((evEs (calls P k) cs env h1).bind fun ys h2 => (calls P k).fn f (ds ++ ys) h2) Q (fun x H' => W x σ H')) I ⟨F, be, h, env, rep, rs, Post.bindE post fun ds h1 vs H1 be1 e1 x1 rep1 r1 p1 => ⟨be1, h1, ds, rep1, r1, x1, by rw [← r1.length]; exact evEs_len hm e1, p1⟩⟩)
      fun us s1 ⟨vs, H1, I1, r, be1, h1, ds, rep1, r1, x1, hlv, p1⟩ => ?_
    · refine thn (hkw.run pos pins s1 σ H1 (fun zs H2 => ∃ be2 h2 es', Rep X.K F be2 h2 H2 ∧ RVs X.K F be2 H2 es' zs ∧ Ext F be1 H1 be2 H2 ∧ Post X.K F be2 H2 (RV X.K F) ((calls P k).fn f (ds ++ es') h2) Q (fun x H' => W x σ H')) I1 ⟨F, be1, h1, env, rep1, rs.ext x1, Post.bind p1 fun es' h2 zs H2 be2 x2 rep2 r2 p2 => ⟨be2, h2, es', rep2, r2, x2, p2⟩⟩)
        fun ws s2 ⟨zs, H2, I2, rz, be2, h2, es', rep2, r2, x2, p2⟩ => ⟨I2.kIn, ?_⟩
      rw [k2]
      exact fin s2 us vs ws zs H2 be2 h2 ds es' I2 (by rw [← r.length]; exact hlv) r rz rep2 (r1.ext x2) r2 (x1.trans x2) p2
end
end Lt

/-! Lt, part L: methods. -/
namespace Lt
open PySem PySem.Spec PyProof.Rows L2
variable [Mk]
section
variable {P : Prg} {xa : ExA} {k : Nat} {S : Sx} {W : WW} {X : Cx} {C : Calls} {e l r : Expr} {m a b c : ME} {as : MEs} {es : List Expr} {pos : Pos}

/-! ### rules of single methods -/
def rDGet2 : V → List V → Hp → VK → Prop := fun x xs H Q => ∃ a y z o, x = .ref a ∧ xs = [y, z] ∧ DGet H a y o ∧ Q (o.getD z) H
theorem mt_dget2 (hu : X.A.units + 1 < cLine) : MtR X "dict.get" rDGet2 := by
  rintro pins s σ H _ _ v us Q I rx rxs ⟨a, y, z, o, rfl, rfl, g, q⟩
  cases rx
  obtain ⟨u, w, rfl, r1, r2⟩ := vals2 rxs
  exact d_get2 hu I g r1 r2 fun w' s3 I3 rw' => ⟨_, H, I3, rw', q⟩
/-- d.update(d2) -/
def rUpdD : V → List V → Hp → VK → Prop := fun x xs H Q => ∃ d o kvs more, x = .ref d ∧ xs = [.ref o] ∧ d ≠ o ∧ H d = some (.dK kvs) ∧ Rd0 H o more ∧ kvs.length + more.length ≤ sizeLine ∧ Q .non (upd H d (.dK (mergeK kvs more)))
theorem mt_updD : MtR X "dict.update" rUpdD := by
  rintro pins s σ H _ _ v us Q I rx rxs ⟨d, o, kvs, more, rfl, rfl, ne, hd, ho, few, go⟩
  cases rx
  have eu := Vals.ref1 rxs
  subst eu
  have ⟨_, sd, vs, kv, D1⟩ := I.hok d _ hd
  have ⟨_, so, ws, kw, D2⟩ := Rd.ok (u := .dK more) ho I.hok
  have few' : vs.length + ws.length ≤ sizeLine := by rw [← kv.length, ← kw.length]; exact few
  refine call_meetsIn PySem.F.slot_dict_update D1.typeIs PySem.F.entry_dict_update (PySem.F.args_dict_update_2 _ _) (meets_dict_update (mixKind X.prog X.w) d o ne so) ⟨vs, ws, D1, D2, few', fun h' n1 n2 same => ?_⟩
  have big : (mergeK kvs more).length ≤ sizeLine := Nat.le_trans (length_mergeK more kvs) few
  have new : ObjOk X.prog X.w (upd H d (.dK (mergeK kvs more))) h' d (.dK (mergeK kvs more)) := ⟨big, sd, _, kw.merge kv, n1⟩
  exact ⟨.non, _, I.write (x := d) (e := d) (t' := s.toks) (by rw [hd]; trivial) (.inl rfl) (fun b u nb q => (same.2 b nb).trans q) (let ⟨ob, _, _, e, _⟩ := n1; ⟨ob, e⟩) new, rfl, go⟩

/-! ### o.m(..), the receiver known by rc -/
def tMeth (rc : V → Hp → Prop) (q : V → List V → Hp → VK → Prop) (to : TE) (t : TA) : TE := fun σ H Q => to σ H fun x H1 => rc x H1 ∧ t σ H1 fun xs H2 => q x xs H2 Q
def Known (X : Cx) (T : String) (rc : V → Hp → Prop) : Prop := ∀ pins s σ H x v, Inv X pins σ H s → RelV x v → rc x H → s.TypeIs v T ∧ ∀ b, v = .ref b → ∃ ob, s.heap.get? b = some ob ∧ ob.dict = none
/-- no star, no keyword, few -/
def FewA (X : Cx) (e : Expr) (es : List Expr) (cpos : Pos) : Prop := ((backTo cpos (starEach (e :: es) X.env)).all (fun y => !y.1) && (backToKw cpos (keywordEach [] X.env)).all (fun y => y.1.isSome)
  && decide ((e :: es).length + ([] : List Keyword).length + (if ([] : List Keyword).isEmpty then 0 else 1) < 30)) = true
theorem pe_meth' {T id : String} {name : Str} {rc : V → Hp → Prop} {q : V → List V → Hp → VK → Prop} {to : TE} {t : TA} {apos cpos : Pos} (pa : PlainAttrs T) (slot : Slot T name id) (desc : typeOf (.builtin id) = pure (.type "method_descriptor")) (kn : Known X T rc) (hm : MtR X id q)
    (ho : PE X l to) (ha : PA X (e :: es) t) (hbase : attributeBase l name X.env (eval l X.env) = eval l X.env) (few : FewA X e es cpos) (hline : (apos.endLine == cpos.line) = true)
    (hs : starEach (e :: es) X.env = (false, eval e X.env) :: starEach es X.env) (hplain : (backTo cpos (starEach es X.env)).any (·.1) = false) : PE X (.Call (.Attribute l name apos) (e :: es) [] cpos) (tMeth rc q to t) := by
  constructor
  intro pins s σ H Q I want
  apply wpAny_Call_method_late hbase few hline rfl
  refine thn (ho.run pins s σ H _ I want) ?_
  rintro v sA ⟨x, HA, IA, rA, rec, qA⟩
  have ⟨ty, nd⟩ := kn _ _ _ _ _ _ IA rA rec
  refine ⟨T, id, pa, slot, desc, ty, nd, ?_⟩
  have args := ha.run cpos pins sA σ HA _ IA qA
  rw [hs] at args ⊢
  refine Calls.callWith_builtin (show (false || (backTo cpos (starEach es X.env)).any (·.1)) = false by rw [hplain]; rfl) (Calls.evalArgs_plain (thn args ?_))
  rintro us sB ⟨vs, HB, IB, rB, qB⟩
  exact hm pins sB σ HB x vs v us Q IB rA rB qB
theorem known_list : Known X "list" fun x H => ∃ p vs, x = .ref p ∧ SqL X.K H p vs := by
  rintro pins s σ H _ v I r ⟨p, vs, rfl, q⟩
  exact tyV_is I r (T := "list") (.inl ⟨rfl, vs, q⟩)
theorem known_dict : Known X "dict" fun x H => ∃ p, x = .ref p ∧ IsD H p := by
  rintro pins s σ H _ v I r ⟨p, rfl, d⟩
  cases r
  have ⟨h1, h2, _⟩ := isD_at I d
  exact ⟨h1, h2⟩
theorem known_tup : Known X "tuple" fun x H => ∃ p o xs, x = .ref p ∧ H p = some (.frz o (.tup xs)) ∧ o.dict = none := by
  rintro pins s σ H _ v I r ⟨p, o, xs, rfl, hp, nd⟩
  cases r
  have ⟨e, _, us, _, ht⟩ := I.hok p _ hp
  exact ⟨ht.typeIs, fun b eb => by cases eb; exact ⟨o, e, nd⟩⟩

theorem strsD_ok {K : PySem.W.Frag} {F be : List Addr} {H : Hp} : ∀ {ds : List D} {vs : List V} {ys : List Str}, RVs K F be H ds vs → strsD ds = some ys → vs = ys.map V.str
  | _, _, _, .nil, e => by
    simp only [strsD, Option.some.injEq] at e
    subst e
    rfl
  | _, _, _, .cons r t, e => by
    cases r with
    | str b =>
      simp only [strsD, Option.map_eq_some_iff] at e
      obtain ⟨cs, e, rfl⟩ := e
      rw [strsD_ok t e]
      rfl
    | _ => simp [strsD] at e
section
variable {K : PySem.W.Frag} {F be : List Addr} {h : MHeap} {H : Hp} {E : String → Hp → Prop} {Q : V → Hp → Prop} {o : D} {ds : List D} {x : V} {vs : List V}
theorem appD_ok (rep : Rep K F be h H) (rx : RV K F be H o x) (rd : RVs K F be H ds vs) (p : Post K F be H (RV K F) (appD o ds h) Q E) : rAppend x vs H Q := by
  unfold appD at p
  split at p
  · cases rx with
    | loc q =>
    cases rd with
    | cons rd1 rd =>
    cases rd
    obtain ⟨ob, e1, ro⟩ := rep.at q
    rw [e1] at p
    cases ro with
    | lst hl rl =>
      simp only at p
      split at p
      · rename_i hz
        exact ⟨_, _, _, rfl, rfl, hl, by rw [← rl.length]; exact Nat.lt_of_lt_of_le hz (by decide), p _ _ be (rep.ext_write q e1 rfl) (rep.write q e1 rfl (.lst upd_same ((rl.append (.one rd1)).ext (rep.ext_write q e1 rfl)))) .non⟩
      · exact p.elim
    | _ => exact p.elim
  · exact p.elim
theorem extD_ok (rep : Rep K F be h H) (rx : RV K F be H o x) (rd : RVs K F be H ds vs) (p : Post K F be H (RV K F) (extD o ds h) Q E) : rExtend x vs H Q := by
  unfold extD at p
  split at p
  · cases rx with
    | loc q =>
    cases rd with
    | cons rd1 rd =>
    cases rd
    obtain ⟨ob, e1, ro⟩ := rep.at q
    rw [e1] at p
    cases ro with
    | lst hl rl =>
      simp only at p
      split at p
      · rename_i zs hzs
        obtain ⟨b, us, rfl, hb, rb⟩ := seqOf_ok rep rd1 hzs
        split at p
        · rename_i hz
          rw [rl.length, rb.length] at hz
          exact ⟨_, _, _, _, rfl, rfl, hl, hb, Nat.le_trans hz (by decide), p _ _ be (rep.ext_write q e1 rfl) (rep.write q e1 rfl (.lst upd_same ((rl.append rb).ext (rep.ext_write q e1 rfl)))) .non⟩
        · exact p.elim
      · exact p.elim
    | _ => exact p.elim
  · exact p.elim
theorem dgetD_ok (rep : Rep K F be h H) (rx : RV K F be H o x) (rd : RVs K F be H ds vs) (p : Post K F be H (RV K F) (dgetD o ds h) Q E) : rDGet2 x vs H Q := by
  unfold dgetD at p
  split at p
  · cases rd with
    | cons rd1 rd =>
    cases rd with
    | cons rd2 rd =>
    cases rd
    split at p
    · rename_i t2 kvs2 k2 hd2 hk2
      split at p
      · rename_i hkt
        obtain ⟨a2, ov, ea, g, z⟩ := dget_ok rep rx hd2 rd1 hk2 hkt
        refine ⟨a2, _, _, ov, ea, rfl, g, ?_⟩
        rcases z with ⟨z1, z2⟩ | ⟨d', v', z1, z2, z3⟩
        · subst z2
          rw [z1] at p
          exact p.ok rep rd2
        · subst z2
          rw [z1] at p
          exact p.ok rep z3
      · exact p.elim
    · exact p.elim
  · exact p.elim
theorem idxD_ok (rep : Rep K F be h H) (rx : RV K F be H o x) (rd : RVs K F be H ds vs) (p : Post K F be H (RV K F) (idxD o ds h) Q E) : ∃ (p : Addr) (ys : List Str) (z : Str) (j : Nat), x = .ref p ∧ vs = [.str z] ∧ SqT K H p (ys.map V.str) ∧ ys[j]? = some z ∧ (∀ m : Nat, m < j → ys[m]? ≠ some z) ∧ Q (.int (j : Nat)) H := by
  unfold idxD at p
  split at p
  · cases rx with
    | tup hp hnd rt =>
    cases rd with
    | cons rd1 rd =>
    cases rd
    cases rd1
    split at p
    · rename_i ys hys
      split at p
      · rename_i hc
        have ev := strsD_ok rt hys
        subst ev
        have hmem := List.contains_iff_mem.mp hc
        refine ⟨_, ys, _, ys.idxOf _, rfl, rfl, fT hp, ?_, fun n hn => ?_, p.ok rep (.int _)⟩
        · rw [List.getElem?_eq_getElem (List.idxOf_lt_length_iff.mpr hmem)]
          simp
        · intro z
          obtain ⟨hl, z⟩ := List.getElem?_eq_some_iff.mp z
          exact absurd z (by
            have := List.not_of_lt_findIdx (p := fun w => w == _) (xs := ys) (i := n) (by exact hn)
            simpa using this)
      · exact p.elim
    · exact p.elim
  · exact p.elim
theorem RVp.mergeK {xs ys : List (Ky × D)} {us ws : List (Key × V)} (r : RVp K F be H xs us) (t : RVp K F be H ys ws) : RVp K F be H (ys.foldl (fun acc kv => putKy acc kv.1 kv.2) xs) (L2.mergeK us ws) := RVp.merge r t
theorem updD_ok (rep : Rep K F be h H) (rx : RV K F be H o x) (rd : RVs K F be H ds vs) (p : Post K F be H (RV K F) (updD o ds h) Q E) : rUpdD x vs H Q := by
  unfold updD at p
  split at p
  · cases rx with
    | loc q =>
    cases rd with
    | cons rd1 rd =>
    cases rd
    obtain ⟨ob, e1, ro⟩ := rep.at q
    rw [e1] at p
    cases ro with
    | dic0 hl rl =>
      simp only at p
      split at p
      · rename_i u ls hls
        split at p
        · rename_i hz
          simp only [Bool.and_eq_true, decide_eq_true_eq] at hz
          obtain ⟨⟨⟨_, rfl⟩, hz⟩, hne⟩ := hz
          obtain ⟨b, rfl, _, us, hb, rb⟩ := dicOf_ok rep rd1 hls
          rw [rl.length, rb.length] at hz
          refine ⟨_, _, _, _, rfl, rfl, ?_, hl, hb, Nat.le_trans hz (by decide), p _ _ be (rep.ext_write q e1 rfl) (rep.write q e1 rfl (.dic0 upd_same ((RVp.mergeK rl rb).ext (rep.ext_write q e1 rfl)))) .non⟩
          intro eab
          subst eab
          cases rd1 with
          | dic0 _ nb _ _ => exact nb (List.mem_of_getElem? q)
          | loc q2 =>
            obtain ⟨h1, e1'⟩ := List.getElem?_eq_some_iff.mp q
            obtain ⟨h2, e2'⟩ := List.getElem?_eq_some_iff.mp q2
            have := (List.getElem_inj rep.nd).mp (e1'.trans e2'.symm)
            subst this
            exact hne rfl
          | _ => simp [dicOf] at hls
        · exact p.elim
      · exact p.elim
    | _ => exact p.elim
  · exact p.elim
end
theorem popD_ok {K : PySem.W.Frag} {F be : List Addr} {H : Hp} {h : MHeap} {E : String → Hp → Prop} {Q : VK} {dx : D} {x : V} (rep : Rep K F be h H) (rx : RV K F be H dx x) (p : Post K F be H (RV K F) (popD dx h) Q E) : tyV K "list" x H ∧ rPop x [] H Q := by
  unfold popD at p
  split at p
  · rename_i n
    cases rx with
    | loc q =>
    obtain ⟨o, e1, ro⟩ := rep.at q
    rw [e1] at p
    cases ro with
    | lst q2 t =>
      rename_i ys vs
      simp only at p
      split at p
      · rename_i y ey
        obtain ⟨v, ev, rv⟩ := t.get ey
        have hl := t.length
        refine ⟨.inl ⟨rfl, vs, .of q2⟩, _, vs, v, rfl, rfl, q2, by rw [← hl]; exact ev, ?_⟩
        have x1 : Ext F be H be (upd H _ (.lst vs.dropLast)) := rep.ext_write q e1 rfl
        refine p v _ be x1 (rep.write q e1 rfl (.lst upd_same ?_)) (rv.ext x1)
        have := (t.take (ys.length - 1)).ext x1
        rw [← List.dropLast_eq_take, hl, ← List.dropLast_eq_take] at this
        exact this
      · exact p.elim
    | _ => exact p.elim
  · exact p.elim
theorem e_pop {apos cpos : Pos} (hline : (apos.endLine == cpos.line) = true) (hrec : plainRecv l = true) (ho : PE X l (TEo X.K C W a)) : PE X (.Call (.Attribute l ("pop" : Str) apos) [] [] cpos) (TEo X.K C W (.pop a)) :=
  PE.mono' (pe_bm0 PySem.F.plainAttrs_list PySem.F.slot_list_pop PySem.F.type_list_pop mt_pop ho (base_plain hrec ("pop" : Str) X.env (eval l X.env)) hline) fun σ H Q ⟨F, be, h, env, rep, rs, post⟩ => ⟨F, be, h, env, rep, rs, by
    simp only [evE] at post
    exact Post.bind post fun dx h1 x H1 be1 x1 rep1 rx p1 => popD_ok rep1 rx p1⟩
theorem e_meth {mn : String} {apos cpos : Pos} (hr : Room k X.A) (hmn : methNs.contains mn = true) (hline : (apos.endLine == cpos.line) = true) (hrec : plainRecv l = true) (hlen : es.length < 20) (hm : mEs P as S (e :: es) = true)
    (hs : starEach (e :: es) X.env = (false, eval e X.env) :: starEach es X.env) (hpl : (backTo cpos (starEach es X.env)).any (·.1) = false) (ho : PE X l (TEo X.K C W a)) (ha : PA X (e :: es) (TAo X.K C W as)) :
    PE X (.Call (.Attribute l (Str.ofString mn) apos) (e :: es) [] cpos) (TEo X.K C W (.meth mn a as)) := by
  have hbase := base_plain hrec (Str.ofString mn) X.env (eval l X.env)
  have few : FewA X e es cpos := by
    unfold FewA
    rw [mEs_all X.env cpos hm]
    simp [keywordEach, backToKw]
    omega
  have go : ∀ {T id : String} {rc : V → Hp → Prop} {q : V → List V → Hp → VK → Prop}, PlainAttrs T → Slot T (Str.ofString mn) id → typeOf (.builtin id) = pure (.type "method_descriptor") → Known X T rc → MtR X id q →
      (∀ F be h H dx x, Rep X.K F be h H → RV X.K F be H dx x → recvD mn dx h = true → rc x H) →
      (∀ F be h H dx x ds vs Q E, Rep X.K F be h H → RV X.K F be H dx x → RVs X.K F be H ds vs → Post X.K F be H (RV X.K F) (methD mn dx ds h) Q E → q x vs H Q) →
      PE X (.Call (.Attribute l (Str.ofString mn) apos) (e :: es) [] cpos) (TEo X.K C W (.meth mn a as)) := by
    intro T id rc q pa slot ty kn mt h1 h2
    refine PE.mono' (pe_meth' pa slot ty kn mt ho ha hbase few hline hs hpl) fun σ H Q ⟨F, be, h, env, rep, rs, post⟩ => ⟨F, be, h, env, rep, rs, Post.bind post fun dx h1' x H1 be1 x1 rep1 rx p1 => ?_⟩
    split at p1
    · rename_i hrv
      exact ⟨h1 _ _ _ _ _ _ rep1 rx hrv, F, be1, h1', env, rep1, rs.ext x1, Post.bind p1 fun ds h2' ws H2 be2 x2 rep2 rd p2 => h2 _ _ _ _ _ _ _ _ _ _ rep2 (rx.ext x2) rd p2⟩
    · exact p1.elim
  have seqR : ∀ F be h H dx x, Rep X.K F be h H → RV X.K F be H dx x → (seqOf h dx).isSome = true → ∃ p vs, x = .ref p ∧ SqL X.K H p vs := fun F be h H dx x rep rx hrv => by
    obtain ⟨xs, hxs⟩ := Option.isSome_iff_exists.mp hrv
    obtain ⟨p, vs, rfl, hp, _⟩ := seqOf_ok rep rx hxs
    exact ⟨p, vs, rfl, .of hp⟩
  have dicR : ∀ F be h H dx x, Rep X.K F be h H → RV X.K F be H dx x → (match dicOf h dx with | some (t, _) => t == 0 | none => false) = true → ∃ p, x = .ref p ∧ IsD H p := fun F be h H dx x rep rx hrv => by
    split at hrv
    · rename_i t kvs hd
      obtain ⟨p, rfl, rfl, ls, hp, _⟩ := dicOf_ok rep rx hd
      exact ⟨p, rfl, .inl ⟨ls, hp⟩⟩
    · cases hrv
  have hmn' : mn = "append" ∨ mn = "extend" ∨ mn = "get" ∨ mn = "index" ∨ mn = "update" := by simpa [methNs] using hmn
  rcases hmn' with rfl | rfl | rfl | rfl | rfl
  · exact go PySem.F.plainAttrs_list PySem.F.slot_list_append PySem.F.type_list_append known_list mt_append seqR fun F be h H dx x ds vs Q E rep rx rd p => appD_ok rep rx rd p
  · exact go PySem.F.plainAttrs_list PySem.F.slot_list_extend PySem.F.type_list_extend known_list mt_extend seqR fun F be h H dx x ds vs Q E rep rx rd p => extD_ok rep rx rd p
  · exact go PySem.F.plainAttrs_dict PySem.F.slot_dict_get PySem.F.type_dict_get known_dict (mt_dget2 (hu_of hr)) dicR fun F be h H dx x ds vs Q E rep rx rd p => dgetD_ok rep rx rd p
  · refine go PySem.F.plainAttrs_tuple PySem.F.slot_tuple_index PySem.F.type_tuple_index known_tup mt_tup_index (fun F be h H dx x rep rx hrv => ?_) fun F be h H dx x ds vs Q E rep rx rd p => idxD_ok rep rx rd p
    simp only [recvD] at hrv
    split at hrv
    · cases rx with
      | tup hp hnd rt => exact ⟨_, _, _, rfl, hp, hnd⟩
    · cases hrv
  · exact go PySem.F.plainAttrs_dict PySem.F.slot_dict_update PySem.F.type_dict_update known_dict mt_updD dicR fun F be h H dx x ds vs Q E rep rx rd p => updD_ok rep rx rd p
end
end Lt

/-! Lt, part M: what is walked. -/
namespace Lt
open PySem PySem.Spec PyProof.Rows L2
variable [Mk]

/-! ### enumerate(t), t a tuple -/
set_option maxHeartbeats 1000000 in
theorem enumT_new (t : Addr) (items : Array Value) :
    Meets (Builtin.«enumerate.__new__» ⟨[.type "enumerate", .ref t], []⟩) (fun _ R s => s.heap.IsTuple t items ∧
      R (.ok (.ret (.ref (s.heap.push { cls := .type "tuple_iterator", data := .fields #[.ref t, .int 0 0] }).objs.size)))
        { s with heap := (s.heap.push { cls := .type "tuple_iterator", data := .fields #[.ref t, .int 0 0] }).push { cls := .type "enumerate", data := .fields #[.none, .bool false, .ref s.heap.objs.size, rawInt 0, .none, .none] } }) :=
  .of_wp fun prog w A R s h => by
    obtain ⟨hp, gs, dr, tk, os⟩ := s
    obtain ⟨ht, h⟩ := h
    have hsub := sub_enumerate
    have it1 : ∀ {A' : Around} {E : Value → Shared → Prop} {Q : Value → Shared → Prop}, Q (.ref hp.objs.size) ⟨hp.push { cls := .type "tuple_iterator", data := .fields #[.ref t, .int 0 0] }, gs, dr, tk, os⟩ → wpAny (model prog w) A' (pyIter (.ref t)) Q E ⟨hp, gs, dr, tk, os⟩ :=
      fun z => (begins_tuple t items).iter prog w _ _ ⟨hp, gs, dr, tk, os⟩ _ ht z
    wp_walk using it1
    refine wpAny_stack_any fun _ => wpAny_pure ?_
    split
    · rename_i c _ _ _ _ _
      cases (c == Value.type "enumerate") <;> (wp_walk using it1; exact ⟨_, rfl, h⟩)
    · wp_walk using it1
      exact ⟨_, rfl, h⟩
section
variable {prog : Program} {w : World} {A : Around} {E : Value → Shared → Prop} {s : Shared}
theorem enumT_call {t : Addr} {items : Array Value} {Q : Value → Shared → Prop} (ht : s.heap.IsTuple t items)
    (h : ∀ h', IsEnum h' (s.heap.objs.size + 1) s.heap.objs.size 0 .none → h'.IsTupleIter s.heap.objs.size t 0 → (∀ b o, s.heap.get? b = some o → h'.get? b = some o) → Q (.ref (s.heap.objs.size + 1)) { s with heap := h' }) :
    wpAny (model prog w) A (call (.type "enumerate") [.ref t]) Q E s := by
  refine callType_new F.called_enumerate (by decide) (F.typeCall_enumerate_1 _) (F.newCall_enumerate_1 _) (fun ob => F.args_object_init_2 ob _) F.entry_enumerate_new (enumT_new t items) ⟨ht, ?_⟩
  let hp1 := s.heap.push { cls := .type "tuple_iterator", data := .fields #[.ref t, .int 0 0] }
  have sz : hp1.objs.size = s.heap.objs.size + 1 := Heap.size_push ..
  have here : IsEnum (hp1.push { cls := .type "enumerate", data := .fields #[.none, .bool false, .ref s.heap.objs.size, rawInt 0, .none, .none] }) hp1.objs.size s.heap.objs.size 0 .none := Heap.get?_push_size _ rfl
  show (∃ o, _ ∧ _) ∧ _
  change (∃ o, (hp1.push _).get? hp1.objs.size = some o ∧ _) ∧ Q (.ref hp1.objs.size) _
  refine ⟨⟨_, here, rfl⟩, ?_⟩
  rw [sz] at here ⊢
  exact h _ here ⟨_, Heap.get?_push_of_some _ (Heap.get?_push_size _ rfl), rfl, rfl⟩ fun b o x => Heap.get?_push_of_some _ (Heap.get?_push_of_some _ x)
end
/-- the tuple at a, each item in a new pair with its place -/
def IteT (K : PySem.W.Frag) (a : Addr) : It where
  go := fun i H => ∃ (xs : List V) (x : V), SqT K H a xs ∧ xs[i]? = some x
  yld := fun i H v H' => ∃ T x, v = .ref T ∧ H T = none ∧ H' = upd H T (.tup [.int (i : Nat), x]) ∧ ∀ xs, SqT K H a xs → xs[i]? = some x
  stop := fun i H => ∃ xs : List V, SqT K H a xs ∧ xs.length = i
theorem turn_enumT {P : Program} {w : World} {K : PySem.W.Frag} {elts : List Expr} {j : Nat} {tpos : Pos} (a e it : Addr) :
    Turn P w K (.Tuple elts j tpos) (IteT K a) [e, it] e (fun i h => (∃ old, IsEnum h e it ((i : Nat) : Int) old) ∧ h.IsTupleIter it a i ∧ e ≠ it ∧ a ≠ it ∧ a ≠ e) where
  mem := by simp
  obj := fun i h st b hb => by
    obtain ⟨⟨old, he⟩, ⟨ob, ho, hc, hd⟩, _⟩ := st
    rcases (by simpa using hb : b = e ∨ b = it) with rfl | rfl
    · exact ⟨_, he, fun v z => nomatch z⟩
    · exact ⟨ob, ho, fun v z => by rw [hd] at z; cases z⟩
  keep := fun i h h' st kp => by
    obtain ⟨⟨old, he⟩, hi, n3⟩ := st
    exact ⟨⟨old, kp e (by simp) _ he⟩, hi.at fun o z => kp it (by simp) o z, n3⟩
  item := by
    intro X hP hw hK hc i pins s σ H E I hf st hg
    subst hP hw hK
    obtain ⟨⟨old, he⟩, hi, n1, n2, n3⟩ := st
    obtain ⟨xs, x, hq, hx⟩ := hg
    obtain ⟨us, rv, pt, hz⟩ := I.tuple hq
    obtain ⟨u, hu, ru⟩ := rv.get hx
    have le : e < s.heap.objs.size := Heap.lt_size he
    have li : it < s.heap.objs.size := by
      obtain ⟨_, z, _⟩ := hi
      exact Heap.lt_size z
    have hil : i < us.toArray.size := by
      have := (List.getElem?_eq_some_iff.mp hu).1
      simpa using this
    have hh : X.A.in1.handled = none := I.ok.hd hc
    refine wpAny_pyNext_enum_itemC (Draws.tuple hh it a n2 us.toArray) he (i := i) ⟨hi, pt⟩ hil n1 (by simp [n1, Ne.symm n3]) fun y h1 tk hy ho st1 hT hsz hk => ?_
    have ey : y = u := by
      have hy : us.toArray[i]? = some y := hy
      have hu' : us.toArray[i]? = some u := by simpa using hu
      rw [hu'] at hy
      exact (Option.some.inj hy).symm
    subst ey
    refine ⟨_, rfl, wpAny_letOwnedTupleGo_enum (s := { s with heap := h1, toks := tk + 1 }) ho fun h2 he2 sb => ?_⟩
    have hT2 := (sb.2 s.heap.objs.size (Nat.ne_of_gt le)).trans hT
    have new : ObjOk X.prog X.w (upd H s.heap.objs.size (.tup [.int (i : Nat), x])) h2 s.heap.objs.size (.tup [.int (i : Nat), x]) :=
      ⟨show 2 ≤ sizeLine by decide, _, .cons ⟨tk, rfl⟩ (.cons ru .nil), ⟨_, hT2, rfl, _, rfl⟩⟩
    have I1 : Inv X pins σ (upd H s.heap.objs.size (.tup [.int (i : Nat), x])) { s with heap := h2, toks := tk + 1 } := by
      refine I.turnedNew (ch := [e, it]) (fun b ob hb z => ?_) hf (Nat.le_refl _) new
      simp only [List.mem_cons, List.not_mem_nil, or_false, not_or] at hb
      exact (sb.2 b hb.1).trans (hk b ob hb.1 hb.2 z)
    have he3 : IsEnum h2 e it ((i + 1 : Nat) : Int) y := by
      have e1 : ((i + 1 : Nat) : Int) = (i : Int) + 1 := by omega
      rw [e1]
      exact he2
    refine ⟨.ref s.heap.objs.size, _, I1, rfl, ⟨_, x, rfl, I.hok.fresh (Nat.le_refl _), rfl, fun ys hy => by rw [I.tuple_inj hy hq]; exact hx⟩, ⟨⟨y, he3⟩, st1.1.at fun o z => (sb.2 it (Ne.symm n1)).trans z, n1, n2, n3⟩, fun b hb => ?_⟩
    have hb' : b < s.heap.objs.size := by
      rcases (by simpa using hb : b = e ∨ b = it) with rfl | rfl
      · exact le
      · exact li
    rw [upd_ne (Nat.ne_of_lt hb')]
    exact (hf b hb).1
  done := by
    intro X hP hw hK hc i pins s σ H E I hf st hg
    subst hP hw hK
    obtain ⟨⟨old, he⟩, hi, n1, n2, n3⟩ := st
    obtain ⟨xs, hq, hx⟩ := hg
    obtain ⟨us, rv, pt, hz⟩ := I.tuple hq
    obtain ⟨f0, f1, f2, f3, f4, f5⟩ := hf it (by simp)
    have en : us.toArray.size = i := by rw [← hx]; simpa using rv.length.symm
    have hh : X.A.in1.handled = none := I.ok.hd hc
    refine wpAny_pyNext_enum_endD (Draws.tuple hh it a n2 us.toArray) he ⟨by rw [en]; exact hi, pt⟩ fun h1 eb => ⟨rfl, I.turned (t' := s.toks) (fun b o hb z => eb b o hb z) f0 f1 f3 f4 f5⟩
  self := fun _ _ _ _ _ st h => by
    obtain ⟨⟨_, he⟩, _⟩ := st
    exact wpAny_pyIter_enum he h
def iEnumT (K : PySem.W.Frag) (ta : TA) : TI := fun σ H R => ta σ H fun vs H1 => ∃ a xs, vs = [.ref a] ∧ ((SqT K H1 a xs ∧ R (IteT K a) H1) ∨ (SqL K H1 a xs ∧ R (Ite K a) H1))
theorem pi_enumA {X : Cx} {e : Expr} {ta : TA} {p pos tpos : Pos} {elts : List Expr} {j : Nat} (hg : Gl X "enumerate") (hm : X.mg "enumerate" = none) (ha : PA X [e] ta) (hs : starEach [e] X.env = [(false, eval e X.env)]) :
    PI X (.Tuple elts j tpos) (.Call (.Name "enumerate" p) [e] [] pos) (iEnumT X.K ta) := by
  refine ⟨fun pins s σ H R I h => ?_⟩
  refine Call_ (ld_blt I hg hm boot_enumerate (PyProof.Rows.callWith_type1 (thn (ha.run pos pins s σ H _ I h) fun us s1 ⟨vs, H1, I1, r1, q1⟩ => ?_) hs rfl))
  obtain ⟨a, xs, ex, q⟩ := q1
  subst ex
  have eu := Vals.ref1 r1
  subst eu
  have room : ∀ b, b = s1.heap.objs.size + 1 ∨ b = s1.heap.objs.size → FpOk X pins H1 b := fun b eb => by
    have hle : s1.heap.objs.size ≤ b := by rcases eb with z | z <;> omega
    exact I1.fpOk hle (I1.hok.fresh hle)
  rcases q with ⟨hq, q⟩ | ⟨hq, q⟩
  · obtain ⟨its, rv, pt, hz⟩ := I1.tuple hq
    refine enumT_call (items := its.toArray) pt fun h1 he hi kp => wpAny_pyIter_enum he ?_
    have la : a < s1.heap.objs.size := pt.lt
    refine ⟨s1.heap.objs.size + 1, [s1.heap.objs.size + 1, s1.heap.objs.size], _, _, H1, rfl, I1.kept (t' := s1.toks) kp, turn_enumT a (s1.heap.objs.size + 1) s1.heap.objs.size, ⟨⟨.none, he⟩, hi, Nat.succ_ne_self _, Nat.ne_of_lt la, Nat.ne_of_lt (Nat.lt_succ_of_lt la)⟩, fun b hb => room b (by simpa using hb), q⟩
  · obtain ⟨its, rv, pl, hz⟩ := I1.list hq
    refine call_enumerate_list pl.isList fun h1 he hi hsz kp => wpAny_pyIter_enum he ?_
    exact ⟨s1.heap.objs.size + 1, [s1.heap.objs.size + 1, s1.heap.objs.size], _, _, H1, rfl, I1.kept (t' := s1.toks) kp, turn_enum a (s1.heap.objs.size + 1) s1.heap.objs.size, ⟨⟨.none, he⟩, hi, Nat.succ_ne_self _⟩, fun b hb => room b (by simpa using hb), q⟩
theorem walk_enumT {K : PySem.W.Frag} {a : Addr} {xs : List V} : Walk (IteT K a) xs.length (fun H => SqT K H a xs) (YPair (fun i => some (.int (i : Nat))) (fun i => xs[i]?)) := by
  refine ⟨fun i _ hi q => ⟨xs, xs[i], q, by simp [hi]⟩, fun _ q => ⟨xs, q, rfl⟩, fun i H v H' _ q y => ?_⟩
  obtain ⟨T, x, h1, h2, h3, h4⟩ := y
  exact ⟨T, .int (i : Nat), x, h1, h2, h3, rfl, h4 xs q⟩

/-! ### a value that is walked -/
def iAny (K : PySem.W.Frag) (te : TE) : TI := fun σ H R => te σ H fun x H1 => (∃ a xs, x = .ref a ∧ SqL K H1 a xs ∧ R (Itl K a) H1) ∨ (∃ a xs, x = .ref a ∧ SqT K H1 a xs ∧ R (Itt K a) H1) ∨ (∃ z, x = .str z ∧ R (Its z) H1) ∨ ∃ d kvs, x = .ref d ∧ ((∃ o, H1 d = some (.frz o (.dK kvs)) ∧ R (Itk d o kvs) H1) ∨ (H1 d = some (.dK kvs) ∧ ∀ o, R (Itk d o kvs) (upd H1 d (.frz o (.dK kvs)))))
theorem iter_locked {X : Cx} {tg : Expr} {pins : List (Addr × Obj)} {σ : L2.St} {s : Shared} {d : Addr} {o : Obj} {kvs : List (Key × V)} {G : Hp} {R : It → Hp → Prop} (J : Inv X pins σ G s) (lk : G d = some (.frz o (.dK kvs))) (go : R (Itk d o kvs) G) :
    wpAny (model X.prog X.w) X.A (pyIter (.ref d)) (PIE X pins σ tg R) X.xe s := by
  have ⟨ns, ge, xd, es, ep, vs, dat, sz, _, _⟩ := J.frzK lk
  exact iter_keys ns ge xd dat (pi_one (tk := s.toks) J _ (turn_keys _ dat) ⟨_, Heap.get?_push_size _ rfl, rfl, by rw [sz]; rfl⟩ go)
theorem pi_any {X : Cx} {tg e : Expr} {te : TE} (he : PE X e te) : PI X tg e (iAny X.K te) := by
  refine ⟨fun pins s σ H R I h => ?_⟩
  refine thn (he.run pins s σ H _ I h) fun v s1 ⟨x, H1, I1, r1, q⟩ => ?_
  rcases q with ⟨a, xs, rfl, hq, q⟩ | ⟨a, xs, rfl, hq, q⟩ | ⟨z, rfl, q⟩ | ⟨d, kvs, rfl, q⟩
  · cases r1
    obtain ⟨its, rv, pl, hz⟩ := I1.list hq
    exact wpAny_pyIter_list pl.isList (pi_one (tk := s1.toks) I1 _ (turn_list a _) ⟨_, Heap.get?_push_size _ rfl, rfl, rfl⟩ q)
  · cases r1
    obtain ⟨its, rv, pt, hz⟩ := I1.tuple hq
    exact (begins_tuple a its.toArray).iter _ _ _ _ _ _ pt (pi_one (tk := s1.toks) I1 _ (turn_tuple a _) ⟨_, Heap.get?_push_size _ rfl, rfl, rfl⟩ q)
  · obtain ⟨t, rfl⟩ := r1
    cases ha : z.cps.all (· < 128)
    · exact wpAny_pyIter_wide ha (pi_one (tk := s1.toks) I1 _ (turn_str _ z t "str_iterator" (.inr rfl)) ⟨_, Heap.get?_push_size _ rfl, rfl, rfl⟩ q)
    · exact wpAny_pyIter_ascii ha (pi_one (tk := s1.toks) I1 _ (turn_str _ z t "str_ascii_iterator" (.inl rfl)) ⟨_, Heap.get?_push_size _ rfl, rfl, rfl⟩ q)
  · cases r1
    rcases q with ⟨o, lk, q⟩ | ⟨un, q⟩
    · exact iter_locked I1 lk q
    · have ⟨o, J⟩ := I1.lock un trivial
      exact iter_locked J upd_same (q o)
end Lt

/-! Lt, part N: walks of items. -/
namespace Lt
open PySem PySem.Spec PyProof.Rows L2
variable [Mk]
mutual
theorem Ky.beq_eq : ∀ {a b : Ky}, Ky.beq a b = true → a = b
  | .int i, .int j, h => by simp [Ky.beq] at h; rw [h]
  | .str i, .str j, h => by simp [Ky.beq] at h; rw [h]
  | .tup i, .tup j, h => by simp only [Ky.beq] at h; rw [Ky.beqL_eq h]
  | .int _, .str _, h => by simp [Ky.beq] at h
  | .int _, .tup _, h => by simp [Ky.beq] at h
  | .str _, .int _, h => by simp [Ky.beq] at h
  | .str _, .tup _, h => by simp [Ky.beq] at h
  | .tup _, .int _, h => by simp [Ky.beq] at h
  | .tup _, .str _, h => by simp [Ky.beq] at h
theorem Ky.beqL_eq : ∀ {a b : List Ky}, Ky.beqL a b = true → a = b
  | [], [], _ => rfl
  | [], _ :: _, h => by simp [Ky.beqL] at h
  | _ :: _, [], h => by simp [Ky.beqL] at h
  | x :: r, y :: s, h => by
    simp only [Ky.beqL, Bool.and_eq_true] at h
    rw [Ky.beq_eq h.1, Ky.beqL_eq h.2]
end
mutual
theorem D.beq_eq : ∀ {a b : D}, D.beq a b = true → a = b
  | .non, b, h => by cases b <;> simp [D.beq] at h ⊢
  | .bl x, b, h => by cases b <;> simp [D.beq] at h ⊢; exact h
  | .int x, b, h => by cases b <;> simp [D.beq] at h ⊢; exact h
  | .str x, b, h => by cases b <;> simp [D.beq] at h ⊢; exact h
  | .tup x, b, h => by cases b <;> simp [D.beq] at h ⊢; exact D.beqL_eq h
  | .lst x, b, h => by cases b <;> simp [D.beq] at h ⊢; exact D.beqL_eq h
  | .dic t x, b, h => by cases b <;> simp [D.beq] at h ⊢; exact ⟨h.1, D.beqP_eq h.2⟩
  | .loc x, b, h => by cases b <;> simp [D.beq] at h ⊢; exact h
  | .scr x, b, h => by cases b <;> simp [D.beq] at h ⊢; exact h
  | .fn x, b, h => by cases b <;> simp [D.beq] at h ⊢; exact h
  | .ty x, b, h => by cases b <;> simp [D.beq] at h ⊢; exact h
  | .wt x, b, h => by cases b <;> simp [D.beq] at h
  | .exc x, b, h => by cases b <;> simp [D.beq] at h ⊢; exact h
  | .adr x, b, h => by cases b <;> simp [D.beq] at h
theorem D.beqL_eq : ∀ {a b : List D}, D.beqL a b = true → a = b
  | [], [], _ => rfl
  | [], _ :: _, h => by simp [D.beqL] at h
  | _ :: _, [], h => by simp [D.beqL] at h
  | x :: r, y :: s, h => by
    simp only [D.beqL, Bool.and_eq_true] at h
    rw [D.beq_eq h.1, D.beqL_eq h.2]
theorem D.beqP_eq : ∀ {a b : List (Ky × D)}, D.beqP a b = true → a = b
  | [], [], _ => rfl
  | [], _ :: _, h => by simp [D.beqP] at h
  | _ :: _, [], h => by simp [D.beqP] at h
  | (k, x) :: r, (l, y) :: s, h => by
    simp only [D.beqP, Bool.and_eq_true] at h
    rw [Ky.beq_eq h.1.1, D.beq_eq h.1.2, D.beqP_eq h.2]
end
section
variable {K : PySem.W.Frag} {F be : List Addr} {H : Hp} {h : MHeap}
theorem WalkD.tup {a : Addr} {vs : List V} {ds : List D} (q : SqT K H a vs) (r : RVs K F be H ds vs) : WalkD K F be H ⟨ds, none⟩ (Itt K a) := by
  refine ⟨fun H => SqT K H a vs, YAt vs, by rw [show (Items.mk ds none).xs.length = vs.length from r.length]; exact walk_tup, fun F' be' H' h' x _ _ => x.sqT q, fun i F' be' H' h' v H2 x rep s1 s2 _ hi y => ?_⟩
  obtain ⟨rfl, y⟩ := y
  refine ⟨.refl, rep, ds[i], by simp [show i < ds.length from hi], ?_⟩
  obtain ⟨v', e1, e2⟩ := r.get (i := i) (d := ds[i]) (by simp [show i < ds.length from hi])
  rw [e1] at y
  cases y
  exact (e2.addF s2).extW x s1
theorem WalkD.lst {a : Addr} {vs : List V} {ds : List D} (q : H a = some (.lst vs)) (nb : a ∉ be) (nF : a ∉ F) (r : RVs K F be H ds vs) : WalkD K F be H ⟨ds, none⟩ (Itl K a) := by
  refine ⟨fun H => SqL K H a vs, YAt vs, by rw [show (Items.mk ds none).xs.length = vs.length from r.length]; exact walk_list, fun F' be' H' h' x _ _ => .of (x.keepL q nb nF), fun i F' be' H' h' v H2 x rep s1 s2 _ hi y => ?_⟩
  obtain ⟨rfl, y⟩ := y
  refine ⟨.refl, rep, ds[i], by simp [show i < ds.length from hi], ?_⟩
  obtain ⟨v', e1, e2⟩ := r.get (i := i) (d := ds[i]) (by simp [show i < ds.length from hi])
  rw [e1] at y
  cases y
  exact (e2.addF s2).extW x s1
theorem walk_own {a : Addr} {n : Nat} : Walk (Itl K a) n (fun H => ∃ vs, SqL K H a vs ∧ vs.length = n) (fun i H x H' => H' = H ∧ ∀ vs, SqL K H a vs → vs[i]? = some x) :=
  ⟨fun i _ hi ⟨vs, q, e⟩ => ⟨vs, vs[i]'(by omega), q, by simp [show i < vs.length by omega]⟩, fun _ ⟨vs, q, e⟩ => ⟨vs, q, by omega⟩, fun _ _ _ _ _ _ y => y⟩
theorem WalkD.loc {a : Addr} {n : Nat} {ds : List D} (q : be[n]? = some a) : WalkD K F be H ⟨ds, some (n, ds)⟩ (Itl K a) := by
  have look : ∀ {F' be' : List Addr} {H' : Hp} {h' : MHeap}, ExtW F be H be' H' → Rep K F' be' h' H' → (Items.mk ds (some (n, ds))).okIn h' = true → ∃ vs, H' a = some (.lst vs) ∧ RVs K F' be' H' ds vs := fun {F' be' H' h'} x rep ok => by
    have q' : be'[n]? = some a := by
      obtain ⟨e1, rfl, _⟩ := x.pre
      rw [List.getElem?_append_left (List.getElem?_eq_some_iff.mp q).1]
      exact q
    obtain ⟨o, e1, ro⟩ := rep.at q'
    simp only [Items.okIn, e1] at ok
    cases ro with
    | lst hl rl =>
      have := D.beqL_eq ok
      subst this
      exact ⟨_, hl, rl⟩
    | dic0 => simp at ok
    | fdic0 => simp at ok
    | ins => simp at ok
  refine ⟨_, _, walk_own (K := K) (a := a) (n := ds.length), fun F' be' H' h' x rep ok => ?_, fun i F' be' H' h' v H2 x rep s1 s2 ok hi y => ?_⟩
  · obtain ⟨vs, e1, e2⟩ := look x rep ok
    exact ⟨vs, .of e1, e2.length.symm⟩
  · obtain ⟨rfl, y⟩ := y
    obtain ⟨vs, e1, e2⟩ := look x rep ok
    obtain ⟨v', e3, e4⟩ := e2.get (i := i) (d := ds[i]) (by simp [show i < ds.length from hi])
    rw [y vs (.of e1)] at e3
    cases e3
    exact ⟨.refl, rep, ds[i], by simp [show i < ds.length from hi], e4⟩
theorem WalkD.str {z : Str} : WalkD K F be H ⟨z.cps.toList.map fun c => .str ⟨#[c]⟩, none⟩ (Its z) := by
  refine ⟨_, _, by rw [show (Items.mk (z.cps.toList.map fun c => D.str ⟨#[c]⟩) none).xs.length = z.cps.size by simp]; exact walk_str, fun _ _ _ _ _ _ _ => trivial, fun i F' be' H' h' v H2 x rep s1 s2 _ hi y => ?_⟩
  obtain ⟨rfl, c, hc, rfl⟩ := y
  refine ⟨.refl, rep, .str ⟨#[c]⟩, ?_, .str _⟩
  simp only [List.getElem?_map]
  rw [show z.cps.toList[i]? = some c by simpa using hc]
  rfl
theorem WalkD.range {lo : Int} {n : Nat} : WalkD K F be H ⟨(List.range n).map fun i => .int (lo + (i : Nat)), none⟩ (Itr lo n) := by
  refine ⟨_, _, by rw [show (Items.mk ((List.range n).map fun i => D.int (lo + (i : Nat))) none).xs.length = n by simp]; exact walk_range, fun _ _ _ _ _ _ _ => trivial, fun i F' be' H' h' v H2 x rep s1 s2 _ hi y => ?_⟩
  obtain ⟨rfl, rfl⟩ := y
  have hi' : i < n := by simpa using hi
  exact ⟨.refl, rep, .int (lo + i), by simp [hi'], .int _⟩
theorem enumD_get : ∀ (xs : List D) (j i : Nat) (d : D), xs[i]? = some d → (enumD xs j)[i]? = some (pairD (.int ((j + i : Nat) : Int)) d)
  | [], _, _, _, h => by simp at h
  | x :: r, j, 0, d, h => by
    simp at h
    subst h
    simp [enumD]
  | x :: r, j, i + 1, d, h => by
    simp only [enumD, List.getElem?_cons_succ] at h ⊢
    rw [enumD_get r (j + 1) i d h]
    congr 3
    omega
theorem enumD_len : ∀ (xs : List D) (j : Nat), (enumD xs j).length = xs.length
  | [], _ => rfl
  | x :: r, j => by simp [enumD, enumD_len r]
/-- new pairs -/
theorem pair_ok {F' be' : List Addr} {H' : Hp} {h' : MHeap} {x y : V} {dx dy : D} {T : Addr} (rep : Rep K F' be' h' H') (rx : RV K F' be' H' dx x) (ry : RV K F' be' H' dy y) (nT : H' T = none) : Ext F be' H' be' (upd H' T (.tup [x, y])) ∧ Rep K F' be' h' (upd H' T (.tup [x, y])) ∧ RV K F' be' (upd H' T (.tup [x, y])) (pairD dx dy) (.ref T) :=
  ⟨Ext.new nT, rep.new nT, .wt upd_same (.cons (rx.ext (Ext.new nT)) (.cons (ry.ext (Ext.new nT)) .nil))⟩
theorem WalkD.pairs {J : It} {n : Nat} {G : Hp → Prop} {xs ys : Nat → Option V} {ps : List D} (w : Walk J n G (YPair xs ys)) (hn : ps.length = n)
    (hG : ∀ F' be' H' h', ExtW F be H be' H' → Rep K F' be' h' H' → G H')
    (hp : ∀ (i : Nat) x y, i < n → xs i = some x → ys i = some y → ∃ dx dy, ps[i]? = some (pairD dx dy) ∧ RV K F be H dx x ∧ RV K F be H dy y) : WalkD K F be H ⟨ps, none⟩ J := by
  refine ⟨G, _, by rw [show (Items.mk ps none).xs.length = n from hn]; exact w, fun F' be' H' h' x rep _ => hG F' be' H' h' x rep, fun i F' be' H' h' v H2 x rep s1 s2 _ hi y => ?_⟩
  obtain ⟨T, u, z, rfl, nT, rfl, e1, e2⟩ := y
  obtain ⟨dx, dy, e3, r1, r2⟩ := hp i u z (by rw [← hn]; exact hi) e1 e2
  obtain ⟨p1, p2, p3⟩ := pair_ok rep ((r1.addF s2).extW x s1) ((r2.addF s2).extW x s1) nT
  exact ⟨p1, p2, _, e3, p3⟩
theorem walk_zipT {a b : Addr} {xs ys : List V} {n : Nat} (hn : n = min xs.length ys.length) : Walk (RZ.ItzT K a b) n (fun H => SqT K H a xs ∧ SqT K H b ys) (YPair (fun i => xs[i]?) (fun i => ys[i]?)) := by
  subst hn
  refine ⟨fun i _ hi q => ⟨xs, ys, xs[i]'(by omega), ys[i]'(by omega), q.1, q.2, by simp [show i < xs.length by omega], by simp [show i < ys.length by omega]⟩, fun _ q => ⟨xs, ys, q.1, q.2, by omega⟩, fun i H v H' _ q y => ?_⟩
  obtain ⟨T, x, z, h1, h2, h3, h4, h5⟩ := y
  exact ⟨T, x, z, h1, h2, h3, h4 xs q.1, h5 ys q.2⟩
end
section
variable {P : Prg} {xa : ExA} {k : Nat} {S : Sx} {W : WW} {X : Cx} {C : Calls} {e l r tg : Expr} {m a b c : ME} {as : MEs} {es : List Expr} {pos p : Pos}
theorem RK.rv {K : PySem.W.Frag} {F be : List Addr} {H : Hp} {k : Ky} {l : Key} (r : RK k l) : RV K F be H k.d (kV l) := by
  cases r with
  | int i => exact .int i
  | str s => exact .str s
theorem RVp.get {K : PySem.W.Frag} {F be : List Addr} {H : Hp} : ∀ {kvs : List (Ky × D)} {ls : List (Key × V)} {i : Nat} {l : Key} {v : V}, RVp K F be H kvs ls → ls[i]? = some (l, v) → ∃ k d, kvs[i]? = some (k, d) ∧ RK k l ∧ RV K F be H d v
  | _, _, _, _, _, .nil, e => by simp at e
  | _, _, 0, _, _, .cons k r _, e => by simp at e; obtain ⟨rfl, rfl⟩ := e; exact ⟨_, _, rfl, k, r⟩
  | _, _, i + 1, _, _, .cons _ _ t, e => by simpa using RVp.get (i := i) t (by simpa using e)
theorem WalkD.keys {K : PySem.W.Frag} {F be : List Addr} {H : Hp} {d : Addr} {o : Obj} {kvs : List (Ky × D)} {ls : List (Key × V)} (q : H d = some (.frz o (.dK ls))) (r : RVp K F be H kvs ls) : WalkD K F be H ⟨kvs.map fun p => p.1.d, none⟩ (Itk d o ls) := by
  refine ⟨_, _, by rw [show (Items.mk (kvs.map fun p => p.1.d) none).xs.length = ls.length by simp [r.length]]; exact walk_keys, fun F' be' H' h' x _ _ => x.frzs _ _ _ q, fun i F' be' H' h' v H2 x rep s1 s2 _ hi y => ?_⟩
  obtain ⟨rfl, l, u, e, rfl⟩ := y
  obtain ⟨k, dd, e1, rk, _⟩ := r.get e
  exact ⟨.refl, rep, k.d, by simp [e1], rk.rv⟩
theorem Ext.lock {F be : List Addr} {H : Hp} {d : Addr} {o : Obj} {ls : List (Key × V)} (q : H d = some (.dK ls)) (nF : d ∉ F) : Ext F be H be (upd H d (.frz o (.dK ls))) := by
  have up : ∀ {a u}, H a = some u → (∀ kvs, u ≠ .dK kvs) → upd H d (.frz o (.dK ls)) a = some u := fun {a u} e n => (upd_ne (fun z => by subst z; rw [q] at e; cases e; exact n _ rfl)).trans e
  refine ⟨⟨[], by simp, by simp⟩, fun a u e _ nt => ?_, fun a u m e _ => (upd_ne (show a ≠ d from fun z => nF (z ▸ m))).trans e, fun a xs e => up e (fun _ z => by cases z), fun a ob u e => up e (fun _ z => by cases z), fun a u e nt => ?_⟩
  · by_cases z : a = d
    · subst z
      rw [q] at e
      cases e
      exact ⟨_, upd_same, .inr ⟨_, _, rfl, rfl⟩⟩
    · exact ⟨u, (upd_ne z).trans e, .inl rfl⟩
  · by_cases z : a = d
    · subst z
      exact ⟨_, upd_same, ntF⟩
    · exact ⟨u, (upd_ne z).trans e, nt⟩
theorem Rep.lock {K : PySem.W.Frag} {F be : List Addr} {h : MHeap} {H : Hp} {d : Addr} {o : Obj} {ls : List (Key × V)} (R : Rep K F be h H) (q : H d = some (.dK ls)) (nb : d ∉ be) (nF : d ∉ F) : Rep K F be h (upd H d (.frz o (.dK ls))) := by
  have x : Ext F be H be (upd H d (.frz o (.dK ls))) := Ext.lock q nF
  refine ⟨R.len, R.nd, R.dis, fun a ha => let ⟨u, e, nt⟩ := R.fin a ha; ⟨u, x.keepF a u ha e nt, nt⟩, fun n a m e1 e2 => (R.obj n a m e1 e2).ext x fun u e => (upd_ne (show a ≠ d from fun z => nb (z ▸ List.mem_of_getElem? e1))).trans e,
    Tabs.keep R.tabs (fun b ps e => (upd_ne (fun z => by subst z; rw [q] at e; cases e)).trans e) fun b ps e => (upd_ne (fun z => by subst z; rw [q] at e; cases e)).trans e⟩
theorem i_val (ha : PE X e (TEo X.K C W a)) : PI X tg e (TIo X.K C W (.val a)) :=
  PI.mono' (pi_any ha) fun σ H R ⟨F, be, h, env, rep, rs, post⟩ => ⟨F, be, h, env, rep, rs, Post.bind post fun dx h1 x H1 be1 x1 rep1 rx p1 => by
    unfold walkA at p1
    split at p1
    · rename_i its ei
      have q := fun J w => Post.ok (c := J) p1 rep1 w
      cases rx with
      | tup hp nd rt =>
        simp only [walkOf, Option.some.injEq] at ei
        subst ei
        exact .inr (.inl ⟨_, _, rfl, fT hp, q _ (WalkD.tup (fT hp) rt)⟩)
      | lst hp nb nF rt =>
        simp only [walkOf, Option.some.injEq] at ei
        subst ei
        exact .inl ⟨_, _, rfl, .of hp, q _ (WalkD.lst hp nb nF rt)⟩
      | str z =>
        simp only [walkOf, Option.some.injEq] at ei
        subst ei
        exact .inr (.inr (.inl ⟨_, rfl, q _ WalkD.str⟩))
      | loc hn =>
        simp only [walkOf] at ei
        obtain ⟨o, e1, ro⟩ := rep1.at hn
        rw [e1] at ei
        cases ro with
        | lst hl rl =>
          simp only [Option.some.injEq] at ei
          subst ei
          exact .inl ⟨_, _, rfl, .of hl, q _ (WalkD.loc hn)⟩
        | dic0 => simp at ei
        | fdic0 => simp at ei
        | ins => simp at ei
      | _ => simp [walkOf] at ei
    · split at p1
      · rename_i its h2 ei
        refine .inr (.inr (.inr ?_))
        unfold keysOf at ei
        split at ei
        · simp only [Option.some.injEq, Prod.mk.injEq] at ei
          obtain ⟨rfl, rfl⟩ := ei
          cases rx with
          | dic0 hq nb nF rp =>
            rcases hq with hq | ⟨o, hq⟩
            · exact ⟨_, _, rfl, .inr ⟨hq, fun o => p1 _ _ be1 (Ext.lock hq nF) (rep1.lock hq nb nF) (WalkD.keys upd_same (rp.ext (Ext.lock hq nF)))⟩⟩
            · exact ⟨_, _, rfl, .inl ⟨o, hq, Post.ok p1 rep1 (WalkD.keys hq rp)⟩⟩
        · cases rx with
          | loc hn =>
            obtain ⟨ob, e1, ro⟩ := rep1.at hn
            rw [e1] at ei
            cases ro with
            | lst => simp at ei
            | dic0 hq rp =>
              simp only [Option.some.injEq, Prod.mk.injEq] at ei
              obtain ⟨rfl, rfl⟩ := ei
              exact ⟨_, _, rfl, .inr ⟨hq, fun o => p1 _ _ be1 (rep1.ext_write hn e1 rfl) (rep1.write hn e1 rfl (.fdic0 upd_same (rp.ext (rep1.ext_write hn e1 rfl)))) (WalkD.keys upd_same (rp.ext (rep1.ext_write hn e1 rfl)))⟩⟩
            | fdic0 hq rp =>
              simp only [Option.some.injEq, Prod.mk.injEq] at ei
              obtain ⟨rfl, rfl⟩ := ei
              exact ⟨_, _, rfl, .inl ⟨_, hq, Post.ok p1 rep1 (WalkD.keys hq rp)⟩⟩
            | ins => simp at ei
        · cases ei
      · exact p1.elim⟩
theorem range_ok {lo hi : Int} {its : Items} (e : rangeD lo hi = some its) : (-(2 ^ 62) ≤ lo ∧ lo < 2 ^ 62 ∧ -(2 ^ 62) ≤ hi ∧ hi < 2 ^ 62) ∧ its = ⟨(List.range (hi - lo).toNat).map fun i => .int (lo + (i : Nat)), none⟩ := by
  unfold rangeD at e
  split at e
  · rename_i z
    simp only [Bool.and_eq_true, decide_eq_true_eq] at z
    simp only [Option.some.injEq] at e
    exact ⟨⟨z.1.1.1, z.1.1.2, z.1.2, z.2⟩, e.symm⟩
  · cases e
theorem i_range1 (g : Gd P xa k S W X) (hg : glB S.sc ("range" : Str) = true) (hs : starEach [l] X.env = [(false, eval l X.env)]) (ha : PA X [l] (TAo X.K C W (.cons a .nil))) : PI X tg (.Call (.Name "range" p) [l] [] pos) (TIo X.K C W (.range1 a)) :=
  PI.mono' (pi_range1 (g.gl hg) (g.blt "range" (by decide +kernel)) ha hs) fun σ H R ⟨F, be, h, env, rep, rs, post⟩ => ⟨F, be, h, env, rep, rs, by
    simp only [evEs, Out.assoc, Out.bind_ok]
    refine Post.bind (R := WalkD X.K F) (Q := R) (R' := RVs X.K F) (o := (evE C a env h).bind fun x h => .ok [x] h) (f := fun xs h => match xs with | [.int j] => Out.of (rangeD 0 j) h | _ => .fail) ?_ fun ds h1 vs H1 be1 x1 rep1 rv p1 => ?_
    · simp only [Out.assoc, Out.bind_ok]
      simp only [evI] at post
      refine cast ?_ post
      congr 2
      funext x h1
      cases x <;> rfl
    · split at p1
      · cases rv with
        | cons r1 rv =>
        cases rv
        cases r1
        obtain ⟨its, ei, q⟩ := p1.of1 rep1
        obtain ⟨b, rfl⟩ := range_ok ei
        refine ⟨_, rfl, b.2.2.1, b.2.2.2, q _ ?_⟩
        simpa using WalkD.range (lo := 0)
      · exact p1.elim⟩
theorem i_range2 (g : Gd P xa k S W X) (hg : glB S.sc ("range" : Str) = true) (hs : starEach [l, r] X.env = [(false, eval l X.env), (false, eval r X.env)]) (hs2 : starEach [r] X.env = [(false, eval r X.env)]) (ha : PA X [l, r] (TAo X.K C W (.cons a (.cons b .nil)))) :
    PI X tg (.Call (.Name "range" p) [l, r] [] pos) (TIo X.K C W (.range2 a b)) :=
  PI.mono' (pi_range2 (g.gl hg) (g.blt "range" (by decide +kernel)) ha hs hs2) fun σ H R ⟨F, be, h, env, rep, rs, post⟩ => ⟨F, be, h, env, rep, rs, by
    refine Post.bind (R := WalkD X.K F) (Q := R) (R' := RVs X.K F) (f := fun xs h => match xs with | [.int i, .int j] => Out.of (rangeD i j) h | _ => .fail) ?_ fun ds h1 vs H1 be1 x1 rep1 rv p1 => ?_
    · simp only [evEs, Out.assoc, Out.bind_ok]
      simp only [evI] at post
      refine cast ?_ post
      congr 2
      funext x h1
      congr 1
      funext y h2
      cases x <;> cases y <;> rfl
    · split at p1
      · cases rv with
        | cons r1 rv =>
        cases rv with
        | cons r2 rv =>
        cases rv
        cases r1
        cases r2
        obtain ⟨its, ei, q⟩ := p1.of1 rep1
        obtain ⟨b, rfl⟩ := range_ok ei
        exact ⟨_, _, rfl, b, q _ WalkD.range⟩
      · exact p1.elim⟩
theorem i_enum {elts : List Expr} {j : Nat} {tp : Pos} (g : Gd P xa k S W X) (hg : glB S.sc ("enumerate" : Str) = true) (hs : starEach [l] X.env = [(false, eval l X.env)]) (ha : PA X [l] (TAo X.K C W (.cons a .nil))) : PI X (.Tuple elts j tp) (.Call (.Name "enumerate" p) [l] [] pos) (TIo X.K C W (.enum a)) :=
  PI.mono' (pi_enumA (g.gl hg) (g.blt "enumerate" (by decide +kernel)) ha hs) fun σ H R ⟨F, be, h, env, rep, rs, post⟩ => ⟨F, be, h, env, rep, rs, by
    refine Post.bind (R := WalkD X.K F) (Q := R) (R' := RVs X.K F) (f := fun xs h => match xs with | [.tup xs] => .ok ⟨enumD xs 0, none⟩ h | [.lst xs] => .ok ⟨enumD xs 0, none⟩ h | _ => .fail) ?_ fun ds h1 vs H1 be1 x1 rep1 rv p1 => ?_
    · simp only [evEs, Out.assoc, Out.bind_ok]
      simp only [evI] at post
      refine cast ?_ post
      congr 2
      funext x h1
      cases x <;> rfl
    · split at p1
      · cases rv with
        | cons r1 rv =>
        cases rv
        cases r1 with
        | tup hp nd rt =>
        refine ⟨_, _, rfl, .inl ⟨fT hp, p1 _ _ be1 .refl rep1 (WalkD.pairs walk_enumT (by rw [enumD_len]; exact rt.length) (fun _ _ _ _ x _ => x.sqT (fT hp)) fun i x y hi e1 e2 => ?_)⟩⟩
        cases e1
        obtain ⟨d, ed⟩ : ∃ d, _[i]? = some d := ⟨_, List.getElem?_eq_getElem (by rw [rt.length]; exact hi)⟩
        obtain ⟨v', e3, e4⟩ := rt.get ed
        rw [e2] at e3
        cases e3
        exact ⟨_, _, by rw [enumD_get _ 0 i d ed, Nat.zero_add], .int _, e4⟩
      · cases rv with
        | cons r1 rv =>
        cases rv
        cases r1 with
        | lst hp nb nF rt =>
        refine ⟨_, _, rfl, .inr ⟨.of hp, p1 _ _ be1 .refl rep1 (WalkD.pairs walk_enum (by rw [enumD_len]; exact rt.length) (fun _ _ _ _ x _ => .of (x.keepL hp nb nF)) fun i x y hi e1 e2 => ?_)⟩⟩
        cases e1
        obtain ⟨d, ed⟩ : ∃ d, _[i]? = some d := ⟨_, List.getElem?_eq_getElem (by rw [rt.length]; exact hi)⟩
        obtain ⟨v', e3, e4⟩ := rt.get ed
        rw [e2] at e3
        cases e3
        exact ⟨_, _, by rw [enumD_get _ 0 i d ed, Nat.zero_add], .int _, e4⟩
      · exact p1.elim⟩
theorem zip_get {K : PySem.W.Frag} {F be : List Addr} {H : Hp} {xs ys : List D} {us vs : List V} (r1 : RVs K F be H xs us) (r2 : RVs K F be H ys vs) (i : Nat) (x y : V) (e1 : us[i]? = some x) (e2 : vs[i]? = some y) :
    ∃ dx dy, (List.zipWith pairD xs ys)[i]? = some (pairD dx dy) ∧ RV K F be H dx x ∧ RV K F be H dy y := by
  have l1 := (List.getElem?_eq_some_iff.mp e1).1
  have l2 := (List.getElem?_eq_some_iff.mp e2).1
  rw [← r1.length] at l1
  rw [← r2.length] at l2
  obtain ⟨v1, z1, q1⟩ := r1.get (i := i) (List.getElem?_eq_getElem l1)
  obtain ⟨v2, z2, q2⟩ := r2.get (i := i) (List.getElem?_eq_getElem l2)
  rw [e1] at z1
  rw [e2] at z2
  cases z1
  cases z2
  exact ⟨xs[i], ys[i], by rw [List.getElem?_zipWith, List.getElem?_eq_getElem l1, List.getElem?_eq_getElem l2], q1, q2⟩
theorem i_zip {elts : List Expr} {j : Nat} {tp : Pos} (g : Gd P xa k S W X) (hg : glB S.sc ("zip" : Str) = true) (hs : starEach [l, r] X.env = (false, eval l X.env) :: starEach [r] X.env) (hs2 : (backTo pos (starEach [r] X.env)).any (·.1) = false) (ha : PA X [l, r] (TAo X.K C W (.cons a (.cons b .nil)))) :
    PI X (.Tuple elts j tp) (.Call (.Name "zip" p) [l, r] [] pos) (TIo X.K C W (.zip a b)) :=
  PI.mono' (RZ.pi_zipA (g.gl hg) (g.blt "zip" (by decide +kernel)) ha hs hs2) fun σ H R ⟨F, be, h, env, rep, rs, post⟩ => ⟨F, be, h, env, rep, rs, by
    refine Post.bind (R := WalkD X.K F) (Q := R) (R' := RVs X.K F) (f := fun zs h => match zs with | [.tup xs, .tup ys] => .ok ⟨List.zipWith pairD xs ys, none⟩ h | [.lst xs, .lst ys] => .ok ⟨List.zipWith pairD xs ys, none⟩ h | _ => .fail) ?_ fun ds h1 vs H1 be1 x1 rep1 rv p1 => ?_
    · simp only [evEs, Out.assoc, Out.bind_ok]
      simp only [evI] at post
      refine cast ?_ post
      congr 2
      funext x h1
      congr 1
      funext y h2
      cases x <;> cases y <;> rfl
    · split at p1
      · cases rv with
        | cons r1 rv =>
        cases rv with
        | cons r2 rv =>
        cases rv
        cases r1 with
        | tup hp nd rt =>
        cases r2 with
        | tup hp2 nd2 rt2 =>
        exact ⟨_, _, _, _, rfl, .inr ⟨fT hp, fT hp2, p1 _ _ be1 .refl rep1 (WalkD.pairs (walk_zipT rfl) (by rw [List.length_zipWith, rt.length, rt2.length]) (fun _ _ _ _ x _ => ⟨x.sqT (fT hp), x.sqT (fT hp2)⟩) fun i x y hi e1 e2 => zip_get rt rt2 i x y e1 e2)⟩⟩
      · cases rv with
        | cons r1 rv =>
        cases rv with
        | cons r2 rv =>
        cases rv
        cases r1 with
        | lst hp nb nF rt =>
        cases r2 with
        | lst hp2 nb2 nF2 rt2 =>
        exact ⟨_, _, _, _, rfl, .inl ⟨.of hp, .of hp2, p1 _ _ be1 .refl rep1 (WalkD.pairs (walk_zip rfl) (by rw [List.length_zipWith, rt.length, rt2.length]) (fun _ _ _ _ x _ => ⟨.of (x.keepL hp nb nF), .of (x.keepL hp2 nb2 nF2)⟩) fun i x y hi e1 e2 => zip_get rt rt2 i x y e1 e2)⟩⟩
      · exact p1.elim⟩
end
end Lt

/-! Lt, part O: comprehensions. -/
namespace Lt
open PySem PySem.Spec PyProof.Rows L2
variable [Mk]
section
variable {P : Prg} {xa : ExA} {k : Nat} {S : Sx} {W : WW} {X : Cx} {C : Calls} {e l r tg : Expr} {m a b c : ME} {as : MEs} {es : List Expr} {pos p : Pos}
abbrev noW : WW := fun _ _ _ => False
theorem takesN {X : Cx} : Takes X (wx xa noW) := fun u s' z => by
  obtain ⟨_, _, _, _, _, _, _, _, _, _, _, _, _, _, _, _, w⟩ := z
  obtain ⟨_, _, _, f⟩ := w
  exact f.elim
theorem Gd.blk (g : Gd P xa k S W X) (scope : Scope) (s : Shared) (H : Hp) (Cc : Addr) (cl : List (Str × Addr)) (fp : List Addr) : Gd P xa k (blkS S scope) noW (X.blk s H scope (compEnvC scope cl Cc X.env) fp) where
  N := g.N
  nd := g.nd
  sc := by
    show relS scope X.env.scope = relS scope S.sc
    rw [g.sc]
  fn := rfl
  calm := g.calm
  room := g.room
  fns := fun f d h => by
    obtain ⟨a, fd, F⟩ := g.fns f d h
    exact ⟨a, fd, ⟨F.mg, F.mt, F.kp, F.bi, F.ok⟩⟩
  cst := g.cst
  blt := g.blt
  tcs := g.tcs
  xaE := g.xaE
  exs := g.exs
  cls := g.cls
  hrd := fun z => nomatch z
  tk := takesN
def TLo (K : PySem.W.Frag) (C : Calls) (as : MEs) : TT := fun σ H Q =>
  ∃ F be h env, Rep K F be h H ∧ RSl K F be H env σ ∧ Post K F be H bEq (evAll C as env h) Q fun _ _ => False
theorem l_nil : PTs X [] (TLo X.K C .nil) := ⟨fun pins s σ H Q I ⟨F, be, h, env, rep, rs, post⟩ => pts_nil.run pins s σ H Q I (Post.ok post rep rfl)⟩
theorem l_one (ha : PT X e (TTo X.K C noW a)) : PTs X [e] (TLo X.K C (.cons a .nil)) := ⟨fun pins s σ H Q I ⟨F, be, h, env, rep, rs, post⟩ => (pts_one ha).run pins s σ H Q I ⟨F, be, h, env, rep, rs, by
  refine cast ?_ post
  congr 1
  simp only [evAll, evT, Out.assoc]
  congr 1
  funext x h1
  cases truD h1 x with
  | none => rfl
  | some t => cases t <;> rfl⟩⟩
/-- a turn of a comprehension that is no failure -/
theorem fold_ok {g : D → List D → MHeap → Out (List D)} {its : Items} {xs acc : List D} {h : MHeap} {f : List D → MHeap → Out D} (ne : (compFold g its xs acc h).bind f ≠ .fail) : its.okIn h = true := by
  cases xs with
  | nil =>
    simp only [compFold] at ne
    by_cases q : its.okIn h = true
    · exact q
    · rw [if_neg q] at ne
      exact absurd rfl ne
  | cons x r =>
    simp only [compFold] at ne
    by_cases q : its.okIn h = true
    · exact q
    · rw [if_neg q] at ne
      exact absurd rfl ne
theorem Post.ne {α γ : Type} {K : PySem.W.Frag} {F be : List Addr} {H : Hp} {R : List Addr → Hp → α → γ → Prop} {Q : γ → Hp → Prop} {E : String → Hp → Prop} {o : Out α} (p : Post K F be H R o Q E) : o ≠ .fail := fun z => by
  rw [z] at p
  exact p
/-- what holds between two turns: D is the list that is being made -/
def Tn (K : PySem.W.Frag) (F be1 : List Addr) (H1 : Hp) (Dd : Addr) (g : D → List D → MHeap → Out (List D)) (its : Items) (f : List D → MHeap → Out D) (Q : V → Hp → Prop) (E : String → Hp → Prop) (i : Nat) (H' : Hp) : Prop :=
  ∃ be' h' acc vs, Ext F be1 H1 be' H' ∧ Rep K (Dd :: F) be' h' H' ∧ H' Dd = some (.lst vs) ∧ RVs K (Dd :: F) be' H' acc vs ∧ Post K F be1 H1 (RV K F) ((compFold g its (its.xs.drop i) acc h').bind f) Q E
theorem mkL_ne {own : Bool} {xs : List D} {h : MHeap} (ne : mkL own xs h ≠ .fail) : xs.length ≤ BIG := by
  unfold mkL at ne
  by_cases q : xs.length ≤ BIG
  · exact q
  · rw [if_neg q] at ne
    exact absurd rfl ne
/-- the end: the list is what it is -/
theorem Tn.done {K : PySem.W.Frag} {F be1 : List Addr} {H1 H' : Hp} {Dd : Addr} {g : D → List D → MHeap → Out (List D)} {its : Items} {own : Bool} {Q : V → Hp → Prop} {E : String → Hp → Prop} {h1 : MHeap} (rep1 : Rep K F be1 h1 H1) (nD : H1 Dd = none)
    (t : Tn K F be1 H1 Dd g its (fun ys h => mkL own ys h) Q E its.xs.length H') : Q (.ref Dd) H' := by
  obtain ⟨be', h', acc, vs, x, rep, hD, rv, post⟩ := t
  have ok := fold_ok post.ne
  rw [List.drop_length] at post
  simp only [compFold, ok, if_true, Out.bind_ok] at post
  have nF : Dd ∉ F := rep1.new_F nD
  have nb : Dd ∉ be' := fun z => rep.dis Dd z List.mem_cons_self
  have sub : ∀ a ∈ F, a ∈ Dd :: F := fun a ha => List.mem_cons_of_mem _ ha
  have hz := mkL_ne post.ne
  unfold mkL at post
  rw [if_pos hz] at post
  cases own with
  | false => exact post _ _ be' x (rep.subF sub) (.lst hD nb nF (rv.addF fun a ha => .inl (sub a ha)))
  | true => exact post _ _ (be' ++ [Dd]) (x.overL nD) (rep.addB nF (.lst hD rv.addB)) (.loc (by rw [← rep.len]; simp))
/-- the beginning -/
theorem Tn.start {K : PySem.W.Frag} {F be1 : List Addr} {H1 : Hp} {Dd : Addr} {g : D → List D → MHeap → Out (List D)} {its : Items} {f : List D → MHeap → Out D} {Q : V → Hp → Prop} {E : String → Hp → Prop} {h1 : MHeap} (rep1 : Rep K F be1 h1 H1) (nD : H1 Dd = none)
    (post : Post K F be1 H1 (RV K F) ((compFold g its its.xs [] h1).bind f) Q E) : Tn K F be1 H1 Dd g its f Q E 0 (upd H1 Dd (.lst [])) :=
  ⟨be1, h1, [], [], Ext.new nD, rep1.begun nD, upd_same, .nil, by rw [List.drop_zero]; exact post⟩
theorem Tn.step {K : PySem.W.Frag} {F be1 : List Addr} {H1 H' : Hp} {Dd : Addr} {g : D → List D → MHeap → Out (List D)} {its : Items} {f : List D → MHeap → Out D} {Q : V → Hp → Prop} {E : String → Hp → Prop} {i : Nat} {J : It} {d : D}
    {be' : List Addr} {h' : MHeap} {acc : List D} (hd : its.xs[i]? = some d) (post : Post K F be1 H1 (RV K F) ((compFold g its (its.xs.drop i) acc h').bind f) Q E) :
    its.okIn h' = true ∧ ∃ acc' h'', g d acc h' = .ok acc' h'' ∧ Post K F be1 H1 (RV K F) ((compFold g its (its.xs.drop (i + 1)) acc' h'').bind f) Q E := by
  have ok := fold_ok post.ne
  obtain ⟨hl, e⟩ := List.getElem?_eq_some_iff.mp hd
  rw [List.drop_eq_getElem_cons hl, e] at post
  simp only [compFold, ok, if_true] at post
  refine ⟨ok, ?_⟩
  cases hg : g d acc h' with
  | ok acc' h'' =>
    rw [hg] at post
    exact ⟨acc', h'', rfl, post⟩
  | ex => rw [hg] at post; exact post.elim
  | fail => rw [hg] at post; exact post.elim
/-- an item more -/
theorem Tn.push {K : PySem.W.Frag} {F be1 be2 : List Addr} {H1 H2 : Hp} {Dd : Addr} {acc : List D} {vs : List V} {y : D} {v : V} {h1 h2 : MHeap} (nD : H1 Dd = none) (x : Ext F be1 H1 be2 H2) (rep2 : Rep K (Dd :: F) be2 h2 H2) (hD : H2 Dd = some (.lst vs)) (rv : RVs K (Dd :: F) be2 H2 acc vs) (ry : RV K (Dd :: F) be2 H2 y v) :
    Ext F be1 H1 be2 (upd H2 Dd (.lst (vs ++ [v]))) ∧ Rep K (Dd :: F) be2 h2 (upd H2 Dd (.lst (vs ++ [v]))) ∧ RVs K (Dd :: F) be2 (upd H2 Dd (.lst (vs ++ [v]))) (acc ++ [y]) (vs ++ [v]) := by
  have ov : Over (Dd :: F) (Dd :: F) H2 Dd := ⟨List.mem_cons_self, fun a ha => ha, fun xs z => (by rw [hD] at z; cases z), fun o u z => (by rw [hD] at z; cases z), fun u z => (by rw [hD] at z; cases z), fun u z => (by rw [hD] at z; cases z)⟩
  exact ⟨x.over nD, rep2.over ov, (rv.over ov).append (.one (ry.over ov))⟩
theorem pushA_ok {acc acc' : List D} {y : D} {h h' : MHeap} (e : pushA acc y h = .ok acc' h') : acc.length < BIG ∧ acc' = acc ++ [y] ∧ h' = h := by
  unfold pushA at e
  split at e
  · rename_i z
    simp only [Out.ok.injEq] at e
    exact ⟨z, e.1.symm, e.2.symm⟩
  · cases e
theorem noex_ok {α : Type} {o : Out α} {a : α} {h : MHeap} (e : o.noex = .ok a h) : o = .ok a h := by
  cases o with
  | ok => exact e
  | ex => cases e
  | fail => cases e
theorem bind_eq_ok {α β : Type} {o : Out α} {f : α → MHeap → Out β} {b : β} {h : MHeap} (e : o.bind f = .ok b h) : ∃ a h1, o = .ok a h1 ∧ f a h1 = .ok b h := by
  cases o with
  | ok a h1 => exact ⟨a, h1, rfl, e⟩
  | ex => cases e
  | fail => cases e
theorem of_ok {α γ : Type} {K : PySem.W.Frag} {F be : List Addr} {H : Hp} {R : List Addr → Hp → α → γ → Prop} {o : Out α} {a : α} {h' : MHeap} {Q : γ → Hp → Prop} {E : String → Hp → Prop} (e : o = .ok a h') (q : ∀ c H' be', Ext F be H be' H' → Rep K F be' h' H' → R be' H' a c → Q c H') : Post K F be H R o Q E := by
  rw [e]
  exact q
theorem addD {F : List Addr} {H1 : Hp} {Dd : Addr} (nD : H1 Dd = none) : ∀ a ∈ Dd :: F, a ∈ F ∨ H1 a = none := fun a ha => by
  rcases List.mem_cons.mp ha with z | z
  · exact .inr (z ▸ nD)
  · exact .inl z
theorem bindO_ok {t : MT} {x : D} {σ : Env} {f : Env → Out (List D)} {acc : List D} {h : MHeap} (e : bindO t x σ f = .ok acc h) : ∃ σ2, bindT t x σ = some σ2 ∧ f σ2 = .ok acc h := by
  unfold bindO at e
  split at e
  · exact ⟨_, by assumption, e⟩
  · cases e
theorem RSl.block {K : PySem.W.Frag} {F be be' : List Addr} {H H' : Hp} {Dd : Addr} {env : Env} {σ : St} (rs : RSl K F be H env σ) (nD : H Dd = none) (x : Ext F be H be' H') (vs : List Nat) : RSl K (Dd :: F) be' H' (wipeE env vs) (L2.wipe σ vs) := by
  refine RSl.wipe ⟨rs.len, fun i d e => ?_⟩ vs
  obtain ⟨v, e1, e2⟩ := rs.get i d e
  exact ⟨v, e1, (e2.addF (addD nD)).ext1 x⟩
theorem wipe_wipe {σ : St} {vs : List Nat} : L2.wipe (L2.wipe σ vs) vs = L2.wipe σ vs := by
  refine List.ext_getElem? fun i => ?_
  rw [wipe_get, wipe_get]
  by_cases hi : i ∈ vs
  · rw [if_pos hi, if_pos hi]
    cases σ[i]? <;> rfl
  · rw [if_neg hi, if_neg hi]
mutual
theorem bindT_len : ∀ {t : MT} {d : D} {env env' : Env}, bindT t d env = some env' → env'.length = env.length
  | .name i, d, env, env', h => by
    simp only [bindT] at h
    split at h
    · simp only [Option.some.injEq] at h
      subst h
      simp
    · cases h
  | .tup ts, d, env, env', h => by
    simp only [bindT] at h
    split at h
    · exact bindTs_lenE h
    · exact bindTs_lenE h
    · cases h
theorem bindTs_lenE : ∀ {ts : List MT} {ds : List D} {env env' : Env}, bindTs ts ds env = some env' → env'.length = env.length
  | [], ds, env, env', h => by
    cases ds with
    | nil =>
      simp only [bindTs, Option.some.injEq] at h
      subst h
      rfl
    | cons => simp [bindTs] at h
  | t :: ts, ds, env, env', h => by
    cases ds with
    | nil => simp [bindTs] at h
    | cons d ds =>
      simp only [bindTs] at h
      split at h
      · rename_i e1 he
        rw [bindTs_lenE h, bindT_len he]
      · cases h
end
theorem RSl.extW {K : PySem.W.Frag} {F be be' : List Addr} {H H' : Hp} {env : Env} {σ : St} (r : RSl K F be H env σ) (x : ExtW F be H be' H') : RSl K F be' H' env σ :=
  ⟨r.len, fun i d e => let ⟨v, e1, e2⟩ := r.get i d e; ⟨v, e1, e2.extW x fun _ h => h⟩⟩
theorem e_comp {own : Bool} {elt : ME} {t : MT} {it : MI} {ifs : MEs} {vs : List Nat} {i : Expr} {fs : List Expr} {scope : Scope} (g : Gd P xa k S W X) (hb : blkB S scope vs = true) (hsl : t.slots = vs) (hns : notSet i = true)
    (hi : PI X tg i (TIo X.K C W it)) (hg : ∀ (s : Shared) (H : Hp) (Cc : Addr) (cl : List (Str × Addr)) (fp : List Addr), PG (X.blk s H scope (compEnvC scope cl Cc X.env) fp) tg (TGo X.K t))
    (ht : ∀ (s : Shared) (H : Hp) (Cc : Addr) (cl : List (Str × Addr)) (fp : List Addr), PTs (X.blk s H scope (compEnvC scope cl Cc X.env) fp) fs (TLo X.K C ifs))
    (he : ∀ (s : Shared) (H : Hp) (Cc : Addr) (cl : List (Str × Addr)) (fp : List Addr), PE (X.blk s H scope (compEnvC scope cl Cc X.env) fp) l (TEo X.K C noW elt)) :
    ∀ σ H Q, TEo X.K C W (.comp own elt t it ifs vs) σ H Q → tLc (TIo X.K C W it) (TGo X.K t) (TLo X.K C ifs) (TEo X.K C noW elt) vs σ H Q := by
  intro σ H Q ⟨F, be, h, env, rep, rs, post⟩
  refine ⟨F, be, h, env, rep, rs, Post.bind post fun its h1 J H1 be1 x1 rep1 wd p1 => fun Dd nD => ?_⟩
  obtain ⟨G, Y, wk, hG, hY⟩ := wd.w
  have rs1 := rs.ext x1
  have sub : ∀ a ∈ F, a ∈ Dd :: F := fun a ha => List.mem_cons_of_mem _ ha
  refine lc_it wk (Tn X.K F be1 H1 Dd _ its (fun ys h => mkL own ys h) Q (fun x H' => W x σ H')) (Tn.start rep1 nD p1) (fun j H' hj t => ?_) (fun j v H' H2 hj t hy => ?_) fun H' t => Tn.done rep1 nD t
  · obtain ⟨be', h', acc, ws, x, rep', hD, rv, post'⟩ := t
    exact hG (Dd :: F) be' H' h' x.w rep' (fold_ok post'.ne)
  · obtain ⟨be', h', acc, ws, x, rep', hD, rv, post'⟩ := t
    have okh := fold_ok post'.ne
    obtain ⟨x2, rep2, d, hd, rd⟩ := hY j (Dd :: F) be' H' h' v H2 x.w rep' (fun a ha => List.mem_cons_of_mem _ ha) (addD nD) okh hj hy
    obtain ⟨_, acc', h'', eg, post2⟩ := Tn.step (J := J) (H' := H') (Dd := Dd) (be' := be') hd post'
    obtain ⟨env2, eb, eg⟩ := bindO_ok eg
    have eg := noex_ok eg
    obtain ⟨tt, h3, et, eg⟩ := bind_eq_ok eg
    have nDb : Dd ∉ be' := fun z => rep'.dis Dd z List.mem_cons_self
    have hD2 : H2 Dd = some (.lst ws) := x2.keepL hD nDb
    refine ⟨Dd :: F, be', wipeE env vs, env2, d, rs1.block nD (x.trans (x2.mono sub)) vs, rd, eb, fun σ2 rs2 so => ⟨?_, ?_⟩⟩
    · rw [hsl] at so
      have hlen : σ2.length = (L2.wipe σ vs).length := by
        rw [← rs2.len, ← (rs1.block (Dd := Dd) nD (x.trans (x2.mono sub)) vs).len]
        exact bindT_len eb
      rw [so.wipe hlen, wipe_wipe]
    · refine ⟨Dd :: F, be', h', env2, rep2, rs2, of_ok et fun c H3 be3 x3 rep3 ec => ?_⟩
      cases ec
      have rv3 := (rv.ext x2).ext x3
      have x13 := (x.trans (x2.mono sub)).trans (x3.mono sub)
      have nD3 : Dd ∉ be3 := fun z => rep3.dis Dd z List.mem_cons_self
      have hD3 : H3 Dd = some (.lst ws) := x3.keepL hD2 nDb
      cases tt with
      | false =>
        simp only [Bool.false_eq_true, if_false, Out.ok.injEq] at eg
        obtain ⟨rfl, rfl⟩ := eg
        exact ⟨be3, h3, acc, ws, x13, rep3, hD3, rv3, post2⟩
      | true =>
        simp only [if_true] at eg
        obtain ⟨y, h4, ee, eg⟩ := bind_eq_ok eg
        obtain ⟨hz, rfl, rfl⟩ := pushA_ok eg
        refine ⟨Dd :: F, be3, h3, env2, rep3, rs2.ext x3, of_ok ee fun u H4 be4 x4 rep4 ru => ?_⟩
        have hD4 : H4 Dd = some (.lst ws) := x4.keepL hD3 nD3
        obtain ⟨q1, q2, q3⟩ := Tn.push (h1 := h1) nD (x13.trans (x4.mono sub)) rep4 hD4 (rv3.ext x4) ru
        exact ⟨ws, hD4, by rw [← rv.length]; exact Nat.lt_of_lt_of_le hz (by decide), be4, _, _, _, q1, q2, upd_same, q3, post2⟩
theorem e_comp2 {own : Bool} {elt : ME} {t t1 : MT} {it it1 : MI} {vs vs1 : List Nat} (hsl : t.slots ++ t1.slots = vs) (hsl1 : t1.slots = vs1) :
    ∀ σ H Q, TEo X.K C W (.comp2 own elt t it t1 it1 vs vs1) σ H Q → tLc2 (TIo X.K C W it) (TGo X.K t) (TLo X.K C .nil) (TIo X.K C noW it1) (TGo X.K t1) (TLo X.K C .nil) (TEo X.K C noW elt) vs vs1 σ H Q := by
  intro σ H Q ⟨F, be, h, env, rep, rs, post⟩
  refine ⟨F, be, h, env, rep, rs, Post.bind post fun its h1 J H1 be1 x1 rep1 wd p1 => fun Dd nD => ?_⟩
  obtain ⟨G, Y, wk, hG, hY⟩ := wd.w
  have rs1 := rs.ext x1
  have sub : ∀ a ∈ F, a ∈ Dd :: F := fun a ha => List.mem_cons_of_mem _ ha
  let Pv := Tn X.K F be1 H1 Dd (fun x acc h => bindO t x (wipeE env vs) fun σ2 => ((evI C it1 σ2 h).bind fun its1 h =>
          compFold (fun x1 acc h => bindO t1 x1 (wipeE σ2 vs1) fun σ3 => ((evE C elt σ3 h).bind fun y h => pushA acc y h).noex) its1 its1.xs acc h).noex) its (fun ys h => mkL own ys h) Q (fun x H' => W x σ H')
  refine ⟨fun j m H' => m = its.xs.length - j ∧ j ≤ its.xs.length ∧ Pv j H', ⟨its.xs.length, by simp, Nat.zero_le _, Tn.start rep1 nD p1⟩, ?_⟩
  rintro j m H' ⟨rfl, hj, tn⟩
  have hGj : G H' := by
    obtain ⟨be', h', acc, ws, x, rep', hD, rv, post'⟩ := tn
    exact hG (Dd :: F) be' H' h' x.w rep' (fold_ok post'.ne)
  by_cases hlt : j < its.xs.length
  · refine .inr ⟨wk.goes j H' hlt hGj, Pv (j + 1), fun H3 p' => ⟨its.xs.length - (j + 1), by omega, rfl, hlt, p'⟩, fun v H2 hy0 => ?_⟩
    have hy := wk.yields j H' v H2 hlt hGj hy0
    obtain ⟨be', h', acc, ws, x, rep', hD, rv, post'⟩ := tn
    have okh := fold_ok post'.ne
    obtain ⟨x2, rep2, d, hd, rd⟩ := hY j (Dd :: F) be' H' h' v H2 x.w rep' sub (addD nD) okh hlt hy
    obtain ⟨_, acc', h'', eg, post2⟩ := Tn.step (J := J) (H' := H') (Dd := Dd) (be' := be') hd post'
    obtain ⟨env2, eb, eg⟩ := bindO_ok eg
    have eg := noex_ok eg
    obtain ⟨its1, h3, ei, eg⟩ := bind_eq_ok eg
    have nDb : Dd ∉ be' := fun z => rep'.dis Dd z List.mem_cons_self
    have hD2 : H2 Dd = some (.lst ws) := x2.keepL hD nDb
    refine ⟨Dd :: F, be', wipeE env vs, env2, d, rs1.block nD (x.trans (x2.mono sub)) vs, rd, eb, fun σ2 rs2 so => ⟨?_, ?_⟩⟩
    · have so' : SameOut vs (L2.wipe σ vs) σ2 := fun i hi => so i fun z => hi (by rw [← hsl]; exact List.mem_append_left _ z)
      have hlen : σ2.length = (L2.wipe σ vs).length := by
        rw [← rs2.len, ← (rs1.block (Dd := Dd) nD (x.trans (x2.mono sub)) vs).len]
        exact bindT_len eb
      rw [so'.wipe hlen, wipe_wipe]
    · refine ⟨Dd :: F, be', h', env2, rep2, rs2, of_ok rfl fun c H2' be2' x2' rep2' ec => ?_⟩
      cases ec
      show TIo X.K C noW it1 σ2 H2' _
      refine ⟨Dd :: F, be2', h', env2, rep2', rs2.ext x2', of_ok ei fun J1 H3 be3 x3 rep3 wd1 => ?_⟩
      obtain ⟨G1, Y1, wk1, hG1, hY1⟩ := wd1.w
      have x13 : Ext F be1 H1 be3 H3 := ((x.trans (x2.mono sub)).trans (x2'.mono sub)).trans (x3.mono sub)
      have nD2' : Dd ∉ be2' := fun z => rep2'.dis Dd z List.mem_cons_self
      have hD3 : H3 Dd = some (.lst ws) := x3.keepL (x2'.keepL hD2 nDb) nD2'
      have rs3 := (rs2.ext x2').ext x3
      -- between two turns of the inner walk
      let Pi := fun (n : Nat) (H4 : Hp) => ∃ be4 h4 acc4 ws4, ExtW (Dd :: F) be3 H3 be4 H4 ∧ Ext F be1 H1 be4 H4 ∧ Rep X.K (Dd :: F) be4 h4 H4 ∧ H4 Dd = some (.lst ws4) ∧ RVs X.K (Dd :: F) be4 H4 acc4 ws4 ∧
        compFold (fun x1 acc h => bindO t1 x1 (wipeE env2 vs1) fun σ3 => ((evE C elt σ3 h).bind fun y h => pushA acc y h).noex) its1 (its1.xs.drop n) acc4 h4 = .ok acc' h''
      have okI : ∀ {n : Nat} {acc4 : List D} {h4 : MHeap}, compFold (fun x1 acc h => bindO t1 x1 (wipeE env2 vs1) fun σ3 => ((evE C elt σ3 h).bind fun y h => pushA acc y h).noex) its1 (its1.xs.drop n) acc4 h4 = .ok acc' h'' → its1.okIn h4 = true := fun {n acc4 h4} z =>
        fold_ok (f := fun ys h => Out.ok D.non h) (by rw [z]; intro q; cases q)
      refine ⟨fun n q H4 => q = its1.xs.length - n ∧ n ≤ its1.xs.length ∧ Pi n H4, ⟨its1.xs.length, by simp, Nat.zero_le _, be3, h3, acc, ws, (Ext.refl (F := F)).w, x13, rep3, hD3, ((rv.ext x2).ext x2').ext x3, by rw [List.drop_zero]; exact eg⟩, ?_⟩
      rintro n q H4 ⟨rfl, hn, be4, h4, acc4, ws4, x34, x14, rep4, hD4, rv4, ec4⟩
      have hGn : G1 H4 := hG1 (Dd :: F) be4 H4 h4 x34 rep4 (okI ec4)
      by_cases hlt1 : n < its1.xs.length
      · refine .inr ⟨wk1.goes n H4 hlt1 hGn, Pi (n + 1), fun H5 p' => ⟨its1.xs.length - (n + 1), by omega, rfl, hlt1, p'⟩, fun v1 H5 hy1 => ?_⟩
        have hy1 := wk1.yields n H4 v1 H5 hlt1 hGn hy1
        obtain ⟨x5, rep5, d1, hd1, rd1⟩ := hY1 n (Dd :: F) be4 H4 h4 v1 H5 x34 rep4 (fun a ha => ha) (fun a ha => .inl ha) (okI ec4) hlt1 hy1
        obtain ⟨hl1, e1⟩ := List.getElem?_eq_some_iff.mp hd1
        have ok4 := okI ec4
        rw [List.drop_eq_getElem_cons hl1, e1] at ec4
        simp only [compFold, ok4, if_true] at ec4
        have nD4 : Dd ∉ be4 := fun z => rep4.dis Dd z List.mem_cons_self
        have hD5 : H5 Dd = some (.lst ws4) := x5.keepL hD4 nD4
        split at ec4
        · rename_i acc5 h5 eg5
          obtain ⟨env3, eb3, eg5⟩ := bindO_ok eg5
          have eg5 := noex_ok eg5
          obtain ⟨y, h6, ee, eg5⟩ := bind_eq_ok eg5
          obtain ⟨hz, rfl, rfl⟩ := pushA_ok eg5
          have rs5 : RSl X.K (Dd :: F) be4 H5 (wipeE env2 vs1) (L2.wipe σ2 vs1) := ((rs3.extW x34).ext x5).wipe vs1
          refine ⟨Dd :: F, be4, wipeE env2 vs1, env3, d1, rs5, rd1, eb3, fun σ3 rs6 so3 => ⟨?_, ?_⟩⟩
          · rw [hsl1] at so3
            have hlen : σ3.length = (L2.wipe σ2 vs1).length := by
              rw [← rs6.len, ← rs5.len]
              exact bindT_len eb3
            rw [so3.wipe hlen, wipe_wipe]
          · refine ⟨Dd :: F, be4, h4, env3, rep5, rs6, of_ok rfl fun c H6 be6 x6 rep6 ec6 => ?_⟩
            cases ec6
            show TEo X.K C noW elt σ3 H6 _
            refine ⟨Dd :: F, be6, h4, env3, rep6, rs6.ext x6, of_ok ee fun u H7 be7 x7 rep7 ru => ?_⟩
            have nD6 : Dd ∉ be6 := fun z => rep6.dis Dd z List.mem_cons_self
            have hD7 : H7 Dd = some (.lst ws4) := x7.keepL (x6.keepL hD5 nD4) nD6
            have x57 := (x5.trans x6).trans x7
            obtain ⟨q1, q2, q3⟩ := Tn.push (h1 := h1) nD (x14.trans (x57.mono sub)) rep7 hD7 (rv4.ext x57) ru
            refine ⟨ws4, hD7, by rw [← rv4.length]; exact Nat.lt_of_lt_of_le hz (by decide), be7, _, _, _, ?_, q1, q2, upd_same, q3, ec4⟩
            exact (x34.trans x57).push List.mem_cons_self hD7
        · cases ec4
      · have en : n = its1.xs.length := by omega
        subst en
        refine .inl ⟨wk1.stops H4 hGn, ?_⟩
        have ok4 := okI ec4
        rw [List.drop_length] at ec4
        simp only [compFold, ok4, if_true, Out.ok.injEq] at ec4
        obtain ⟨rfl, rfl⟩ := ec4
        exact ⟨be4, h4, acc4, ws4, x14, rep4, hD4, rv4, post2⟩
  · have en : j = its.xs.length := by omega
    subst en
    exact .inl ⟨wk.stops H' hGj, Tn.done rep1 nD tn⟩
end
end Lt

/-! Lt, part Sa: values seen with fewer locations. -/
namespace Lt
open PySem PySem.Spec PyProof.Rows L2
variable [Mk]

section
variable {K : PySem.W.Frag} {F F1 be be1 : List Addr} {H : Hp} {h : MHeap} {n : Nat}
/-- values seen with fewer locations -/
structure Fewer (F be F1 be1 : List Addr) (n : Nat) : Prop where
  old : ∀ a, a ∉ be → a ∉ F → a ∉ be1 ∧ a ∉ F1
  low : ∀ (k : Nat) (a : Addr), k < n → be[k]? = some a → be1[k]? = some a
  new : ∀ (k : Nat) (a : Addr), n ≤ k → be[k]? = some a → a ∉ be1 ∧ a ∉ F1
mutual
theorem RV.frz {g : Nat → Option D} (x : Fewer F be F1 be1 n) (hg : ∀ k a d', n ≤ k → be[k]? = some a → g k = some d' → RV K F1 be1 H d' (.ref a)) : ∀ {d d' : D} {v : V}, RV K F be H d v → D.frz g n d = some d' → RV K F1 be1 H d' v
  | _, _, _, .non, e => by simp only [D.frz, Option.some.injEq] at e; subst e; exact .non
  | _, _, _, .bl b, e => by simp only [D.frz, Option.some.injEq] at e; subst e; exact .bl b
  | _, _, _, .int i, e => by simp only [D.frz, Option.some.injEq] at e; subst e; exact .int i
  | _, _, _, .str s, e => by simp only [D.frz, Option.some.injEq] at e; subst e; exact .str s
  | _, _, _, .ty n, e => by simp only [D.frz, Option.some.injEq] at e; subst e; exact .ty n
  | _, _, _, .scr q, e => by simp only [D.frz, Option.some.injEq] at e; subst e; exact .scr q
  | _, _, _, .scl q n1 n2, e => by simp only [D.frz, Option.some.injEq] at e; subst e; exact .scl q (x.old _ n1 n2).1 (x.old _ n1 n2).2
  | _, _, _, .wt q r, e => by simp [D.frz] at e
  | _, _, _, .adr a, e => by simp only [D.frz, Option.some.injEq] at e; subst e; exact .adr a
  | _, _, _, .exc q n1 n2, e => by simp only [D.frz, Option.some.injEq] at e; subst e; exact .exc q (x.old _ n1 n2).1 (x.old _ n1 n2).2
  | _, _, _, .tup q nd r, e => by
    simp only [D.frz] at e
    split at e
    · rename_i ys ey
      simp only [Option.some.injEq] at e
      subst e
      exact .tup q nd (RVs.frz x hg r ey)
    · cases e
  | _, _, _, .lst q n1 n2 r, e => by
    simp only [D.frz] at e
    split at e
    · rename_i ys ey
      simp only [Option.some.injEq] at e
      subst e
      exact .lst q (x.old _ n1 n2).1 (x.old _ n1 n2).2 (RVs.frz x hg r ey)
    · cases e
  | _, _, _, .dic0 q n1 n2 r, e => by
    simp only [D.frz] at e
    split at e
    · rename_i ys ey
      simp only [Option.some.injEq] at e
      subst e
      exact .dic0 q (x.old _ n1 n2).1 (x.old _ n1 n2).2 (RVp.frz x hg r ey)
    · cases e
  | _, _, _, .loc (a := a) (n := k) q, e => by
    simp only [D.frz] at e
    split at e
    · rename_i hk
      simp only [Option.some.injEq] at e
      subst e
      exact .loc (x.low k a hk q)
    · rename_i hk
      exact hg k a _ (Nat.le_of_not_lt hk) q e
theorem RVs.frz {g : Nat → Option D} (x : Fewer F be F1 be1 n) (hg : ∀ k a d', n ≤ k → be[k]? = some a → g k = some d' → RV K F1 be1 H d' (.ref a)) : ∀ {ds ds' : List D} {vs : List V}, RVs K F be H ds vs → D.frzL g n ds = some ds' → RVs K F1 be1 H ds' vs
  | _, _, _, .nil, e => by simp only [D.frzL, Option.some.injEq] at e; subst e; exact .nil
  | _, _, _, .cons r t, e => by
    simp only [D.frzL] at e
    split at e
    · rename_i y s e1 e2
      simp only [Option.some.injEq] at e
      subst e
      exact .cons (RV.frz x hg r e1) (RVs.frz x hg t e2)
    · cases e
theorem RVp.frz {g : Nat → Option D} (x : Fewer F be F1 be1 n) (hg : ∀ k a d', n ≤ k → be[k]? = some a → g k = some d' → RV K F1 be1 H d' (.ref a)) : ∀ {ds ds' : List (Ky × D)} {vs : List (Key × V)}, RVp K F be H ds vs → D.frzP g n ds = some ds' → RVp K F1 be1 H ds' vs
  | _, _, _, .nil, e => by simp only [D.frzP, Option.some.injEq] at e; subst e; exact .nil
  | _, _, _, .cons k r t, e => by
    simp only [D.frzP] at e
    split at e
    · rename_i y s e1 e2
      simp only [Option.some.injEq] at e
      subst e
      exact .cons k (RV.frz x hg r e1) (RVp.frz x hg t e2)
    · cases e
end
theorem frzAt_ok (x : Fewer F be F1 be1 n) (rep : Rep K F be h H) : ∀ (m k : Nat) (a : Addr) (d' : D), n ≤ k → be[k]? = some a → frzAt h n m k = some d' → RV K F1 be1 H d' (.ref a)
  | 0, _, _, _, _, _, e => by simp [frzAt] at e
  | m + 1, k, a, d', hk, hb, e => by
    simp only [frzAt] at e
    obtain ⟨o, e1, ro⟩ := rep.at hb
    rw [e1] at e
    have nn := x.new k a hk hb
    cases ro with
    | lst q r =>
      simp only at e
      split at e
      · rename_i ys ey
        simp only [Option.some.injEq] at e
        subst e
        exact .lst q nn.1 nn.2 (RVs.frz x (fun k a d' => frzAt_ok x rep m k a d') r ey)
      · cases e
    | dic0 q r =>
      simp only at e
      split at e
      · rename_i ys ey
        simp only [Option.some.injEq] at e
        subst e
        exact .dic0 (.inl q) nn.1 nn.2 (RVp.frz x (fun k a d' => frzAt_ok x rep m k a d') r ey)
      · cases e
    | fdic0 q r =>
      simp only at e
      split at e
      · rename_i ys ey
        simp only [Option.some.injEq] at e
        subst e
        exact .dic0 (.inr ⟨_, q⟩) nn.1 nn.2 (RVp.frz x (fun k a d' => frzAt_ok x rep m k a d') r ey)
      · cases e
    | ins q r => simp at e
theorem frz_ok (x : Fewer F be F1 be1 n) (rep : Rep K F be h H) {d d' : D} {v : V} (r : RV K F be H d v) (e : Lt.frz h n d = some d') : RV K F1 be1 H d' v := RV.frz x (frzAt_ok x rep 4) r e
mutual
theorem RV.low (x : Fewer F be F1 be1 n) : ∀ {d : D} {v : V}, RV K F be H d v → D.low n d = true → RV K F1 be1 H d v
  | _, _, .non, _ => .non
  | _, _, .bl b, _ => .bl b
  | _, _, .int i, _ => .int i
  | _, _, .str s, _ => .str s
  | _, _, .ty n, _ => .ty n
  | _, _, .scr q, _ => .scr q
  | _, _, .scl q n1 n2, _ => .scl q (x.old _ n1 n2).1 (x.old _ n1 n2).2
  | _, _, .wt q r, e => by simp [D.low] at e
  | _, _, .adr a, e => .adr a
  | _, _, .exc q n1 n2, e => .exc q (x.old _ n1 n2).1 (x.old _ n1 n2).2
  | _, _, .tup q nd r, e => .tup q nd (RVs.low x r (by simpa [D.low] using e))
  | _, _, .lst q n1 n2 r, e => .lst q (x.old _ n1 n2).1 (x.old _ n1 n2).2 (RVs.low x r (by simpa [D.low] using e))
  | _, _, .dic0 q n1 n2 r, e => .dic0 q (x.old _ n1 n2).1 (x.old _ n1 n2).2 (RVp.low x r (by simpa [D.low] using e))
  | _, _, .loc (a := a) (n := k) q, e => .loc (x.low k a (by simpa [D.low] using e) q)
theorem RVs.low (x : Fewer F be F1 be1 n) : ∀ {ds : List D} {vs : List V}, RVs K F be H ds vs → D.lowL n ds = true → RVs K F1 be1 H ds vs
  | _, _, .nil, _ => .nil
  | _, _, .cons r t, e => by
    simp only [D.lowL, Bool.and_eq_true] at e
    exact .cons (RV.low x r e.1) (RVs.low x t e.2)
theorem RVp.low (x : Fewer F be F1 be1 n) : ∀ {ds : List (Ky × D)} {vs : List (Key × V)}, RVp K F be H ds vs → D.lowP n ds = true → RVp K F1 be1 H ds vs
  | _, _, .nil, _ => .nil
  | _, _, .cons k r t, e => by
    simp only [D.lowP, Bool.and_eq_true] at e
    exact .cons k (RV.low x r e.1) (RVp.low x t e.2)
end
theorem RVf.low (x : Fewer F be F1 be1 n) : ∀ {ds : List (Str × D)} {vs : List (Str × V)}, RVf K F be H ds vs → (∀ f d, (f, d) ∈ ds → D.low n d = true) → RVf K F1 be1 H ds vs
  | _, _, .nil, _ => .nil
  | _, _, .cons r t, e => .cons (RV.low x r (e _ _ List.mem_cons_self)) (RVf.low x t fun f d hd => e f d (List.mem_cons_of_mem _ hd))
theorem RO.low (x : Fewer F be F1 be1 n) {o : MObj} {a : Addr} (r : RO K F be H o a) (e : MObj.low n o = true) : RO K F1 be1 H o a := by
  cases r with
  | lst q r => exact .lst q (RVs.low x r (by simpa [MObj.low] using e))
  | dic0 q r => exact .dic0 q (RVp.low x r (by simpa [MObj.low] using e))
  | fdic0 q r => exact .fdic0 q (RVp.low x r (by simpa [MObj.low] using e))
  | ins q r => exact .ins q (RVf.low x r (by simpa [MObj.low] using e))
mutual
/-- no location: any locations will do -/
theorem RV.free (x : ∀ a, a ∉ be → a ∉ F → a ∉ be1 ∧ a ∉ F1) : ∀ {d : D} {v : V}, RV K F be H d v → D.free d = true → RV K F1 be1 H d v
  | _, _, .non, _ => .non
  | _, _, .bl b, _ => .bl b
  | _, _, .int i, _ => .int i
  | _, _, .str s, _ => .str s
  | _, _, .ty n, _ => .ty n
  | _, _, .scr q, _ => .scr q
  | _, _, .scl q n1 n2, _ => .scl q (x _ n1 n2).1 (x _ n1 n2).2
  | _, _, .wt q r, e => by simp [D.free] at e
  | _, _, .adr a, e => .adr a
  | _, _, .exc q n1 n2, e => .exc q (x _ n1 n2).1 (x _ n1 n2).2
  | _, _, .tup q nd r, e => .tup q nd (RVs.free x r (by simpa [D.free] using e))
  | _, _, .lst q n1 n2 r, e => .lst q (x _ n1 n2).1 (x _ n1 n2).2 (RVs.free x r (by simpa [D.free] using e))
  | _, _, .dic0 q n1 n2 r, e => .dic0 q (x _ n1 n2).1 (x _ n1 n2).2 (RVp.free x r (by simpa [D.free] using e))
  | _, _, .loc q, e => by simp [D.free] at e
theorem RVs.free (x : ∀ a, a ∉ be → a ∉ F → a ∉ be1 ∧ a ∉ F1) : ∀ {ds : List D} {vs : List V}, RVs K F be H ds vs → D.freeL ds = true → RVs K F1 be1 H ds vs
  | _, _, .nil, _ => .nil
  | _, _, .cons r t, e => by
    simp only [D.freeL, Bool.and_eq_true] at e
    exact .cons (RV.free x r e.1) (RVs.free x t e.2)
theorem RVp.free (x : ∀ a, a ∉ be → a ∉ F → a ∉ be1 ∧ a ∉ F1) : ∀ {ds : List (Ky × D)} {vs : List (Key × V)}, RVp K F be H ds vs → D.freeP ds = true → RVp K F1 be1 H ds vs
  | _, _, .nil, _ => .nil
  | _, _, .cons k r t, e => by
    simp only [D.freeP, Bool.and_eq_true] at e
    exact .cons k (RV.free x r e.1) (RVp.free x t e.2)
end
end

section
variable {K : PySem.W.Frag} {F be : List Addr} {H : Hp} {h : MHeap}
theorem RO.hasN {o : MObj} {a : Addr} : RO K F be H o a → ∃ u, H a = some u ∧ NoTbl u
  | .lst q _ => ⟨_, q, ntL⟩
  | .dic0 q _ => ⟨_, q, ntD⟩
  | .fdic0 q _ => ⟨_, q, ntF⟩
  | .ins q _ => ⟨_, q, ntI⟩
theorem Rep.memN (R : Rep K F be h H) {a : Addr} (e : a ∈ be) : ∃ u, H a = some u ∧ NoTbl u := by
  obtain ⟨n, hn, rfl⟩ := List.getElem_of_mem e
  obtain ⟨o, _, r⟩ := R.at (n := n) (a := be[n]) (by simp [hn])
  exact r.hasN
theorem truncFew {H' : Hp} {h' : MHeap} {be' : List Addr} (rep : Rep K F be h H) (x : Ext F be H be' H') (rep' : Rep K F be' h' H') : Fewer F be' F be h.length := by
  obtain ⟨e1, rfl, n1⟩ := x.pre
  refine ⟨fun a n1 n2 => ⟨fun z => n1 (List.mem_append_left _ z), n2⟩, fun k a hk e => ?_, fun k a hk e => ?_⟩
  · rw [List.getElem?_append_left (by rw [rep.len]; exact hk)] at e
    exact e
  · have hm := List.mem_of_getElem? e
    refine ⟨fun z => ?_, rep'.dis a hm⟩
    rw [List.getElem?_append_right (by rw [rep.len]; exact hk)] at e
    obtain ⟨o, q, nt⟩ := rep.memN z
    exact n1 a (List.mem_of_getElem? e) o q nt
theorem truncBack {H' : Hp} {h' : MHeap} {be' : List Addr} (rep : Rep K F be h H) (x : Ext F be H be' H') (rep' : Rep K F be' h' H') (hl : h.length ≤ h'.length) (lo : (h'.take h.length).all (MObj.low h.length) = true) : Ext F be H be H' ∧ Rep K F be (h'.take h.length) H' := by
  have few := truncFew rep x rep'
  have x0 := x
  obtain ⟨e1, rfl, n1⟩ := x.pre
  refine ⟨⟨⟨[], by simp, by simp⟩, x0.keep, x0.keepF, x0.tups, x0.frzs, x0.there⟩, by rw [rep.len, List.length_take]; omega, rep.nd, rep.dis, rep'.fin, fun n a o e2 e3 => ?_, rep'.tabs⟩
  have hn : n < h.length := by rw [← rep.len]; exact (List.getElem?_eq_some_iff.mp e2).1
  have hm := List.mem_of_getElem? e3
  rw [List.getElem?_take_of_lt hn] at e3
  have ro := rep'.obj n a o (by rw [List.getElem?_append_left (by rw [rep.len]; exact hn)]; exact e2) e3
  exact ro.low few (List.all_eq_true.mp lo o hm)
end
end Lt

/-! Lt, part Z: instances of the text's class; f-strings. -/
namespace Lt
open PySem PySem.Spec PyProof.Rows L2
variable [Mk]

section
variable {K : PySem.W.Frag} {F be : List Addr} {H : Hp} {h : MHeap}
theorem RVf.look : ∀ {ds : List (Str × D)} {vs : List (Str × V)} {f : Str} {d : D}, RVf K F be H ds vs → ds.lookup f = some d → ∃ v, vs.lookup f = some v ∧ RV K F be H d v
  | _, _, _, _, .nil, e => by cases e
  | _, _, f, d, .cons (f := g) r t, e => by
    rw [List.lookup_cons] at e ⊢
    cases q : f == g with
    | true => rw [q] at e; cases e; exact ⟨_, rfl, r⟩
    | false => rw [q] at e; exact RVf.look t e
theorem RVf.lookN : ∀ {ds : List (Str × D)} {vs : List (Str × V)} {f : Str}, RVf K F be H ds vs → ds.lookup f = none → vs.lookup f = none
  | _, _, _, .nil, e => rfl
  | _, _, f, .cons (f := g) r t, e => by
    rw [List.lookup_cons] at e ⊢
    cases q : f == g with
    | true => rw [q] at e; cases e
    | false => rw [q] at e; exact RVf.lookN t e
theorem RVf.put {d : D} {v : V} (rv : RV K F be H d v) (f : Str) : ∀ {ds : List (Str × D)} {vs : List (Str × V)}, RVf K F be H ds vs → RVf K F be H (putFd f d ds) (putF f v vs)
  | _, _, .nil => .cons rv .nil
  | _, _, .cons (f := g) r t => by
    unfold putFd putF
    split
    · exact .cons rv t
    · exact .cons r (RVf.put rv f t)
theorem RVf.length : ∀ {ds : List (Str × D)} {vs : List (Str × V)}, RVf K F be H ds vs → ds.length = vs.length
  | _, _, .nil => rfl
  | _, _, .cons _ t => by simp [RVf.length t]
theorem insOf_ok (rep : Rep K F be h H) {cn : String} {d : D} {v : V} {fs : List (Str × D)} (r : RV K F be H d v) (e : insOf cn h d = some fs) :
    ∃ n a dx vs, d = .loc n ∧ v = .ref a ∧ be[n]? = some a ∧ h[n]? = some (.ins cn fs) ∧ H a = some (.ins (clsOf K cn) dx vs) ∧ RVf K F be H fs vs := by
  cases r with
  | loc q =>
    simp only [insOf] at e
    obtain ⟨o, e1, ro⟩ := rep.at q
    rw [e1] at e
    cases ro with
    | ins q2 t =>
      simp only at e
      split at e
      · rename_i hc
        subst hc
        cases e
        exact ⟨_, _, _, _, rfl, rfl, q, e1, q2, t⟩
      · cases e
    | _ => simp at e
  | _ => simp [insOf] at e
theorem calls_cn {P : Prg} {k : Nat} : (calls P k).cn = P.cn := by cases k <;> rfl
end

section
variable {P : Prg} {xa : ExA} {k : Nat} {S : Sx} {W : WW} {X : Cx} {C : Calls} {e l r tg : Expr} {m a b c : ME} {as : MEs} {es : List Expr} {pos p : Pos}
/-- o.f -/
theorem e_fld {f : Str} (g : Gd P xa k S W X) (hc : P.cn ≠ "") (hf : f ∈ P.flds) (hr : plainRecv l = true) (ha : PE X l (TEo X.K (calls P k) W a)) : PE X (.Attribute l f pos) (TEo X.K (calls P k) W (.fld a f)) :=
  PE.mono' (pe_fld ha (base_plain hr f X.env (eval l X.env))) fun σ H Q ⟨F, be, h, env, rep, rs, post⟩ => ⟨F, be, h, env, rep, rs, Post.bind post fun dx h1 x H1 be1 x1 rep1 rx p1 => by
    obtain ⟨v, e1, q⟩ := Post.of1 p1 rep1
    unfold fldD at e1
    rw [calls_cn] at e1
    split at e1
    · rename_i fs e2
      obtain ⟨n, a', dd, vs, rfl, rfl, _, _, h3, h4⟩ := insOf_ok rep1 rx e2
      obtain ⟨v', h5, h6⟩ := h4.look e1
      exact ⟨a', _, dd, vs, v', rfl, h3, (g.cls hc).cl, (g.cls hc).no f hf, h5, q _ h6⟩
    · cases e1⟩

/-! ### o.m(..) -/
theorem own_call {m : Str} {apos cpos : Pos} {args : List Expr} {A : Around} {env : PySem.Env} {Q : Value → Shared → Prop} {E : Value → Shared → Prop} {s : Shared} (hbase : attributeBase l m env (eval l env) = eval l env)
    (hform : methodCallForm (args.length + ([] : List Keyword).length) (backTo cpos (starEach args env)) (backToKw cpos (keywordEach [] env)) = true) (hline : (apos.endLine == cpos.line) = true)
    (h : wpAny (model X.prog X.w) A (eval l env) (fun ov s1 => wpAny (model X.prog X.w) A (getMethod ov m (do return (← importBound l env).getD true)) (fun fx s2 => wpAny (model X.prog X.w) A (callWith cpos fx.1 fx.2 (backTo cpos (starEach args env)) (backToKw cpos (keywordEach [] env))) Q E s2) E s1) E s) :
    wpAny (model X.prog X.w) A (eval (.Call (.Attribute l m apos) args [] cpos) env) Q E s := by
  rw [arm_eval_Call, hbase]
  refine wpAny_bind (wpAny_mono h (fun ov s1 h1 => ?_) fun _ _ e => e)
  refine wpAny_bind (wpAny_standAt ?_)
  have hpos : methodCallPos true l env apos cpos = pure cpos := by unfold methodCallPos; simp [hline]
  unfold methodCall
  rw [hform]
  refine wpAny_bind (wpAny_holding (wpAny_mono h1 (fun fx s2 h2 => ?_) fun _ _ e => e))
  exact wpAny_bind (wpAny_of_eq hpos h2)
theorem form_ok {S : Sx} {as : MEs} {es : List Expr} (hm : mEs P as S es = true) (hlen : es.length < 20) (env : PySem.Env) (cpos : Pos) : methodCallForm (es.length + ([] : List Keyword).length) (backTo cpos (starEach es env)) (backToKw cpos (keywordEach [] env)) = true := by
  unfold methodCallForm
  rw [mEs_all env cpos hm]
  simp [keywordEach, backToKw]
  omega
theorem spPost {f : String} {F be : List Addr} {h : MHeap} {H : Hp} {σ : St} {ds : List D} {vs : List V} {Q : VK} (rep : Rep X.K F be h H) (rv : RVs X.K F be H ds vs) (p : Post X.K F be H (RV X.K F) ((calls P k).fn f ds h) Q fun x H' => W x σ H') :
    spOf X.K xa P k f vs H Q (WE (wx xa W) σ) := by
  refine ⟨F, be, h, ds, rep, rv, ?_⟩
  cases ho : (calls P k).fn f ds h with
  | ok a h3 => rw [ho] at p; exact p
  | ex x h3 => rw [ho] at p; exact fun H3 be3 x3 rep3 => ⟨x, rfl, rfl, p H3 be3 x3 rep3⟩
  | fail => rw [ho] at p; exact p
theorem e_mcall {f : String} {m : Str} {d : MDef} {apos cpos : Pos} (g : Gd P xa k S W X) (hc : P.cn ≠ "") (hd : P.tab.lookup f = some d) (hmt : P.mth.lookup f = some m) (hrec : plainRecv l = true) (hline : (apos.endLine == cpos.line) = true) (hlen : es.length < 20)
    (hm : mEs P as S es = true) (ho : PE X l (TEo X.K (calls P k) W a)) (ha : PA X es (TAo X.K (calls P k) W as)) : PE X (.Call (.Attribute l m apos) es [] cpos) (TEo X.K (calls P k) W (.mcall f m a as)) := by
  obtain ⟨fa, fd, Fn⟩ := g.fns f d hd
  refine ⟨fun pins s σ H Q I ⟨F, be, h, env, rep, rs, post⟩ => ?_⟩
  simp only [evE, calls_cn] at post
  refine own_call (base_plain hrec m X.env (eval l X.env)) (form_ok hm hlen X.env cpos) hline (thn (ho.run pins s σ H (fun x H1 => ∃ be1 h1 dx, Rep X.K F be1 h1 H1 ∧ RV X.K F be1 H1 dx x ∧ Ext F be H be1 H1 ∧
    Post X.K F be1 H1 (RV X.K F) (if recvO P.cn m dx h1 then (evEs (calls P k) as env h1).bind fun xs h => (calls P k).fn f (dx :: xs) h else .fail) Q (fun x H' => W x σ H')) I
    ⟨F, be, h, env, rep, rs, Post.bind post fun dx h1 x H1 be1 x1 rep1 rx p1 => ⟨be1, h1, dx, rep1, rx, x1, p1⟩⟩) fun u s1 ⟨x, H1, I1, rx, be1, h1, dx, rep1, rd, x1, p1⟩ => ?_)
  split at p1
  · rename_i hrv
    unfold recvO at hrv
    split at hrv
    · rename_i fs e2
      obtain ⟨n, a', dd, vs, rfl, rfl, hb1, _, h3, h4⟩ := insOf_ok rep1 rd e2
      obtain rfl : u = Value.ref a' := rx
      refine getmeth_ok I1 h3 (g.cls hc).cl (Fn.mt m hmt) (h4.lookN (Option.isNone_iff_eq_none.mp hrv)) ?_
      have fin : ∀ s2 us ws H2 be2 h2 ds, Inv X pins σ H2 s2 → Vals ws us → Rep X.K F be2 h2 H2 → RVs X.K F be2 H2 ds ws → Ext F be1 H1 be2 H2 → Post X.K F be2 H2 (RV X.K F) ((calls P k).fn f (.loc n :: ds) h2) Q (fun x H' => W x σ H') →
          wpAny (model X.prog X.w) X.A (call (.ref fa) (.ref a' :: us) []) (EP X pins σ Q) X.xe s2 := by
        intro s2 us ws H2 be2 h2 ds I2 r rep2 rd2 x2 p2
        have sp := spPost (xa := xa) rep2 (.cons (rd.ext x2) rd2) p2
        have hl := Fn.ok.len _ _ _ _ sp
        have r2 : Vals (V.ref a' :: ws) (Value.ref a' :: us) := .cons rfl r
        have := run_fnU (K := X.K) (us := .ref a' :: us) (ws := []) (vs := .ref a' :: ws) (zs := []) g Fn (by rw [← r2.length, hl, List.length_map]; exact Nat.le_refl _) I2 r2 .nil (by rw [List.append_nil]; exact sp)
        simpa using this
      cases es with
      | nil =>
        cases as with
        | cons => simp [mEs] at hm
        | nil =>
          simp only [evEs, Out.bind_ok] at p1
          exact PySem.W.callWith_K0 (first := [.ref a']) I1.kIn Fn.kp (fin s1 [] [] H1 be1 h1 [] I1 .nil rep1 .nil .refl p1)
      | cons e es1 =>
        have hs : starEach (e :: es1) X.env = (false, eval e X.env) :: starEach es1 X.env := by
          cases as with
          | nil => simp [mEs] at hm
          | cons b bs =>
            simp only [mEs, Bool.and_eq_true] at hm
            exact mE_star hm.1 _ _
        have hany : (backTo cpos (starEach es1 X.env)).any (·.1) = false := by
          have := mEs_any X.env cpos hm
          rwa [backTo_one hs] at this
        refine PySem.W.callWith_K (first := [.ref a']) (h₀ := X.base) I.ok.mod.kin Fn.kp (thn (ha.run cpos pins s1 σ H1 (fun ws H2 => ∃ be2 h2 ds, Rep X.K F be2 h2 H2 ∧ RVs X.K F be2 H2 ds ws ∧ Ext F be1 H1 be2 H2 ∧ Post X.K F be2 H2 (RV X.K F) ((calls P k).fn f (.loc n :: ds) h2) Q (fun x H' => W x σ H')) I1
          ⟨F, be1, h1, env, rep1, rs.ext x1, Post.bind p1 fun ds h2 ws H2 be2 x2 rep2 r2 p2 => ⟨be2, h2, ds, rep2, r2, x2, p2⟩⟩) fun us s2 ⟨ws, H2, I2, r, be2, h2, ds, rep2, rd2, x2, p2⟩ => ⟨I2.kIn, ?_⟩) hs hany
        exact fin s2 us ws H2 be2 h2 ds I2 r rep2 rd2 x2 p2
    · cases hrv
  · exact p1.elim
end
end Lt

/-! Lt, part Zb: C(..), len(o), str(o), f-strings. -/
namespace Lt
open PySem PySem.Spec PyProof.Rows L2
variable [Mk]

section
variable {P : Prg} {xa : ExA} {k : Nat} {S : Sx} {W : WW} {X : Cx} {C : Calls} {e l r tg : Expr} {m a b c : ME} {as : MEs} {es : List Expr} {pos p : Pos}
/-! ### C(..) -/
theorem run_makeU {f : String} {d : MDef} {fa : Addr} {fd : FuncData} {pins : List (Addr × Obj)} {σ : St} {H : Hp} {s : Shared} {Q : VK} {us ws : List Value} {vs zs : List V} (g : Gd P xa k S W X) (hc : P.cn ≠ "") (hm : P.mth.lookup f = some ("__init__" : Str)) (Fn : FnF P xa k f d X fa fd) (hl : us.length + 1 ≤ d.ps.length)
    (I : Inv X pins σ H s) (r : Vals vs us) (rz : Vals zs ws) (h : ∀ x dx, H x = none → H dx = none → dx ≠ x → spOf X.K xa P k f (.ref x :: (vs ++ zs)) (upd (upd H dx (.own x)) x (.ins (clsOf X.K P.cn) dx [])) (fun v H2 => v = .non ∧ Q (.ref x) H2) (WE (wx xa W) σ)) :
    wpAny (model X.prog X.w) X.A (call (.ref (clsOf X.K P.cn)) us (((d.ps.map Str.ofString).drop (us.length + 1)).zip ws)) (EP X pins σ Q) X.xe s := by
  have hq := h (s.heap.objs.size + 1) s.heap.objs.size (I.hok.fresh (Nat.le_succ _)) (I.hok.fresh (Nat.le_refl _)) (Nat.ne_of_lt (Nat.lt_succ_self _))
  have M := Fn.mt _ hm
  have I2 := Inv.made (C := clsOf X.K P.cn) I
  have r1 : Vals (V.ref (s.heap.objs.size + 1) :: vs) (Value.ref (s.heap.objs.size + 1) :: us) := .cons rfl r
  have r2 : Vals (V.ref (s.heap.objs.size + 1) :: (vs ++ zs)) (Value.ref (s.heap.objs.size + 1) :: us ++ ws) := r1.append rz
  have hlen : (Value.ref (s.heap.objs.size + 1) :: us ++ ws).length = d.ps.length := by
    rw [← r2.length]
    simpa using Fn.ok.len _ _ _ _ hq
  rw [List.length_append, List.length_cons] at hlen
  have bi := Fn.bi (us.length + 1) { s with heap := (s.heap.push PySem.W.emptyDict).push (PySem.W.instObj (clsOf X.K P.cn) s.heap.objs.size) } (Value.ref (s.heap.objs.size + 1) :: us) ws hl I2.kIn rfl (by omega)
  refine wpAny_call (make_map (f := fa) I.kIn (g.cls hc).makes M.at_ (beq_iff_eq.mp M.fn) (codeAny_mono (Fn.ok.run _ X.stack _ _ ⟨Value.ref (s.heap.objs.size + 1) :: us, _⟩ (Value.ref (s.heap.objs.size + 1) :: us ++ ws) _ _ (WE (wx xa W) σ) ((g.room.mono (show 8 * k + 1 ≤ 8 * k + 4 by omega)).make (clsOf X.K P.cn) us _)
    (I2.env0.make (clsOf X.K P.cn) us _) bi r2 hq) fun r s' hq' => ?_))
  cases r with
  | error e => exact passAt g.tk σ pins _ _ e s' I2 hq'
  | ok fl =>
    cases fl with
    | ret u =>
      obtain ⟨v, H', I3, rv, ev, q3⟩ := I2.after hq'
      subst ev
      exact ⟨rv, ⟨V.ref (s.heap.objs.size + 1), H', I3, rfl, q3⟩⟩
    | next => exact False.elim hq'
    | brk => exact False.elim hq'
    | cont => exact False.elim hq'
theorem mkO_ok {K : PySem.W.Frag} {F be : List Addr} {h : MHeap} {H : Hp} {cn : String} {o : Out D} {Q : VK} {E : String → Hp → Prop} (rep : Rep K F be h H) (p : Post K F be H (RV K F) (mkO h.length o) Q E) {x dx : Addr} (nx : H x = none) (nd : H dx = none) (ne : dx ≠ x) :
    Rep K F (be ++ [x]) (h ++ [.ins cn []]) (upd (upd H dx (.own x)) x (.ins (clsOf K cn) dx [])) ∧ Ext F be H (be ++ [x]) (upd (upd H dx (.own x)) x (.ins (clsOf K cn) dx [])) ∧ RV K F (be ++ [x]) (upd (upd H dx (.own x)) x (.ins (clsOf K cn) dx [])) (.loc h.length) (.ref x) ∧
      Post K F (be ++ [x]) (upd (upd H dx (.own x)) x (.ins (clsOf K cn) dx [])) (RV K F) o (fun v H2 => v = .non ∧ Q (.ref x) H2) E := by
  have nx1 : upd H dx (.own x) x = none := by rw [upd_ne ne.symm]; exact nx
  have x1 : Ext F be H be (upd H dx (.own x)) := Ext.new nd
  have rep1 : Rep K F be h (upd H dx (.own x)) := rep.new nd
  have x2 : Ext F be (upd H dx (.own x)) (be ++ [x]) (upd (upd H dx (.own x)) x (.ins (clsOf K cn) dx [])) := Ext.newL nx1
  have rep2 : Rep K F (be ++ [x]) (h ++ [.ins cn []]) (upd (upd H dx (.own x)) x (.ins (clsOf K cn) dx [])) := rep1.newL nx1 (.ins upd_same .nil)
  have hl : (be ++ [x])[h.length]? = some x := by rw [← rep.len]; simp
  refine ⟨rep2, x1.trans x2, .loc hl, ?_⟩
  cases o with
  | fail => exact p
  | ok v h' =>
    cases v with
    | non =>
      intro c H' be' x3 rep3 rc
      cases rc
      exact ⟨rfl, p _ H' be' ((x1.trans x2).trans x3) rep3 ((RV.loc hl).ext x3)⟩
    | _ => exact p.elim
  | ex e h' =>
    intro H' be' x3 rep3
    simp only [mkO] at p
    split at p
    · rename_i z
      simp only [Bool.and_eq_true, decide_eq_true_eq] at z
      obtain ⟨y, rep4⟩ := truncBack rep ((x1.trans x2).trans x3) rep3 z.1 z.2
      exact p H' be y rep4
    · exact p.elim
theorem e_make {f : String} {d : MDef} {kws : List Keyword} {ks : List Str} {kes : List Expr} {bs cs : MEs} (g : Gd P xa k S W X) (hc : P.cn ≠ "") (hg : glB S.sc (Str.ofString P.cn) = true) (hd : P.tab.lookup f = some d) (hmt : P.mth.lookup f = some ("__init__" : Str)) (hk : kwsOf kws = some (ks, kes))
    (hps : (d.ps.map Str.ofString).drop (es.length + 1) = ks) (hm : mEs P bs S es = true) (hl : es.length + 1 ≤ d.ps.length) (ha : PA X es (TAo X.K (calls P k) W bs)) (hkw : PK X kws (TAo X.K (calls P k) W cs)) :
    PE X (.Call (.Name (Str.ofString P.cn) p) es kws pos) (TEo X.K (calls P k) W (.make f (bs.app cs))) := by
  obtain ⟨fa, fd, Fn⟩ := g.fns f d hd
  have Cf := g.cls hc
  obtain ⟨k1, k2, k3, k4⟩ := kws_facts (P := P) (S := S) X.env pos hk
  refine ⟨fun pins s σ H Q I ⟨F, be, h, env, rep, rs, post⟩ => ?_⟩
  simp only [evE, evEs_app, Out.assoc, Out.bind_ok, calls_cn] at post
  refine wpAny_Call_Name_kw (ld_glob I (g.gl hg) Cf.mg ?_ (glB_ok hg).2)
  have fin : ∀ s2 us vs ws zs H2 be2 h2 ds es', Inv X pins σ H2 s2 → us.length = es.length → Vals vs us → Vals zs ws → Rep X.K F be2 h2 H2 → RVs X.K F be2 H2 ds vs → RVs X.K F be2 H2 es' zs → Ext F be H be2 H2 → Post X.K F be2 H2 (RV X.K F) (mkO h2.length ((calls P k).fn f (.loc h2.length :: (ds ++ es')) (h2 ++ [.ins P.cn []]))) Q (fun x H' => W x σ H') →
      wpAny (model X.prog X.w) X.A (call (.ref (clsOf X.K P.cn)) ([] ++ us) (ks.zip ws)) (EP X pins σ Q) X.xe s2 := by
    intro s2 us vs ws zs H2 be2 h2 ds es' I2 hlu r rz rep2 rd re x2 p2
    rw [← hps, ← hlu]
    refine run_makeU (us := us) g hc hmt Fn (by rw [hlu]; exact hl) I2 r rz fun x dx nx ndx ne => ?_
    obtain ⟨q1, q2, q3, q4⟩ := mkO_ok (cn := P.cn) rep2 p2 nx ndx ne
    exact spPost q1 (.cons q3 ((rd.append re).ext q2)) q4
  cases hes : es with
  | nil =>
    subst hes
    cases bs with
    | cons => simp [mEs] at hm
    | nil =>
      simp only [evEs, Out.bind_ok] at post
      refine PySem.W.callWith_KW0 (h₀ := X.base) I.ok.mod.kin Cf.kp k1 ?_ (by rw [k3]; rfl)
      refine thn (hkw.run pos pins s σ H (fun zs H2 => ∃ be2 h2 es', Rep X.K F be2 h2 H2 ∧ RVs X.K F be2 H2 es' zs ∧ Ext F be H be2 H2 ∧ Post X.K F be2 H2 (RV X.K F) (mkO h2.length ((calls P k).fn f (.loc h2.length :: ([] ++ es')) (h2 ++ [.ins P.cn []]))) Q (fun x H' => W x σ H')) I ⟨F, be, h, env, rep, rs, Post.bind post fun es' h2 zs H2 be2 x2 rep2 r2 p2 => ⟨be2, h2, es', rep2, r2, x2, p2⟩⟩)
        fun ws s2 ⟨zs, H2, I2, rz, be2, h2, es', rep2, r2, x2, p2⟩ => ⟨I2.kIn, ?_⟩
      rw [k2]
      exact fin s2 [] [] ws zs H2 be2 h2 [] es' I2 rfl .nil rz rep2 .nil r2 x2 p2
  | cons e es1 =>
    subst hes
    have hs : starEach (e :: es1) X.env = (false, eval e X.env) :: starEach es1 X.env := by
      cases bs with
      | nil => simp [mEs] at hm
      | cons b bs =>
        simp only [mEs, Bool.and_eq_true] at hm
        exact mE_star hm.1 _ _
    have hany := mEs_any X.env pos hm
    refine PySem.W.callWith_KW (h₀ := X.base) I.ok.mod.kin Cf.kp k1 ?_ (by rw [hany, k3]; rfl) hs
    refine thn (ha.run pos pins s σ H (fun vs H1 => ∃ be1 h1 ds, Rep X.K F be1 h1 H1 ∧ RVs X.K F be1 H1 ds vs ∧ Ext F be H be1 H1 ∧ vs.length = (e :: es1).length ∧ Post X.K F be1 H1 (RV X.K F) ((evEs (calls P k) cs env h1).bind fun ys h2 => mkO h2.length ((calls P k).fn f (.loc h2.length :: (ds ++ ys)) (h2 ++ [.ins P.cn []]))) Q (fun x H' => W x σ H')) I ⟨F, be, h, env, rep, rs, Post.bindE post fun ds h1 vs H1 be1 e1 x1 rep1 r1 p1 => ⟨be1, h1, ds, rep1, r1, x1, by rw [← r1.length]; exact evEs_len hm e1, p1⟩⟩)
      fun us s1 ⟨vs, H1, I1, r, be1, h1, ds, rep1, r1, x1, hlv, p1⟩ => ?_
    · refine thn (hkw.run pos pins s1 σ H1 (fun zs H2 => ∃ be2 h2 es', Rep X.K F be2 h2 H2 ∧ RVs X.K F be2 H2 es' zs ∧ Ext F be1 H1 be2 H2 ∧ Post X.K F be2 H2 (RV X.K F) (mkO h2.length ((calls P k).fn f (.loc h2.length :: (ds ++ es')) (h2 ++ [.ins P.cn []]))) Q (fun x H' => W x σ H')) I1 ⟨F, be1, h1, env, rep1, rs.ext x1, Post.bind p1 fun es' h2 zs H2 be2 x2 rep2 r2 p2 => ⟨be2, h2, es', rep2, r2, x2, p2⟩⟩)
        fun ws s2 ⟨zs, H2, I2, rz, be2, h2, es', rep2, r2, x2, p2⟩ => ⟨I2.kIn, ?_⟩
      rw [k2]
      exact fin s2 us vs ws zs H2 be2 h2 ds es' I2 (by rw [← r.length]; exact hlv) r rz rep2 (r1.ext x2) r2 (x1.trans x2) p2
end
end Lt

/-! Lt, part Zc: len(o), str(o), f-strings. -/
namespace Lt
open PySem PySem.Spec PyProof.Rows L2
variable [Mk]

section
variable {P : Prg} {xa : ExA} {k : Nat} {S : Sx} {W : WW} {X : Cx} {C : Calls} {e l r tg : Expr} {m a b c : ME} {as : MEs} {es : List Expr} {pos p : Pos}
/-! ### len(o), str(o) -/
/-- what an own method of one object promises, no exception served -/
def rOwn (P : Prg) (xa : ExA) (k : Nat) (K : PySem.W.Frag) (f : String) (ok : V → Prop) : List V → Hp → VK → Prop := fun xs H Q => ∃ a dx vs, xs = [.ref a] ∧ H a = some (.ins (clsOf K P.cn) dx vs) ∧ ∀ σ, spOf K xa P k f [.ref a] H (fun v H2 => ok v ∧ Q v H2) (WE (wx xa noW) σ)
theorem run_own {f : String} {d : MDef} {fa : Addr} {fd : FuncData} {pins : List (Addr × Obj)} {σ : St} {H : Hp} {s : Shared} {Q : VK} {A : Around} (hr : Room (8 * k) A) (hA : A.frames = X.A.frames) (Fn : FnF P xa k f d X fa fd) {a : Addr}
    (I : Inv X pins σ H s) (h : spOf X.K xa P k f [.ref a] H Q (WE (wx xa noW) σ)) : wpAny (model X.prog X.w) A (call (.ref fa) [.ref a] []) (EP X pins σ Q) X.xe s := by
  have hlen := Fn.ok.len _ _ _ _ h
  rw [List.length_map] at hlen
  have e0 : Env0 X.prog X.w X.K X.mg X.base A X.stack s H := by
    have e := I.env0
    exact ⟨by rw [hA]; exact e.frames, e.mod, e.bs, e.bsz, e.funs, e.frf, e.hok, e.bare⟩
  have bi := Fn.bi 1 s [.ref a] [] (by rw [← hlen]; exact Nat.le_refl _) I.kIn rfl (by rw [← hlen]; rfl)
  rw [List.zip_nil_right] at bi
  refine wpAny_call (codeAny_mono (Fn.ok.run A X.stack s H ⟨[.ref a], []⟩ [.ref a] [.ref a] Q _ hr e0 (by simpa using bi) (.cons rfl .nil) h) fun r s' hq => ?_)
  cases r with
  | error e => exact passAt (takesN (X := X) (xa := xa)) σ pins H s e s' I hq
  | ok fl =>
    cases fl with
    | ret u => exact I.after hq
    | next => exact False.elim hq
    | brk => exact False.elim hq
    | cont => exact False.elim hq
def okLen (v : V) : Prop := ∃ i : Int, v = .int i ∧ 0 ≤ i ∧ i < 9223372036854775808
def okStr (v : V) : Prop := ∃ y : Str, v = .str y
theorem call_lenO {f : String} {d : MDef} {fa : Addr} {fd : FuncData} (hr : Room (8 * k + 4) X.A) (Fn : FnF P xa k f d X fa fd) (hm : P.mth.lookup f = some ("__len__" : Str)) : CallR X (.builtin "len") (rOwn P xa k X.K f okLen) := by
  intro pins s σ H xs us Q I r h
  obtain ⟨a, dx, vs, rfl, ha, h⟩ := h
  cases r with
  | cons r1 r2 =>
  cases r1
  cases r2
  have M := Fn.mt _ hm
  obtain ⟨mA, J, _⟩ := ins_get I.hok ha
  obtain ⟨od, J, _⟩ := J.look
  obtain ⟨mm, hF⟩ := I.fr
  refine PySem.W.len_K hF I.ok.mod.kin J M.at_ M.fn ?_
  refine wpAny_mono (run_own (A := X.A.in1) ((hr.mono (show 8 * k + 1 ≤ 8 * k + 4 by omega)).in1) rfl Fn I (h σ)) (fun u s' hu => ?_) fun _ _ z => z
  obtain ⟨v, H', I', rv, ⟨i, rfl, h0, h1⟩, q⟩ := hu
  obtain ⟨t, rfl⟩ := rv
  exact ⟨⟨h0, by omega⟩, .int i, H', I'.tok _, ⟨_, rfl⟩, q⟩
theorem call_strO {f : String} {d : MDef} {fa : Addr} {fd : FuncData} (hr : Room (8 * k + 4) X.A) (Fn : FnF P xa k f d X fa fd) (hm : P.mth.lookup f = some ("__str__" : Str)) : CallR X (.type "str") (rOwn P xa k X.K f okStr) := by
  intro pins s σ H xs us Q I r h
  obtain ⟨a, dx, vs, rfl, ha, h⟩ := h
  cases r with
  | cons r1 r2 =>
  cases r1
  cases r2
  have M := Fn.mt _ hm
  obtain ⟨mA, J, _⟩ := ins_get I.hok ha
  obtain ⟨od, J, _⟩ := J.look
  have hr2 : Room (8 * k) X.A.in1.in1 := ((hr.mono (show 8 * k + 1 + 1 ≤ 8 * k + 4 by omega)).in1).in1
  refine PySem.W.kso_call hr2.units0 I.kIn J M.at_ M.fn ?_
  refine wpAny_mono (run_own (A := X.A.in1.in1) hr2 rfl Fn I (h σ)) (fun u s' hu => ?_) fun _ _ z => z
  obtain ⟨v, H', I', rv, ⟨i, rfl⟩, q⟩ := hu
  obtain ⟨t, rfl⟩ := rv
  exact ⟨.str i, H', I', ⟨_, rfl⟩, q⟩
theorem ownPost {f : String} {B : Out D → Out D} {ok : V → Prop} (hB : ∀ {K : PySem.W.Frag} {F be : List Addr} {H : Hp} {Q : VK} {E : String → Hp → Prop} {o : Out D}, Post K F be H (RV K F) (B o) Q E → Post K F be H (RV K F) o (fun v H2 => ok v ∧ Q v H2) fun _ _ => False)
    {F be : List Addr} {h : MHeap} {H : Hp} {dx : D} {x : V} {Q : VK} {E : String → Hp → Prop} (rep : Rep X.K F be h H) (rx : RV X.K F be H dx x) (p : Post X.K F be H (RV X.K F) (if (insOf P.cn h dx).isSome then B ((calls P k).fn f [dx] h) else .fail) Q E) : rOwn P xa k X.K f ok [x] H Q := by
  split at p
  · rename_i z
    obtain ⟨fs, e⟩ := Option.isSome_iff_exists.mp z
    obtain ⟨n, a', dd, vs, rfl, rfl, _, _, h3, h4⟩ := insOf_ok rep rx e
    refine ⟨a', dd, vs, rfl, h3, fun σ => spPost rep (.cons rx .nil) ?_⟩
    exact hB p
  · exact p.elim
theorem lenB_ok {K : PySem.W.Frag} {F be : List Addr} {H : Hp} {Q : VK} {E : String → Hp → Prop} {o : Out D} (p : Post K F be H (RV K F) (lenB o) Q E) : Post K F be H (RV K F) o (fun v H2 => okLen v ∧ Q v H2) fun _ _ => False := by
  cases o with
  | ok d h =>
    cases d with
    | int i =>
      simp only [lenB] at p
      split at p
      · rename_i z
        simp only [Bool.and_eq_true, decide_eq_true_eq] at z
        intro c H' be' x rep rv
        have rv' := rv
        cases rv
        exact ⟨⟨i, rfl, z.1, z.2⟩, p _ H' be' x rep rv'⟩
      · exact p.elim
    | _ => exact p.elim
  | ex => exact p.elim
  | fail => exact p.elim
theorem strB_ok {K : PySem.W.Frag} {F be : List Addr} {H : Hp} {Q : VK} {E : String → Hp → Prop} {o : Out D} (p : Post K F be H (RV K F) (strB o) Q E) : Post K F be H (RV K F) o (fun v H2 => okStr v ∧ Q v H2) fun _ _ => False := by
  cases o with
  | ok d h =>
    cases d with
    | str i =>
      intro c H' be' x rep rv
      have rv' := rv
      cases rv
      exact ⟨⟨i, rfl⟩, p _ H' be' x rep rv'⟩
    | _ => exact p.elim
  | ex => exact p.elim
  | fail => exact p.elim
theorem e_lenO {f : String} {d : MDef} (g : Gd P xa k S W X) (hd : P.tab.lookup f = some d) (hmt : P.mth.lookup f = some ("__len__" : Str)) (hg : glB S.sc ("len" : Str) = true) (hs : starEach [l] X.env = [(false, eval l X.env)]) (ho : PE X l (TEo X.K (calls P k) W a)) :
    PE X (.Call (.Name ("len" : Str) p) [l] [] pos) (TEo X.K (calls P k) W (.lenO f a)) := by
  obtain ⟨fa, fd, Fn⟩ := g.fns f d hd
  obtain ⟨b1, b2, b3⟩ := boot_blt (f := "len") rfl
  refine PE.mono' (pe_callB (call_lenO g.room Fn hmt) (g.gl hg) (g.blt "len" (by decide +kernel)) b1 (pa_cons ho pa_nil hs) b2 b3 hs rfl) fun σ H Q ⟨F, be, h, env, rep, rs, post⟩ => ⟨F, be, h, env, rep, rs, ?_⟩
  simp only [evE, calls_cn] at post
  exact Post.bind post fun dx h1 x H1 be1 x1 rep1 rx p1 => ownPost lenB_ok rep1 rx p1
theorem e_strO {f : String} {d : MDef} (g : Gd P xa k S W X) (hd : P.tab.lookup f = some d) (hmt : P.mth.lookup f = some ("__str__" : Str)) (hg : glB S.sc ("str" : Str) = true) (hs : starEach [l] X.env = [(false, eval l X.env)]) (ho : PE X l (TEo X.K (calls P k) W a)) :
    PE X (.Call (.Name ("str" : Str) p) [l] [] pos) (TEo X.K (calls P k) W (.strO f a)) := by
  obtain ⟨fa, fd, Fn⟩ := g.fns f d hd
  refine PE.mono' (pe_callTy (call_strO g.room Fn hmt) (g.gl hg) (g.blt "str" (by decide +kernel)) (by decide +kernel) (pa_cons ho pa_nil hs) (by decide +kernel) (by decide +kernel) hs rfl) fun σ H Q ⟨F, be, h, env, rep, rs, post⟩ => ⟨F, be, h, env, rep, rs, ?_⟩
  simp only [evE, calls_cn] at post
  exact Post.bind post fun dx h1 x H1 be1 x1 rep1 rx p1 => ownPost strB_ok rep1 rx p1

/-! ### f-strings -/
inductive PFs (X : Cx) (C : Calls) (W : WW) : MEs → List Expr → Prop
  | nil : PFs X C W .nil []
  | fmt {a : ME} {as : MEs} {e : Expr} {es : List Expr} {p : Pos} : PE X e (TEo X.K C W a) → PFs X C W as es → PFs X C W (.cons a as) (.FormattedValue e (-1) none p :: es)
  | con {s : Str} {as : MEs} {e : Expr} {es : List Expr} : PE X e (TEo X.K C W (.str s)) → PFs X C W as es → PFs X C W (.cons (.str s) as) (e :: es)
def sEq : List Addr → Hp → Str → Str → Prop := fun _ _ a c => a = c
theorem addF_ok {acc s : Str} {x : D} (e : addF acc x = some s) : ∃ y, txtD x = some y ∧ s = acc ++ y ∧ y.length ≤ sizeLine ∧ (acc ++ y).length ≤ sizeLine := by
  unfold addF at e
  split at e
  · rename_i y ey
    split at e
    · rename_i z
      simp only [Bool.and_eq_true, decide_eq_true_eq] at z
      cases e
      exact ⟨y, ey, rfl, Nat.le_trans z.1 (by decide), Nat.le_trans z.2 (by decide)⟩
    · cases e
  · cases e
theorem PFs.run : ∀ {as : MEs} {es : List Expr}, PFs X C W as es → ∃ ts, PJ X es ts ∧ ∀ (acc : Str) (σ : St) (H : Hp) (Q : Str → Hp → Prop), (∃ F be h env, Rep X.K F be h H ∧ RSl X.K F be H env σ ∧ Post X.K F be H sEq (evF C as acc env h) Q (fun x H' => W x σ H')) → tJs ts acc σ H Q
  | _, _, .nil => ⟨[], .nil, fun acc σ H Q ⟨F, be, h, env, rep, rs, post⟩ => Post.ok post rep rfl⟩
  | _, _, .fmt (a := a) (as := as) pe r => by
    obtain ⟨ts, pj, hr⟩ := PFs.run r
    refine ⟨_ :: ts, .cons (pe_fmt pe) pj, fun acc σ H Q ⟨F, be, h, env, rep, rs, post⟩ => ⟨F, be, h, env, rep, rs, ?_⟩⟩
    simp only [evF] at post
    refine Post.bind post fun dx h1 x H1 be1 x1 rep1 rx p1 => ?_
    have ne : ∃ acc', addF acc dx = some acc' := by
      cases q : addF acc dx with
      | none => rw [q] at p1; exact p1.elim
      | some s => exact ⟨s, rfl⟩
    obtain ⟨acc', ea⟩ := ne
    obtain ⟨y, ey, rfl, l1, l2⟩ := addF_ok ea
    rw [ea] at p1
    have rest : tJs ts (acc ++ y) σ H1 Q := hr (acc ++ y) σ H1 Q ⟨F, be1, h1, env, rep1, rs.ext x1, p1⟩
    unfold txtD at ey
    split at ey
    · cases ey
      cases rx
      exact .inl ⟨_, rfl, l1, _, rfl, l2, rest⟩
    · rename_i i
      split at ey
      · rename_i hi
        cases ey
        cases rx
        refine .inr ⟨i, rfl, ?_, _, rfl, l2, rest⟩
        by_cases hz : i.natAbs = 0
        · rw [hz]; decide
        · exact Nat.lt_of_lt_of_le ((Nat.log2_lt hz).mpr hi) (by decide)
      · cases ey
    · cases ey
  | _, _, .con (s := s) (as := as) pe r => by
    obtain ⟨ts, pj, hr⟩ := PFs.run r
    refine ⟨_ :: ts, .cons pe pj, fun acc σ H Q ⟨F, be, h, env, rep, rs, post⟩ => ⟨F, be, h, env, rep, rs, ?_⟩⟩
    simp only [evF] at post
    refine Post.bindE post fun dx h1 x H1 be1 e0 x1 rep1 rx p1 => ?_
    simp only [evE, Out.ok.injEq] at e0
    obtain ⟨rfl, rfl⟩ := e0
    cases rx
    have ne : ∃ acc', addF acc (.str s) = some acc' := by
      cases q : addF acc (.str s) with
      | none => rw [q] at p1; exact p1.elim
      | some s => exact ⟨s, rfl⟩
    obtain ⟨acc', ea⟩ := ne
    obtain ⟨y, ey, rfl, l1, l2⟩ := addF_ok ea
    rw [ea] at p1
    cases ey
    exact ⟨s, rfl, l2, hr (acc ++ s) σ H1 Q ⟨F, be1, h, env, rep1, rs.ext x1, p1⟩⟩
theorem e_fstr {v1 v2 : Expr} {vs : List Expr} (h : PFs X C W as (v1 :: v2 :: vs)) : PE X (.JoinedStr (v1 :: v2 :: vs) pos) (TEo X.K C W (.fstr as)) := by
  obtain ⟨ts, pj, hr⟩ := h.run
  refine PE.mono' (pe_joined pj) fun σ H Q ⟨F, be, h, env, rep, rs, post⟩ => hr _ σ H _ ⟨F, be, h, env, rep, rs, ?_⟩
  simp only [evE] at post
  exact Post.bind post fun a h1 c H1 be1 x1 rep1 rx p1 => by
    cases rx
    exact Post.ok p1 rep1 (.str a)
end
end Lt

/-! Lt, part P: every expression that matches. -/
namespace Lt
open PySem PySem.Spec PyProof.Rows L2
variable [Mk]
section
variable {P : Prg} {xa : ExA} {k : Nat}
inductive PEs (X : Cx) (C : Calls) (W : WW) : MEs → List Expr → Prop
  | nil : PEs X C W .nil []
  | cons {a : ME} {as : MEs} {e : Expr} {es : List Expr} : PE X e (TEo X.K C W a) → PT X e (TTo X.K C W a) → (∀ (es : List Expr) (env : PySem.Env), starEach (e :: es) env = (false, eval e env) :: starEach es env) → PEs X C W as es → PEs X C W (.cons a as) (e :: es)
variable {S : Sx} {W : WW} {X : Cx} {C : Calls}
theorem PEs.pa : ∀ {as : MEs} {es : List Expr}, PEs X C W as es → PA X es (TAo X.K C W as)
  | _, _, .nil => a_nil
  | _, _, .cons h _ s t => a_cons h (PEs.pa t) (s _ _)
theorem PEs.pk : ∀ {as : MEs} {kws : List Keyword} {ks : List Str} {es : List Expr}, kwsOf kws = some (ks, es) → PEs X C W as es → PK X kws (TAo X.K C W as)
  | as, [], ks, es, h, p => by
    simp only [kwsOf, Option.some.injEq, Prod.mk.injEq] at h
    obtain ⟨rfl, rfl⟩ := h
    cases p
    exact PK.mono' pk_nil fun σ H Q ⟨F, be, h, env, rep, rs, post⟩ => Post.ok post rep .nil
  | as, ⟨some n, e, q⟩ :: r, ks, es, h, p => by
    simp only [kwsOf, Option.map_eq_some_iff] at h
    obtain ⟨⟨ks', es'⟩, h1, h2⟩ := h
    simp only [Prod.mk.injEq] at h2
    obtain ⟨rfl, rfl⟩ := h2
    cases p with
    | cons h _ _ t =>
    exact PK.mono' (pk_cons h (PEs.pk h1 t)) fun σ H Q ⟨F, be, h, env, rep, rs, post⟩ => ⟨F, be, h, env, rep, rs, Post.bind post fun dx h1 x H1 be1 x1 rep1 rx p1 =>
      ⟨F, be1, h1, env, rep1, rs.ext x1, p1.bind fun ds h2 vs H2 be2 x2 rep2 rv p2 => p2.ok rep2 (.cons (rx.ext x2) rv)⟩⟩
  | as, ⟨none, e, q⟩ :: r, ks, es, h, p => by simp [kwsOf] at h
theorem PEs.split : ∀ {bs cs : MEs} {es fs : List Expr}, mEs P bs S es = true → PEs X C W (bs.app cs) (es ++ fs) → PEs X C W bs es ∧ PEs X C W cs fs
  | .nil, cs, [], fs, _, p => ⟨.nil, p⟩
  | .nil, cs, _ :: _, fs, h, _ => by simp [mEs] at h
  | .cons _ _, cs, [], fs, h, _ => by simp [mEs] at h
  | .cons a bs, cs, e :: es, fs, h, p => by
    simp only [mEs, Bool.and_eq_true] at h
    cases p with
    | cons h1 h2 h3 t =>
      obtain ⟨q1, q2⟩ := PEs.split h.2 t
      exact ⟨.cons h1 h2 h3 q1, q2⟩
theorem PEs.and {pos : Pos} : ∀ {a : ME} {as : MEs} {e : Expr} {es : List Expr}, PEs X C W (.cons a as) (e :: es) → PE X (.BoolOp .And (e :: es) pos) (TEo X.K C W (.and (.cons a as))) ∧ PW X (.BoolOp .And (e :: es) pos) (TTo X.K C W (.and (.cons a as)))
  | a, .nil, e, [], .cons h1 h2 _ .nil => ⟨PE.mono' (e_bool1 h1) fun σ H Q z => z, w_and1 h2⟩
  | a, .cons b as, e, e2 :: es, .cons h1 h2 _ t => ⟨e_and h1 (PEs.and t).1, w_and h2 (PEs.and t).2⟩
theorem PEs.or {pos : Pos} : ∀ {a : ME} {as : MEs} {e : Expr} {es : List Expr}, PEs X C W (.cons a as) (e :: es) → PE X (.BoolOp .Or (e :: es) pos) (TEo X.K C W (.or (.cons a as))) ∧ PW X (.BoolOp .Or (e :: es) pos) (TTo X.K C W (.or (.cons a as)))
  | a, .nil, e, [], .cons h1 h2 _ .nil => ⟨PE.mono' (e_bool1 h1) fun σ H Q z => z, w_or1 h2⟩
  | a, .cons b as, e, e2 :: es, .cons h1 h2 _ t => ⟨e_or h1 (PEs.or t).1, w_or h2 (PEs.or t).2⟩
theorem PEs.l : ∀ {as : MEs} {es : List Expr}, es.length ≤ 1 → PEs X C noW as es → PTs X es (TLo X.K C as)
  | _, _, _, .nil => l_nil
  | _, [_], _, .cons h1 h2 _ .nil => l_one h2
  | _, _ :: _ :: _, hl, _ => by simp at hl
theorem mEs_star {as : MEs} {e : Expr} {es : List Expr} (h : mEs P as S (e :: es) = true) (env : PySem.Env) : starEach (e :: es) env = (false, eval e env) :: starEach es env := by
  cases as with
  | nil => simp [mEs] at h
  | cons a as =>
    simp only [mEs, Bool.and_eq_true] at h
    exact mE_star h.1 _ env
theorem mEs_any1 {as : MEs} {e : Expr} {es : List Expr} (h : mEs P as S (e :: es) = true) (env : PySem.Env) (pos : Pos) : (backTo pos (starEach es env)).any (·.1) = false := by
  have z := mEs_any env pos h
  rw [backTo_one (mEs_star h env)] at z
  exact z
abbrev Both (X : Cx) (C : Calls) (W : WW) (m : ME) (e : Expr) : Prop := PE X e (TEo X.K C W m) ∧ PT X e (TTo X.K C W m)
theorem both_of {m : ME} {e : Expr} (h : PE X e (TEo X.K C W m)) (he : ∀ whole, isTrue e X.env whole = (do let v ← whole; standAt e.pos; holding [v] (truthy v))) : Both X C W m e := ⟨h, PT.ofE h he⟩
theorem slots_own {scope : Scope} {vs : List Nat} (h : blkB S scope vs = true) (g : Gd P xa k S W X) : BlkOk X.N X.env.scope scope (ownOf S vs) ∧ (ownOf S vs).map (·.2) = vs := by
  simp only [blkB, Bool.and_eq_true, decide_eq_true_eq] at h
  rw [g.N, g.sc]
  exact ⟨blkOk_by h.2, h.1⟩
theorem noFold {i : Expr} (h : notSet i = true) (env : PySem.Env) (x : Value) : foldedSetIterable i env x = pure x := by
  cases i with
  | Set => simp [notSet] at h
  | _ => rfl
theorem Gd.lam {S : Sx} {W : WW} {X : Cx} (g : Gd P xa k S W X) (A : Around) (outer : List PySem.Env) (s : Shared) (H : Hp) (E : XK) (scope : Scope) (f c' : Addr) (hr : Room (8 * k + 4) (A.deeper (LamX.lamEnv X scope s.heap.objs.size f c'))) :
    Gd P xa k (lamS S scope) (fun x _ H' => E (xa x) none H') (LamX.lamCx X A outer s H E scope f c') where
  N := g.N
  nd := g.nd
  sc := rfl
  fn := rfl
  calm := rfl
  room := hr
  fns := fun f d h => by
    obtain ⟨a, fd, F⟩ := g.fns f d h
    exact ⟨a, fd, ⟨F.mg, F.mt, F.kp, F.bi, F.ok⟩⟩
  cst := g.cst
  blt := g.blt
  tcs := g.tcs
  xaE := g.xaE
  exs := g.exs
  cls := g.cls
  hrd := fun z => nomatch z
  tk := Takes.imp (takes_of (X := LamX.lamCx X A outer s H E scope f c') (E := E) (E₁ := fun e' s'' => L2.CX X.prog X.w outer H s E e' s'') rfl rfl rfl rfl) fun c d σ G ⟨x, e1, e2, z⟩ => by
    subst e1 e2
    exact z
mutual
theorem sndE : ∀ (m : ME) {S : Sx} {e : Expr} {W : WW} {X : Cx}, mE P m S e = true → Gd P xa k S W X → Both X (calls P k) W m e
  | .var i, S, e, W, X, h, g => by
    have q := e_var (C := calls P k) h g
    simp only [mE] at h
    split at h
    · exact both_of q fun _ => rfl
    · cases h
  | .non, S, e, W, X, h, g => by
    have q := e_non (X := X) (C := calls P k) (W := W) h
    simp only [mE] at h
    split at h
    · exact both_of q fun _ => rfl
    · cases h
  | .bl b, S, e, W, X, h, g => by
    have q := e_bl (X := X) (C := calls P k) (W := W) h
    simp only [mE] at h
    split at h
    · exact both_of q fun _ => rfl
    · cases h
  | .int b, S, e, W, X, h, g => by
    have q := e_int (X := X) (C := calls P k) (W := W) h
    simp only [mE] at h
    split at h
    · exact both_of q fun _ => rfl
    · cases h
  | .str b, S, e, W, X, h, g => by
    have q := e_str (X := X) (C := calls P k) (W := W) h
    simp only [mE] at h
    split at h
    · exact both_of q fun _ => rfl
    · cases h
  | .glob x, S, e, W, X, h, g => by
    have q := e_glob h g
    simp only [mE] at h
    split at h
    · exact both_of q fun _ => rfl
    · cases h
  | .ty n, S, e, W, X, h, g => by
    have q := e_ty (C := calls P k) h g
    simp only [mE] at h
    split at h
    · exact both_of q fun _ => rfl
    · cases h
  | .heard b, S, e, W, X, h, g => by
    simp only [mE] at h
    split at h
    · simp only [Bool.and_eq_true, decide_eq_true_eq] at h
      obtain ⟨⟨⟨⟨⟨rfl, h1⟩, h2⟩, h3⟩, h4⟩, h5⟩ := h
      exact both_of (e_heard g h1 h2 h3 h4 fun A outer s H E f c' hr => (sndE b h5 (Gd.lam g A outer s H E _ f c' hr)).1) fun _ => rfl
    · cases h
  | .inG neg a x, S, e, W, X, h, g => by
    simp only [mE] at h
    split at h
    · simp only [Bool.and_eq_true, decide_eq_true_eq] at h
      obtain ⟨⟨⟨⟨rfl, rfl⟩, h1⟩, h3⟩, h2⟩ := h
      obtain ⟨ws, hw⟩ := Option.isSome_iff_exists.mp h3
      exact ⟨e_inG g hw h1 (sndE a h2 g).1, t_inG g hw h1 (sndE a h2 g).1⟩
    · cases h
  | .isx a y, S, e, W, X, h, g => by
    simp only [mE] at h
    split at h
    · simp only [Bool.and_eq_true, decide_eq_true_eq] at h
      obtain ⟨⟨⟨⟨⟨⟨rfl, h1⟩, rfl⟩, h2⟩, h3⟩, h4⟩, h5⟩ := h
      exact both_of (e_isx g h3 h4 h1 h2 (mE_star h5 _ X.env) (fun env => mE_star h5 _ env) (sndE a h5 g).1) fun _ => rfl
    · cases h
  | .bin own op a b, S, e, W, X, h, g => by
    simp only [mE] at h
    split at h
    · simp only [Bool.and_eq_true, decide_eq_true_eq] at h
      obtain ⟨⟨rfl, h1⟩, h2⟩ := h
      exact both_of (e_bin (sndE a h1 g).1 (sndE b h2 g).1) fun _ => rfl
    · cases h
  | .neg a, S, e, W, X, h, g => by
    simp only [mE] at h
    split at h
    · exact both_of (e_neg (sndE a h g).1) fun _ => rfl
    · cases h
  | .not a, S, e, W, X, h, g => by
    simp only [mE] at h
    split at h
    · exact ⟨e_not (sndE a h g).1, t_not (sndE a h g).2⟩
    · cases h
  | .and .nil, S, e, W, X, h, g => by
    simp only [mE] at h
    split at h
    · rename_i es _
      exact ⟨⟨fun pins s σ H Q I ⟨F, be, h, env, rep, rs, post⟩ => post.elim⟩, ⟨fun pins s σ H Q I ⟨F, be, h, env, rep, rs, post⟩ => post.elim⟩⟩
    · cases h
  | .and (.cons a as), S, e, W, X, h, g => by
    simp only [mE] at h
    split at h
    · rename_i es _
      have q := sndL (.cons a as) h g
      cases es with
      | nil => simp [mEs] at h
      | cons e es => exact ⟨q.and.1, (q.and).2.pt⟩
    · cases h
  | .or .nil, S, e, W, X, h, g => by
    simp only [mE] at h
    split at h
    · rename_i es _
      exact ⟨⟨fun pins s σ H Q I ⟨F, be, h, env, rep, rs, post⟩ => post.elim⟩, ⟨fun pins s σ H Q I ⟨F, be, h, env, rep, rs, post⟩ => post.elim⟩⟩
    · cases h
  | .or (.cons a as), S, e, W, X, h, g => by
    simp only [mE] at h
    split at h
    · rename_i es _
      have q := sndL (.cons a as) h g
      cases es with
      | nil => simp [mEs] at h
      | cons e es => exact ⟨q.or.1, (q.or).2.pt⟩
    · cases h
  | .ite c a b, S, e, W, X, h, g => by
    simp only [mE] at h
    split at h
    · simp only [Bool.and_eq_true] at h
      obtain ⟨⟨h1, h2⟩, h3⟩ := h
      have q1 := sndE c h1 g
      have q2 := sndE a h2 g
      have q3 := sndE b h3 g
      exact ⟨e_ite q1.2 q2.1 q3.1, t_ite q1.2 q2.2 q3.2⟩
    · cases h
  | .cmp op a b, S, e, W, X, h, g => by
    simp only [mE] at h
    split at h
    · simp only [Bool.and_eq_true, decide_eq_true_eq] at h
      obtain ⟨⟨⟨rfl, h0⟩, h1⟩, h2⟩ := h
      have q1 := sndE a h1 g
      have q2 := sndE b h2 g
      exact ⟨e_cmp g.room h0 q1.1 q2.1, t_cmp g.room h0 q1.1 q2.1⟩
    · cases h
  | .chain o1 o2 a b c, S, e, W, X, h, g => by
    simp only [mE] at h
    split at h
    · simp only [Bool.and_eq_true, decide_eq_true_eq] at h
      obtain ⟨⟨⟨⟨⟨⟨rfl, rfl⟩, h0⟩, h0'⟩, h1⟩, h2⟩, h3⟩ := h
      have q1 := sndE a h1 g
      have q2 := sndE b h2 g
      have q3 := sndE c h3 g
      exact ⟨e_chain g.room h0' q1.1 q2.1 q3.1, t_chain g.room h0' q1.1 q2.1 q3.1⟩
    · cases h
  | .tup as, S, e, W, X, h, g => by
    simp only [mE] at h
    split at h
    · exact both_of (e_tup (sndL as h g).pa) fun _ => rfl
    · cases h
  | .lst own as, S, e, W, X, h, g => by
    simp only [mE] at h
    split at h
    · exact both_of (e_lst (sndL as h g).pa) fun _ => rfl
    · cases h
  | .dic own t kvs, S, e, W, X, h, g => by
    simp only [mE] at h
    split at h
    · rename_i ks vs pos
      simp only [Bool.and_eq_true, decide_eq_true_eq] at h
      obtain ⟨⟨h1, rfl⟩, h3⟩ := h
      have q := sndD kvs (pos := pos) h1 g
      cases ks with
      | nil =>
        cases kvs with
        | nil =>
          cases vs with
          | nil => exact both_of e_dic0 fun _ => rfl
          | cons => simp [mD] at h1
        | cons a as =>
          cases as with
          | nil => simp [mD] at h1
          | cons => simp [mD] at h1
      | cons k ks => exact both_of (e_dicN h1 (by simp) h3 q) fun _ => rfl
    · cases h
  | .call f as, S, e, W, X, h, g => by
    simp only [mE] at h
    split at h
    · simp only [Bool.and_eq_true, decide_eq_true_eq] at h
      obtain ⟨⟨rfl, h1⟩, h2⟩ := h
      split at h2
      · simp only [Bool.and_eq_true, decide_eq_true_eq] at h2
        obtain ⟨⟨⟨h3, h5⟩, h6⟩, h4⟩ := h2
        have q := sndL as h4 g
        obtain ⟨bs, cs, eas, m1, m2⟩ := mEs_split h4
        subst eas
        obtain ⟨q1, q2⟩ := PEs.split m1 q
        exact both_of (e_call g h1 (by assumption) (Option.isNone_iff_eq_none.mp h6) (by assumption) h3 m1 h5 q1.pa (PEs.pk (by assumption) q2)) fun _ => rfl
      · cases h2
    · cases h
  | .blt own f as, S, e, W, X, h, g => by
    simp only [mE] at h
    split at h
    · simp only [Bool.and_eq_true, decide_eq_true_eq] at h
      obtain ⟨⟨⟨rfl, h1⟩, h2⟩, h3⟩ := h
      have q := sndL as h3 g
      exact both_of (e_blt g h2 h1 h3 (mEs_star h3 X.env) (mEs_any1 h3 X.env _) q.pa) fun _ => rfl
    · cases h
  | .meth mn o as, S, e, W, X, h, g => by
    simp only [mE] at h
    split at h
    · simp only [Bool.and_eq_true, decide_eq_true_eq] at h
      obtain ⟨⟨⟨⟨⟨⟨rfl, h1⟩, h2⟩, h3⟩, h4⟩, h5⟩, h6⟩ := h
      have q := sndL as h6 g
      exact both_of (e_meth g.room h1 h2 h3 h4 h6 (mEs_star h6 X.env) (mEs_any1 h6 X.env _) (sndE o h5 g).1 q.pa) fun _ => rfl
    · cases h
  | .ix a i, S, e, W, X, h, g => by
    simp only [mE] at h
    split at h
    · simp only [Bool.and_eq_true] at h
      exact both_of (e_ix g.room h.1.1 (sndE a h.1.2 g).1 (sndE i h.2 g).1) fun _ => rfl
    · cases h
  | .cut own a lo hi, S, e, W, X, h, g => by
    simp only [mE] at h
    split at h
    · simp only [Bool.and_eq_true] at h
      exact both_of (e_cut (sndE a h.1.1 g).1 (sndO lo h.1.2 g) (sndO hi h.2 g)) fun _ => rfl
    · cases h
  | .rev own a, S, e, W, X, h, g => by
    simp only [mE] at h
    split at h
    · exact both_of (e_rev (sndE a h g).1) fun _ => rfl
    · cases h
  | .comp own elt tg it ifs vs, S, e, W, X, h, g => by
    simp only [mE] at h
    split at h
    · rename_i l t i fs scope pos
      simp only [Bool.and_eq_true, decide_eq_true_eq] at h
      obtain ⟨⟨⟨⟨⟨⟨⟨hb, hsl⟩, hT⟩, hi⟩, hns⟩, he⟩, hf⟩, hlen⟩ := h
      obtain ⟨o1, o2⟩ := slots_own hb g
      have pI := sndI it hi g
      have pG : ∀ (s : Shared) (H : Hp) (Cc : Addr) (cl : List (Str × Addr)) (fp : List Addr), PG (X.blk s H scope (compEnvC scope cl Cc X.env) fp) t (TGo X.K tg) := fun s H Cc cl fp => sndTg (g.blk scope s H Cc cl fp) tg t hT
      have pL : ∀ (s : Shared) (H : Hp) (Cc : Addr) (cl : List (Str × Addr)) (fp : List Addr), PTs (X.blk s H scope (compEnvC scope cl Cc X.env) fp) fs (TLo X.K (calls P k) ifs) := fun s H Cc cl fp => (sndL ifs hf (g.blk scope s H Cc cl fp)).l hlen
      have pE : ∀ (s : Shared) (H : Hp) (Cc : Addr) (cl : List (Str × Addr)) (fp : List Addr), PE (X.blk s H scope (compEnvC scope cl Cc X.env) fp) l (TEo X.K (calls P k) noW elt) := fun s H Cc cl fp => (sndE elt he (g.blk scope s H Cc cl fp)).1
      refine both_of (PE.mono' (pe_lc (own := ownOf S vs) g.calm (by rw [g.N]; exact g.nd) pI o1 pG pL pE (noFold hns X.env)) fun σ H Q z => ?_) fun _ => rfl
      rw [o2]
      exact e_comp g hb hsl hns pI pG pL pE σ H Q z
    · cases h
  | .comp2 own elt tg it tg1 it1 vs vs1, S, e, W, X, h, g => by
    simp only [mE] at h
    split at h
    · rename_i l t i t1 i1 scope pos
      simp only [Bool.and_eq_true, decide_eq_true_eq] at h
      obtain ⟨⟨⟨⟨⟨⟨⟨⟨⟨hb, hsl⟩, hsl1⟩, hT⟩, hi⟩, hns⟩, hT1⟩, hi1⟩, hns1⟩, he⟩ := h
      obtain ⟨o1, o2⟩ := slots_own hb g
      have pI := sndI it hi g
      have pG : ∀ (s : Shared) (H : Hp) (Cc : Addr) (cl : List (Str × Addr)) (fp : List Addr), PG (X.blk s H scope (compEnvC scope cl Cc X.env) fp) t (TGo X.K tg) := fun s H Cc cl fp => sndTg (g.blk scope s H Cc cl fp) tg t hT
      have pG1 : ∀ (s : Shared) (H : Hp) (Cc : Addr) (cl : List (Str × Addr)) (fp : List Addr), PG (X.blk s H scope (compEnvC scope cl Cc X.env) fp) t1 (TGo X.K tg1) := fun s H Cc cl fp => sndTg (g.blk scope s H Cc cl fp) tg1 t1 hT1
      have pL : ∀ (s : Shared) (H : Hp) (Cc : Addr) (cl : List (Str × Addr)) (fp : List Addr), PTs (X.blk s H scope (compEnvC scope cl Cc X.env) fp) [] (TLo X.K (calls P k) .nil) := fun s H Cc cl fp => l_nil (X := X.blk s H scope (compEnvC scope cl Cc X.env) fp) (C := calls P k)
      have pI1 : ∀ (s : Shared) (H : Hp) (Cc : Addr) (cl : List (Str × Addr)) (fp : List Addr), PI (X.blk s H scope (compEnvC scope cl Cc X.env) fp) t1 i1 (TIo X.K (calls P k) noW it1) := fun s H Cc cl fp => sndI it1 hi1 (g.blk scope s H Cc cl fp)
      have pE : ∀ (s : Shared) (H : Hp) (Cc : Addr) (cl : List (Str × Addr)) (fp : List Addr), PE (X.blk s H scope (compEnvC scope cl Cc X.env) fp) l (TEo X.K (calls P k) noW elt) := fun s H Cc cl fp => (sndE elt he (g.blk scope s H Cc cl fp)).1
      refine both_of (PE.mono' (pe_lc2 (own := ownOf S vs) (vs1 := vs1) g.calm (by rw [g.N]; exact g.nd) pI o1 (fun i hi => by rw [o2, ← hsl]; exact List.mem_append_right _ (by rw [hsl1]; exact hi)) pG pL pI1 pG1 pL pE (noFold hns X.env) (noFold hns1)) fun σ H Q z => ?_) fun _ => rfl
      rw [o2]
      exact e_comp2 hsl hsl1 σ H Q z
    · cases h
  | .fld o f, S, e, W, X, h, g => by
    simp only [mE] at h
    split at h
    · simp only [Bool.and_eq_true, decide_eq_true_eq] at h
      obtain ⟨⟨⟨⟨rfl, h1⟩, h2⟩, h3⟩, h4⟩ := h
      exact both_of (e_fld g h2 (by simpa using h1) h3 (sndE o h4 g).1) fun _ => rfl
    · cases h
  | .mcall f m o as, S, e, W, X, h, g => by
    simp only [mE] at h
    split at h
    · simp only [Bool.and_eq_true, decide_eq_true_eq] at h
      obtain ⟨⟨⟨⟨⟨⟨⟨⟨rfl, h1⟩, h2⟩, h3⟩, h4⟩, h5⟩, h6⟩, h7⟩, h8⟩ := h
      obtain ⟨d, hd⟩ := Option.isSome_iff_exists.mp h1
      exact both_of (e_mcall g h3 hd h2 h5 h4 h6 h8 (sndE o h7 g).1 (sndL as h8 g).pa) fun _ => rfl
    · cases h
  | .make f as, S, e, W, X, h, g => by
    simp only [mE] at h
    split at h
    · simp only [Bool.and_eq_true, decide_eq_true_eq] at h
      obtain ⟨⟨⟨⟨rfl, h1⟩, h2⟩, h3⟩, h4⟩ := h
      split at h4
      · simp only [Bool.and_eq_true, decide_eq_true_eq] at h4
        obtain ⟨⟨h5, h6⟩, h7⟩ := h4
        have q := sndL as h7 g
        obtain ⟨bs, cs, eas, m1, m2⟩ := mEs_split h7
        subst eas
        obtain ⟨q1, q2⟩ := PEs.split m1 q
        exact both_of (e_make g h2 h1 (by assumption) h3 (by assumption) h5 m1 h6 q1.pa (PEs.pk (by assumption) q2)) fun _ => rfl
      · cases h4
    · cases h
  | .lenO f o, S, e, W, X, h, g => by
    simp only [mE] at h
    split at h
    · simp only [Bool.and_eq_true, decide_eq_true_eq] at h
      obtain ⟨⟨⟨⟨⟨rfl, h1⟩, h2⟩, h3⟩, h4⟩, h5⟩ := h
      obtain ⟨d, hd⟩ := Option.isSome_iff_exists.mp h2
      exact both_of (e_lenO g hd h3 h1 (mE_star h5 [] X.env) (sndE o h5 g).1) fun _ => rfl
    · cases h
  | .strO f o, S, e, W, X, h, g => by
    simp only [mE] at h
    split at h
    · simp only [Bool.and_eq_true, decide_eq_true_eq] at h
      obtain ⟨⟨⟨⟨⟨rfl, h1⟩, h2⟩, h3⟩, h4⟩, h5⟩ := h
      obtain ⟨d, hd⟩ := Option.isSome_iff_exists.mp h2
      exact both_of (e_strO g hd h3 h1 (mE_star h5 [] X.env) (sndE o h5 g).1) fun _ => rfl
    · cases h
  | .fstr as, S, e, W, X, h, g => by
    simp only [mE] at h
    split at h
    · exact both_of (e_fstr (sndF as h g)) fun _ => rfl
    · cases h
  | .pop o, S, e, W, X, h, g => by
    simp only [mE] at h
    split at h
    · simp only [Bool.and_eq_true, decide_eq_true_eq] at h
      obtain ⟨⟨⟨rfl, h1⟩, h2⟩, h3⟩ := h
      exact both_of (e_pop h1 h2 (sndE o h3 g).1) fun _ => rfl
    · cases h
theorem sndF : ∀ (as : MEs) {S : Sx} {es : List Expr} {W : WW} {X : Cx}, mF P as S es = true → Gd P xa k S W X → PFs X (calls P k) W as es
  | .nil, S, es, W, X, h, g => by
    simp only [mF] at h
    split at h
    · exact .nil
    · cases h
  | .cons a as, S, es, W, X, h, g => by
    simp only [mF] at h
    split at h
    · simp only [Bool.and_eq_true] at h
      exact .fmt (sndE a h.1 g).1 (sndF as h.2 g)
    · simp only [Bool.and_eq_true] at h
      obtain ⟨⟨h0, h1⟩, h2⟩ := h
      have q := (sndE a h1 g).1
      cases a with
      | str s => exact .con q (sndF as h2 g)
      | _ => cases h0
    · cases h
theorem sndL : ∀ (as : MEs) {S : Sx} {es : List Expr} {W : WW} {X : Cx}, mEs P as S es = true → Gd P xa k S W X → PEs X (calls P k) W as es
  | .nil, S, es, W, X, h, g => by
    simp only [mEs] at h
    split at h
    · exact .nil
    · cases h
  | .cons a as, S, es, W, X, h, g => by
    simp only [mEs] at h
    split at h
    · simp only [Bool.and_eq_true] at h
      have q := sndE a h.1 g
      exact .cons q.1 q.2 (fun es env => mE_star h.1 es env) (sndL as h.2 g)
    · cases h
theorem sndD : ∀ (as : MEs) {S : Sx} {ks : List (Option Expr)} {vs : List Expr} {W : WW} {X : Cx} {pos : Pos}, mD P as S ks vs = true → Gd P xa k S W X → PPs X pos ks vs (trsOf X.K (calls P k) W as)
  | .nil, S, ks, vs, W, X, pos, h, g => by
    simp only [mD, Bool.and_eq_true, List.isEmpty_iff] at h
    obtain ⟨rfl, rfl⟩ := h
    exact pps_nil
  | .cons a .nil, S, ks, vs, W, X, pos, h, g => by simp [mD] at h
  | .cons a (.cons b as), S, ks, vs, W, X, pos, h, g => by
    simp only [mD] at h
    split at h
    · simp only [Bool.and_eq_true] at h
      exact pps_cons (sndE a h.1.1 g).1 (sndE b h.1.2 g).1 (sndD as h.2 g)
    · cases h
theorem sndO : ∀ (o : MO) {S : Sx} {e : Option Expr} {W : WW} {X : Cx}, mO P o S e = true → Gd P xa k S W X → PO X e (TOo X.K (calls P k) W o)
  | .none, S, e, W, X, h, g => by
    simp only [mO, Option.isNone_iff_eq_none] at h
    subst h
    exact o_none
  | .some a, S, e, W, X, h, g => by
    simp only [mO] at h
    split at h
    · exact o_some (sndE a h g).1
    · cases h
theorem sndI : ∀ (it : MI) {S : Sx} {tg e : Expr} {W : WW} {X : Cx}, mI P it S tg e = true → Gd P xa k S W X → PI X tg e (TIo X.K (calls P k) W it)
  | .val a, S, tg, e, W, X, h, g => i_val (sndE a h g).1
  | .range1 a, S, tg, e, W, X, h, g => by
    simp only [mI] at h
    split at h
    · simp only [Bool.and_eq_true, decide_eq_true_eq] at h
      obtain ⟨⟨rfl, h1⟩, h2⟩ := h
      have q := sndE a h2 g
      have s := mE_star h2
      exact i_range1 g h1 (s [] X.env) (PEs.pa (.cons q.1 q.2 s .nil))
    · cases h
  | .range2 a b, S, tg, e, W, X, h, g => by
    simp only [mI] at h
    split at h
    · simp only [Bool.and_eq_true, decide_eq_true_eq] at h
      obtain ⟨⟨⟨rfl, h1⟩, h2⟩, h3⟩ := h
      have q := sndE a h2 g
      have q2 := sndE b h3 g
      have s := mE_star h2
      have s2 := mE_star h3
      exact i_range2 g h1 (by rw [s, s2]; rfl) (s2 [] X.env) (PEs.pa (.cons q.1 q.2 s (.cons q2.1 q2.2 s2 .nil)))
    · cases h
  | .enum a, S, tg, e, W, X, h, g => by
    simp only [mI] at h
    split at h
    · simp only [Bool.and_eq_true, decide_eq_true_eq] at h
      obtain ⟨⟨rfl, h1⟩, h2⟩ := h
      have q := sndE a h2 g
      have s := mE_star h2
      exact i_enum g h1 (s [] X.env) (PEs.pa (.cons q.1 q.2 s .nil))
    · cases h
  | .zip a b, S, tg, e, W, X, h, g => by
    simp only [mI] at h
    split at h
    · simp only [Bool.and_eq_true, decide_eq_true_eq] at h
      obtain ⟨⟨⟨rfl, h1⟩, h2⟩, h3⟩ := h
      have q := sndE a h2 g
      have q2 := sndE b h3 g
      have s := mE_star h2
      have s2 := mE_star h3
      exact i_zip g h1 (s _ X.env) (by rw [s2]; rfl) (PEs.pa (.cons q.1 q.2 s (.cons q2.1 q2.2 s2 .nil)))
    · cases h
end
end
end Lt

/-! Lt, part Q: statements. -/
namespace Lt
open PySem PySem.Spec PyProof.Rows L2
variable [Mk]

/-! ### the match -/
def compB : Expr → Bool
  | .ListComp .. => true
  | .SetComp .. => true
  | .DictComp .. => true
  | _ => false
def tupB : Expr → Bool
  | .Tuple .. => true
  | _ => false
/-- a tuple of constants, folded -/
def foldB : Expr → Bool
  | .Tuple es _ _ => es.all (foldedForSure 8)
  | _ => false
/-- name = [..] is stored within the comprehension -/
def swB (S : Sx) (x : Str) (p : Pos) (scope : Scope) (q : Pos) : Bool :=
  (match S.sc.names.lookup x with
  | some .local => true
  | _ => false) && (p.line == q.line) && !(scope.names.any fun (n, k) => n == x && (k == .local || k == .cell))
def swOk (S : Sx) (x : Str) (p : Pos) : Expr → Bool
  | .ListComp _ _ scope q => swB S x p scope q
  | _ => false
def lcB (S : Sx) (x : Str) : Bool := match S.sc.names.lookup x with
  | some .local => true
  | _ => false
/-- a name among the targets is kept in a cell -/
def cellB (S : Sx) (es : List Expr) : Bool := es.any fun e => match e with
  | .Name x _ => !lcB S x
  | _ => false
mutual
def mS (P : Prg) : MS → Sx → Stmt → Bool
  | .set i e, S, st => match st with
    | .Assign [.Name x p] v _ => decide (S.N[i]? = some x) && locB S x && mE P e S v && (!compB v || swOk S x p v)
    | _ => false
  | .unp ts e, S, st => match st with
    | .Assign [.Tuple es _ _] v _ => mTs S ts es && mE P e S v && !compB v && (!tupB v || foldB v || cellB S es)
    | _ => false
  | .par is es, S, st => match st with
    | .Assign [.Tuple [.Name x px, .Name y py] _ _] (.Tuple [a, b] _ _) _ => (match is with
      | [i, j] => decide (S.N[i]? = some x) && decide (S.N[j]? = some y) && decide (i ≠ j) && lcB S x && lcB S y && (px.line == py.line) && mEs P es S [a, b] &&
          !(foldedForSure 8 a && foldedForSure 8 b) && !(constantsAlone 8 a && constantsAlone 8 b)
      | _ => false)
    | .Assign [.Tuple [.Name x px, .Name y py, .Name z pz] _ _] (.Tuple [a, b, c] _ _) _ => (match is with
      | [i, j, l] => decide (S.N[i]? = some x) && decide (S.N[j]? = some y) && decide (S.N[l]? = some z) && decide (i ≠ j) && decide (i ≠ l) && decide (j ≠ l) && lcB S x && lcB S y && lcB S z && (px.line == py.line) && (px.line == pz.line) && mEs P es S [a, b, c] &&
          !(foldedForSure 8 a && foldedForSure 8 b && foldedForSure 8 c) && !(constantsAlone 8 a && constantsAlone 8 b && constantsAlone 8 c)
      | _ => false)
    | _ => false
  | .put o i e, S, st => match st with
    | .Assign [.Subscript l r _] v _ => notSlice r && mE P o S l && mE P i S r && mE P e S v && !compB v
    | _ => false
  | .aug i op e, S, st => match st with
    | .AugAssign (.Name x _) o v _ => decide (op = o) && decide (op = .Add) && decide (S.N[i]? = some x) && locB S x && mE P e S v
    | _ => false
  | .expr e, S, st => match st with
    | .Expr v _ => mE P e S v && !compB v
    | _ => false
  | .ret e, S, st => match st with
    | .Return (some v) _ => mE P e S v
    | _ => false
  | .retN, S, st => match st with
    | .Return none _ => true
    | _ => false
  | .pass, S, st => match st with
    | .Pass _ => true
    | .Expr (.Constant (.str _) _ _) _ => true
    | _ => false
  | .ite c a b, S, st => match st with
    | .If t p q _ => mE P c S t && mSs P a S p && mSs P b S q
    | _ => false
  | .for tg it body, S, st => match st with
    | .For t i b [] _ => mT S tg t && mI P it S t i && notSet i && mSs P body S b
    | _ => false
  | .while c body, S, st => match st with
    | .While t b [] _ => mE P c S t && mSs P body S b
    | _ => false
  | .raise x, S, st => match st with
    | .Raise (some (.Call (.Name y _) [.Constant (.str _) _ _] [] _)) none _ => decide (y = Str.ofString x) && glB S.sc y && P.exs && exNames.contains x
    | _ => false
  | .never, S, st => true
  | .setf o f e, S, st => match st with
    | .Assign [.Attribute l n _] v _ => decide (f = n) && P.flds.contains f && decide (P.cn ≠ "") && mE P o S l && mE P e S v && !compB v
    | _ => false
def mSs (P : Prg) : MSs → Sx → List Stmt → Bool
  | .nil, _, sts => match sts with
    | [] => true
    | _ => false
  | .cons s r, S, sts => match sts with
    | st :: sts => mS P s S st && mSs P r S sts
    | _ => false
end

/-! ### facts about the stores -/
theorem sw_no {e : Expr} (h : compB e = false) (t : Option Expr) (l : Nat) (env : PySem.Env) : swapsWith e t l env = pure false := by
  cases e with
  | ListComp => simp [compB] at h
  | SetComp => simp [compB] at h
  | DictComp => simp [compB] at h
  | _ => rfl
theorem ss_no {es : List Expr} {k : Nat} {p : Pos} {e : Expr} (h : tupB e = false) (env : PySem.Env) : swappedStores [.Tuple es k p] e env = pure none := by
  cases e with
  | Tuple => simp [tupB] at h
  | _ => rfl
theorem ss_fold {es : List Expr} {k : Nat} {p : Pos} {e : Expr} (h : foldB e = true) (env : PySem.Env) : swappedStores [.Tuple es k p] e env = pure none := by
  cases e with
  | Tuple vs j q =>
    have h : vs.all (foldedForSure 8) = true := h
    unfold swappedStores
    simp only [h, if_true]
    split
    · rfl
    · split
      · rfl
      · split <;> rfl
  | _ => cases h
theorem fm_lt {α β : Type} {f : α → Option β} {x : α} : ∀ {l : List α}, x ∈ l → f x = none → (l.filterMap f).length < l.length
  | [], hx, _ => by cases hx
  | a :: r, hx, hn => by
    rw [List.filterMap_cons]
    rcases List.mem_cons.mp hx with z | z
    · subst z
      rw [hn]
      exact Nat.lt_succ_of_le (List.length_filterMap_le _ _)
    · have := fm_lt z hn
      split
      · exact Nat.lt_succ_of_lt this
      · exact Nat.succ_lt_succ this
theorem ss_cell {es : List Expr} {k : Nat} {p : Pos} {e : Expr} {S : Sx} {env : PySem.Env} (hs : env.scope = S.sc) (h : cellB S es = true) : swappedStores [.Tuple es k p] e env = pure none := by
  cases e with
  | Tuple vs j q =>
    obtain ⟨e0, he, hc⟩ := List.any_eq_true.mp h
    unfold swappedStores
    dsimp only
    split
    · rfl
    · split
      · rfl
      · rw [if_pos]
        · rw [Bool.or_eq_true]
          refine .inl (bne_iff_ne.mpr (Nat.ne_of_lt (fm_lt he ?_)))
          cases e0 with
          | Name x pp =>
            have hx : lcB S x = false := by simpa using hc
            have hk : (env.kindOf x == some .local) = false := by
              unfold lcB at hx
              have : env.kindOf x = S.sc.names.lookup x := by unfold PySem.Env.kindOf; rw [hs]
              rw [this]
              split at hx
              · cases hx
              · rename_i q
                simpa using q
            simp [hk]
          | _ => rfl
  | _ => rfl
theorem ss_any {es : List Expr} {k : Nat} {p : Pos} {e : Expr} {S : Sx} (env : PySem.Env) (hs : env.scope = S.sc) (h : (!tupB e || foldB e || cellB S es) = true) : swappedStores [.Tuple es k p] e env = pure none := by
  rcases (Bool.or_eq_true _ _).mp h with h | h
  case inr => exact ss_cell hs h
  rcases (Bool.or_eq_true _ _).mp h with h | h
  · exact ss_no (by simpa using h) env
  · exact ss_fold h env
theorem lcB_ok {S : Sx} {x : Str} (h : lcB S x = true) : S.sc.names.lookup x = some .local := by
  unfold lcB at h
  split at h
  · assumption
  · cases h
theorem ss_two {x y : Str} {a b : Expr} {px py pt pt2 : Pos} {kt k2} {env : PySem.Env} (hk : env.scope.kind = .function) (hx : env.scope.names.lookup x = some .local) (hy : env.scope.names.lookup y = some .local) (hxy : x ≠ y) (hl : (px.line == py.line) = true)
    (ha : ∀ env, starEach [a] env = [(false, eval a env)]) (hb : ∀ env, starEach [b] env = [(false, eval b env)]) (hf : (foldedForSure 8 a && foldedForSure 8 b) = false) (hc : (constantsAlone 8 a && constantsAlone 8 b) = false) :
    swappedStores [.Tuple [.Name x px, .Name y py] kt pt] (.Tuple [a, b] k2 pt2) env = pure (some [x, y]) := by
  have kx : env.kindOf x = some .local := hx
  have ky : env.kindOf y = some .local := hy
  have hbk : env.blockKind = .function := by unfold PySem.Env.blockKind; rw [hk]; rfl
  have sa : (match (generalizing := false) a with | .Starred .. => true | _ => false) = false := by
    cases a with
    | Starred v p => have := ha env; simp [starEach] at this
    | _ => rfl
  have sb : (match (generalizing := false) b with | .Starred .. => true | _ => false) = false := by
    cases b with
    | Starred v p => have := hb env; simp [starEach] at this
    | _ => rfl
  have hl' : py.line = px.line := (beq_iff_eq.mp hl).symm
  unfold swappedStores
  have hyx : (y == x) = false := by simpa using fun z => hxy z.symm
  have hxy' : (x == y) = false := by simpa using hxy
  simp only [hbk, kx, ky, List.length_cons, List.length_nil, List.any_cons, List.any_nil, sa, sb, List.filterMap_cons, List.filterMap_nil, Expr.pos, List.head?_cons, Option.map_some, Option.getD_some, hl', List.all_cons, List.all_nil, Bool.and_true, hf, hc, beq_self_eq_true, if_true]
  have ed : [x, y].eraseDups = [x, y] := by simp [List.eraseDups_cons, hxy', hyx]
  rw [ed]
  refine (if_neg (by decide)).trans ((if_neg fun z => ?_).trans rfl)
  rcases (Bool.or_eq_true _ _).mp z with z | z
  · exact absurd (sa.symm.trans z) (by decide)
  · rw [Bool.or_false] at z
    exact absurd (sb.symm.trans z) (by decide)

theorem ss_three {x y z : Str} {a b c : Expr} {px py pz pt pt2 : Pos} {kt k2} {env : PySem.Env} (hk : env.scope.kind = .function) (hx : env.scope.names.lookup x = some .local) (hy : env.scope.names.lookup y = some .local) (hz : env.scope.names.lookup z = some .local) (hxy : x ≠ y) (hxz : x ≠ z) (hyz : y ≠ z) (hl : (px.line == py.line) = true) (hl2 : (px.line == pz.line) = true)
    (ha : ∀ env, starEach [a] env = [(false, eval a env)]) (hb : ∀ env, starEach [b] env = [(false, eval b env)]) (hc3 : ∀ env, starEach [c] env = [(false, eval c env)]) (hf : (foldedForSure 8 a && foldedForSure 8 b && foldedForSure 8 c) = false) (hc : (constantsAlone 8 a && constantsAlone 8 b && constantsAlone 8 c) = false) :
    swappedStores [.Tuple [.Name x px, .Name y py, .Name z pz] kt pt] (.Tuple [a, b, c] k2 pt2) env = pure (some [x, y, z]) := by
  have kx : env.kindOf x = some .local := hx
  have ky : env.kindOf y = some .local := hy
  have kz : env.kindOf z = some .local := hz
  have hbk : env.blockKind = .function := by unfold PySem.Env.blockKind; rw [hk]; rfl
  have sa : (match (generalizing := false) a with | .Starred .. => true | _ => false) = false := by
    cases a with
    | Starred v p => have := ha env; simp [starEach] at this
    | _ => rfl
  have sb : (match (generalizing := false) b with | .Starred .. => true | _ => false) = false := by
    cases b with
    | Starred v p => have := hb env; simp [starEach] at this
    | _ => rfl
  have sc : (match (generalizing := false) c with | .Starred .. => true | _ => false) = false := by
    cases c with
    | Starred v p => have := hc3 env; simp [starEach] at this
    | _ => rfl
  have hl' : py.line = px.line := (beq_iff_eq.mp hl).symm
  have hl2' : pz.line = px.line := (beq_iff_eq.mp hl2).symm
  unfold swappedStores
  have n1 : (y == x) = false := by simpa using fun w => hxy w.symm
  have n2 : (z == x) = false := by simpa using fun w => hxz w.symm
  have n3 : (z == y) = false := by simpa using fun w => hyz w.symm
  have hf' : (foldedForSure 8 a && (foldedForSure 8 b && foldedForSure 8 c)) = false := by rw [← Bool.and_assoc]; exact hf
  have hc' : (constantsAlone 8 a && (constantsAlone 8 b && constantsAlone 8 c)) = false := by rw [← Bool.and_assoc]; exact hc
  simp only [hbk, kx, ky, kz, List.length_cons, List.length_nil, List.any_cons, List.any_nil, sa, sb, sc, List.filterMap_cons, List.filterMap_nil, Expr.pos, List.head?_cons, Option.map_some, Option.getD_some, hl', hl2', List.all_cons, List.all_nil, Bool.and_true, hf', hc', beq_self_eq_true, if_true]
  have ed : [x, y, z].eraseDups = [x, y, z] := by simp [List.eraseDups_cons, n1, n2, n3]
  rw [ed]
  refine (if_neg (by decide)).trans ((if_neg fun w => ?_).trans rfl)
  rcases (Bool.or_eq_true _ _).mp w with w | w
  · exact absurd (sa.symm.trans w) (by decide)
  · rcases (Bool.or_eq_true _ _).mp w with w | w
    · exact absurd (sb.symm.trans w) (by decide)
    · rw [Bool.or_false] at w
      exact absurd (sc.symm.trans w) (by decide)

/-! ### readings -/
def FPost (K : PySem.W.Frag) (F be : List Addr) (H : Hp) (o : Fl) (Dn : Ends) (W : WW) : Prop :=
  match o with
  | .nx env h' => ∀ σ H' be', Ext F be H be' H' → Rep K F be' h' H' → RSl K F be' H' env σ → Dn.nx σ H'
  | .rt d h' => ∀ v H' be', Ext F be H be' H' → Rep K F be' h' H' → RV K F be' H' d v → Dn.rt v H'
  | .ex x env h' => ∀ σ H' be', Ext F be H be' H' → Rep K F be' h' H' → RSl K F be' H' env σ → W x σ H'
  | .fail => False
def TSo (K : PySem.W.Frag) (C : Calls) (W : WW) (m : MS) : TS := fun Dn σ H =>
  ∃ F be h env, Rep K F be h H ∧ RSl K F be H env σ ∧ FPost K F be H (evS C m env h) Dn W
def TSso (K : PySem.W.Frag) (C : Calls) (W : WW) (m : MSs) : TS := fun Dn σ H =>
  ∃ F be h env, Rep K F be h H ∧ RSl K F be H env σ ∧ FPost K F be H (evSs C m env h) Dn W
structure GdS (P : Prg) (xa : ExA) (k : Nat) (S : Sx) (W : WW) (X : Cx) : Prop where
  g : Gd P xa k S W X
  kd : S.sc.kind = .function
  po : PassesOwn (model X.prog X.w) X.A X.env X.xe
section
variable {K : PySem.W.Frag} {F be be' : List Addr} {H H' : Hp} {o : Fl} {Dn : Ends} {W : WW}
theorem FPost.weak (p : FPost K F be H o Dn W) (x : Ext F be H be' H') : FPost K F be' H' o Dn W := by
  cases o with
  | nx env h => exact fun σ H2 be2 y rep r => p σ H2 be2 (x.trans y) rep r
  | rt d h => exact fun σ H2 be2 y rep r => p σ H2 be2 (x.trans y) rep r
  | ex e env h => exact fun σ H2 be2 y rep r => p σ H2 be2 (x.trans y) rep r
  | fail => exact p
theorem FPost.fl {α γ : Type} {R : List Addr → Hp → α → γ → Prop} {Q : γ → Hp → Prop} {oo : Out α} {env : Env} {σ : St} {f : α → MHeap → Fl} (p : FPost K F be H (oo.fl env f) Dn W) (rs : RSl K F be H env σ)
    (k : ∀ a h' c H' be', Ext F be H be' H' → Rep K F be' h' H' → R be' H' a c → FPost K F be' H' (f a h') Dn W → Q c H') : Post K F be H R oo Q fun x H' => W x σ H' := by
  cases oo with
  | ok a h => exact fun c H' be' x rep r => k a h c H' be' x rep r (FPost.weak p x)
  | ex e h => exact fun H' be' x rep => p σ H' be' x rep (rs.ext x)
  | fail => exact p
theorem FPost.then {f : Env → MHeap → Fl} {Nx : St → Hp → Prop} (p : FPost K F be H (match o with
    | .nx σ' h' => f σ' h'
    | o => o) Dn W) (k : ∀ env h σ H' be', Ext F be H be' H' → Rep K F be' h H' → RSl K F be' H' env σ → FPost K F be' H' (f env h) Dn W → Nx σ H') {ct bk : St → Hp → Prop} : FPost K F be H o { Dn with nx := Nx, ct := ct, bk := bk } W := by
  cases o with
  | nx env h => exact fun σ H' be' x rep rs => k env h σ H' be' x rep rs (FPost.weak p x)
  | rt d h => exact p
  | ex e env h => exact p
  | fail => exact p
end
theorem PS.mono' {X : Cx} {st : Stmt} {t t' : TS} (p : PS X st t) (h : ∀ Dn σ H, t' Dn σ H → t Dn σ H) : PS X st t' := ⟨fun pins s σ H Dn I q => p.run pins s σ H Dn I (h Dn σ H q)⟩
theorem PSs.mono' {X : Cx} {st : List Stmt} {t t' : TS} (p : PSs X st t) (h : ∀ Dn σ H, t' Dn σ H → t Dn σ H) : PSs X st t' := ⟨fun pins s σ H Dn I q => p.run pins s σ H Dn I (h Dn σ H q)⟩
section
variable {P : Prg} {xa : ExA} {k : Nat} {S : Sx} {W : WW} {X : Cx} {C : Calls}
theorem t_set {i : Nat} {e : ME} : ∀ Dn σ H, TSo X.K C W (.set i e) Dn σ H → tAsg (TEo X.K C W e) (gName i) Dn σ H := by
  intro Dn σ H ⟨F, be, h, env, rep, rs, p⟩
  refine ⟨F, be, h, env, rep, rs, FPost.fl p rs fun d h1 v H1 be1 x1 rep1 rv p => ?_⟩
  unfold setE at p
  split at p
  · exact p _ _ _ .refl rep1 ((rs.ext x1).set rv)
  · exact p.elim
theorem t_unp {ts : List MT} {e : ME} : ∀ Dn σ H, TSo X.K C W (.unp ts e) Dn σ H → tAsg (TEo X.K C W e) (TGo X.K (.tup ts)) Dn σ H := by
  intro Dn σ H ⟨F, be, h, env, rep, rs, p⟩
  refine ⟨F, be, h, env, rep, rs, FPost.fl p rs fun d h1 v H1 be1 x1 rep1 rv p => ?_⟩
  split at p
  · rename_i env' eb
    exact ⟨F, be1, env, env', d, rs.ext x1, rv, eb, fun σ' rs' _ => p _ _ _ .refl rep1 rs'⟩
  · exact p.elim
theorem t_par {i j : Nat} {es : MEs} : ∀ Dn σ H, TSo X.K C W (.par [i, j] es) Dn σ H → tPar i j (TAo X.K C W es) Dn σ H := by
  intro Dn σ H ⟨F, be, h, env, rep, rs, p⟩
  refine ⟨F, be, h, env, rep, rs, FPost.fl p rs fun ds h1 vs H1 be1 x1 rep1 rv p => ?_⟩
  split at p
  · rename_i env' eb
    cases rv with
    | nil => simp [setEs] at eb
    | cons r1 rr =>
      cases rr with
      | nil =>
        simp only [setEs] at eb
        split at eb <;> cases eb
      | cons r2 rr =>
        cases rr with
        | nil =>
          simp only [setEs] at eb
          split at eb
          · split at eb
            · simp only [Option.some.injEq] at eb
              subst eb
              exact ⟨_, _, rfl, p _ _ _ .refl rep1 (((rs.ext x1).set r1).set r2)⟩
            · cases eb
          · cases eb
        | cons r3 rr =>
          simp only [setEs] at eb
          split at eb
          · split at eb <;> cases eb
          · cases eb
  · exact p.elim
theorem t_par3 {i j l : Nat} {es : MEs} : ∀ Dn σ H, TSo X.K C W (.par [i, j, l] es) Dn σ H → tPar3 i j l (TAo X.K C W es) Dn σ H := by
  intro Dn σ H ⟨F, be, h, env, rep, rs, p⟩
  refine ⟨F, be, h, env, rep, rs, FPost.fl p rs fun ds h1 vs H1 be1 x1 rep1 rv p => ?_⟩
  split at p
  · rename_i env' eb
    have len : ds.length = 3 := by
      match ds, eb with
      | [], eb => simp [setEs] at eb
      | [_], eb => simp only [setEs] at eb; split at eb <;> cases eb
      | [_, _], eb =>
        simp only [setEs] at eb
        split at eb
        · split at eb <;> cases eb
        · cases eb
      | [_, _, _], _ => rfl
      | _ :: _ :: _ :: _ :: _, eb =>
        simp only [setEs] at eb
        split at eb
        · split at eb
          · split at eb <;> cases eb
          · cases eb
        · cases eb
    match ds, vs, rv, len with
    | [d1, d2, d3], _, .cons r1 (.cons r2 (.cons r3 .nil)), _ =>
      simp only [setEs] at eb
      split at eb
      · split at eb
        · split at eb
          · simp only [Option.some.injEq] at eb
            subst eb
            exact ⟨_, _, _, rfl, p _ _ _ .refl rep1 ((((rs.ext x1).set r1).set r2).set r3)⟩
          · cases eb
        · cases eb
      · cases eb
  · exact p.elim
theorem setfD_ok {K : PySem.W.Frag} {F be : List Addr} {H : Hp} {h h' : MHeap} {cn : String} {dx dv : D} {x v : V} {f : Str} (rep : Rep K F be h H) (rx : RV K F be H dx x) (rv : RV K F be H dv v) (e : setfD cn dx f dv h = some h') :
    ∃ a dd vs, x = .ref a ∧ H a = some (.ins (clsOf K cn) dd vs) ∧ vs.length < 1000 ∧ Ext F be H be (upd H a (.ins (clsOf K cn) dd (putF f v vs))) ∧ Rep K F be h' (upd H a (.ins (clsOf K cn) dd (putF f v vs))) := by
  unfold setfD at e
  split at e
  · rename_i n
    split at e
    · rename_i fs e2
      split at e
      · rename_i hl
        simp only [Option.some.injEq] at e
        subst e
        obtain ⟨n', a, dd, vs, e1, rfl, hb, hn, h3, h4⟩ := insOf_ok rep rx e2
        cases e1
        have x1 : Ext F be H be (upd H a (.ins (clsOf K cn) dd (putF f v vs))) := rep.ext_write hb hn rfl
        refine ⟨a, dd, vs, rfl, h3, by rw [← h4.length]; exact hl, x1, rep.write hb hn rfl (.ins upd_same ((h4.put rv f).ext1 x1))⟩
      · cases e
    · cases e
  · cases e
theorem t_setf {o e : ME} {f : Str} (hc : Cls X.K (clsOf X.K C.cn)) (hn : NoAttr X.K (clsOf X.K C.cn) f) : ∀ Dn σ H, TSo X.K C W (.setf o f e) Dn σ H → sFld X.K (TEo X.K C W o) (TEo X.K C W e) f Dn σ H := by
  intro Dn σ H ⟨F, be, h, env, rep, rs, p⟩
  refine ⟨F, be, h, env, rep, rs, FPost.fl p rs fun d h1 v H1 be1 x1 rep1 rv p => ?_⟩
  refine ⟨F, be1, h1, env, rep1, rs.ext x1, FPost.fl p (rs.ext x1) fun d2 h2 v2 H2 be2 x2 rep2 rv2 p => ?_⟩
  split at p
  · rename_i h3 e3
    obtain ⟨a, dd, vs, rfl, h4, h5, x3, rep3⟩ := setfD_ok rep2 rv2 (rv.ext x2) e3
    exact ⟨a, _, dd, vs, rfl, h4, hc, hn, h5, p _ _ _ x3 rep3 (((rs.ext x1).ext x2).ext x3)⟩
  · exact p.elim
theorem t_put {o i e : ME} : ∀ Dn σ H, TSo X.K C W (.put o i e) Dn σ H → tAsg (TEo X.K C W e) (gSub (TEo X.K C W o) (TEo X.K C W i) rSetA) Dn σ H := by
  intro Dn σ H ⟨F, be, h, env, rep, rs, p⟩
  refine ⟨F, be, h, env, rep, rs, FPost.fl p rs fun d h1 v H1 be1 x1 rep1 rv p => ?_⟩
  refine ⟨F, be1, h1, env, rep1, rs.ext x1, FPost.fl p (rs.ext x1) fun d2 h2 v2 H2 be2 x2 rep2 rv2 p => ?_⟩
  refine ⟨F, be2, h2, env, rep2, (rs.ext x1).ext x2, FPost.fl p ((rs.ext x1).ext x2) fun d3 h3 v3 H3 be3 x3 rep3 rv3 p => ?_⟩
  split at p
  · rename_i h4 eb
    exact putD_ok rep3 (rv2.ext x3) rv3 ((rv.ext x2).ext x3) eb fun H4 x4 rep4 => p _ _ _ x4 rep4 ((((rs.ext x1).ext x2).ext x3).ext x4)
  · exact p.elim
theorem t_aug {i : Nat} {e : ME} : ∀ Dn σ H, TSo X.K C W (.aug i .Add e) Dn σ H → tAug i (TEo X.K C W e) (ipI fun a b => a + b) Dn σ H := by
  intro Dn σ H ⟨F, be, h, env, rep, rs, p⟩
  simp only [evS] at p
  split at p
  · rename_i d e1
    obtain ⟨v, e2, rd⟩ := rs.get i d e1
    refine ⟨v, e2, F, be, h, env, rep, rs, FPost.fl p rs fun d2 h1 v2 H1 be1 x1 rep1 rv p => ?_⟩
    split at p
    · cases rd
      cases rv
      exact ⟨_, _, rfl, rfl, p _ _ _ .refl rep1 ((rs.ext x1).set (.int _))⟩
    · exact p.elim
  · exact p.elim
theorem t_expr {e : ME} : ∀ Dn σ H, TSo X.K C W (.expr e) Dn σ H → tDrop (TEo X.K C W e) Dn σ H := by
  intro Dn σ H ⟨F, be, h, env, rep, rs, p⟩
  exact ⟨F, be, h, env, rep, rs, FPost.fl p rs fun d h1 v H1 be1 x1 rep1 rv p => p _ _ _ .refl rep1 (rs.ext x1)⟩
theorem t_ret {e : ME} : ∀ Dn σ H, TSo X.K C W (.ret e) Dn σ H → tRet (TEo X.K C W e) Dn σ H := by
  intro Dn σ H ⟨F, be, h, env, rep, rs, p⟩
  exact ⟨F, be, h, env, rep, rs, FPost.fl p rs fun d h1 v H1 be1 x1 rep1 rv p => p _ _ _ .refl rep1 rv⟩
theorem t_if {c : ME} {a b : MSs} : ∀ Dn σ H, TSo X.K C W (.ite c a b) Dn σ H → tIfS (TTo X.K C W c) (TSso X.K C W a) (TSso X.K C W b) Dn σ H := by
  intro Dn σ H ⟨F, be, h, env, rep, rs, p⟩
  refine ⟨F, be, h, env, rep, rs, FPost.fl p rs fun t h1 b H1 be1 x1 rep1 rv p => ?_⟩
  cases (show t = b from rv)
  cases t with
  | true => exact ⟨F, be1, h1, env, rep1, rs.ext x1, p⟩
  | false => exact ⟨F, be1, h1, env, rep1, rs.ext x1, p⟩
theorem t_while {c : ME} {b : MSs} : ∀ Dn σ H, TSo X.K C W (.while c b) Dn σ H → tWhile (TTo X.K C W c) (TSso X.K C W b) Dn σ H := by
  intro Dn σ H ⟨F, be, h, env, rep, rs, p⟩
  refine ⟨fun m σ H => ∃ F be h env, Rep X.K F be h H ∧ RSl X.K F be H env σ ∧ FPost X.K F be H (whRun (fun σ h => (evE C c σ h).bind fun x h => Out.of (truD h x) h) (fun σ h => evSs C b σ h) m env h) Dn W, ⟨C.wf, F, be, h, env, rep, rs, p⟩, ?_⟩
  rintro m σ H ⟨F, be, h, env, rep, rs, p⟩
  cases m with
  | zero => exact p.elim
  | succ m =>
    refine ⟨F, be, h, env, rep, rs, FPost.fl p rs fun t h1 b H1 be1 x1 rep1 rv p => ?_⟩
    cases (show t = b from rv)
    cases t with
    | true => exact ⟨_, fun σ' H' z => ⟨m, Nat.lt_succ_self m, z⟩, F, be1, h1, env, rep1, rs.ext x1, FPost.then p fun env2 h2 σ2 H2 be2 x2 rep2 rs2 p2 => ⟨F, be2, h2, env2, rep2, rs2, p2⟩⟩
    | false => exact p _ _ _ .refl rep1 (rs.ext x1)
theorem t_for {tg : MT} {it : MI} {b : MSs} : ∀ Dn σ H, TSo X.K C W (.for tg it b) Dn σ H → tFor (TIo X.K C W it) (TGo X.K tg) (TSso X.K C W b) Dn σ H := by
  intro Dn σ H ⟨F, be, h, env, rep, rs, p⟩
  refine ⟨F, be, h, env, rep, rs, FPost.fl p rs fun its h1 J H1 be1 x1 rep1 wd p => ?_⟩
  obtain ⟨G, Y, wk, hG, hY⟩ := wd.w
  have okh : ∀ {l : List D} {env : Env} {h : MHeap} {be' : List Addr} {H' : Hp} {f : D → Env → MHeap → Fl}, FPost X.K F be' H' (forRun f its l env h) Dn W → its.okIn h = true := by
    intro l env h be' H' f p
    cases l with
    | nil =>
      simp only [forRun] at p
      split at p
      · assumption
      · exact p.elim
    | cons x r =>
      simp only [forRun] at p
      split at p
      · assumption
      · exact p.elim
  refine for_it wk (fun i σ' H' => ∃ be' h' env', Ext F be1 H1 be' H' ∧ Rep X.K F be' h' H' ∧ RSl X.K F be' H' env' σ' ∧ FPost X.K F be' H' (forRun (fun x σ h => match bindT tg x σ with
      | some σ' => evSs C b σ' h
      | none => .fail) its (its.xs.drop i) env' h') Dn W) ⟨be1, h1, env, .refl, rep1, rs.ext x1, p⟩ ?_ ?_ ?_
  · rintro i σ' H' hi ⟨be', h', env', x', rep', rs', p'⟩
    exact hG F be' H' h' x'.w rep' (okh p')
  · rintro i v σ' H' H2 hi ⟨be', h', env', x', rep', rs', p'⟩ hy
    obtain ⟨x2, rep2, d, hd, rd⟩ := hY i F be' H' h' v H2 x'.w rep' (fun a ha => ha) (fun a ha => .inl ha) (okh p') hi hy
    obtain ⟨hl, e1⟩ := List.getElem?_eq_some_iff.mp hd
    have ok' := okh p'
    rw [List.drop_eq_getElem_cons hl, e1] at p'
    simp only [forRun, ok', if_true] at p'
    cases eb : bindT tg d env' with
    | none =>
      rw [eb] at p'
      exact p'.elim
    | some env2 =>
      rw [eb] at p'
      refine ⟨F, be', env', env2, d, rs'.ext x2, rd, eb, fun σ2 rs2 _ => ⟨F, be', h', env2, rep2, rs2, FPost.then (FPost.weak p' x2) fun env3 h3 σ3 H3 be3 x3 rep3 rs3 p3 => ⟨be3, h3, env3, (x'.trans x2).trans x3, rep3, rs3, p3⟩⟩⟩
  · rintro σ' H' ⟨be', h', env', x', rep', rs', p'⟩
    have ok' := okh p'
    rw [List.drop_length] at p'
    simp only [forRun, ok', if_true] at p'
    exact p' _ _ _ .refl rep' rs'
theorem t_seq {s : MS} {r : MSs} : ∀ Dn σ H, TSso X.K C W (.cons s r) Dn σ H → tSeq (TSo X.K C W s) (TSso X.K C W r) Dn σ H := by
  intro Dn σ H ⟨F, be, h, env, rep, rs, p⟩
  exact ⟨F, be, h, env, rep, rs, FPost.then p fun env2 h2 σ2 H2 be2 x2 rep2 rs2 p2 => ⟨F, be2, h2, env2, rep2, rs2, p2⟩⟩
end
end Lt

/-! Lt, part R: statements, the main theorem. -/
namespace Lt
open PySem PySem.Spec PyProof.Rows L2
variable [Mk]
section
variable {P : Prg} {xa : ExA} {k : Nat}
theorem swB_ok {S : Sx} {W : WW} {X : Cx} (g : GdS P xa k S W X) {x : Str} {p q : Pos} {scope : Scope} (h : swB S x p scope q = true) {elt : Expr} {gs : List Comprehension} {l : Nat} :
    X.env.scope.names.lookup x = some .local ∧ swapsWith (.ListComp elt gs scope q) (some (.Name x p)) l X.env = pure true := by
  simp only [swB, Bool.and_eq_true, Bool.not_eq_true'] at h
  have hx : X.env.scope.names.lookup x = some .local := by
    have := h.1.1
    rw [g.g.sc]
    split at this
    · assumption
    · cases this
  exact ⟨hx, sw_true (by rw [g.g.sc]; exact g.kd) hx h.1.2 h.2⟩
/-- name = [..] -/
theorem s_comp {S : Sx} {W : WW} {X : Cx} (g : GdS P xa k S W X) {m : ME} {v : Expr} {i : Nat} {x : Str} {p pos : Pos} (hi : S.N[i]? = some x) (h : mE P m S v = true) (hs : swOk S x p v = true) : PS X (.Assign [.Name x p] v pos) (tAsg (TEo X.K (calls P k) W m) (gName i)) := by
  have g0 := g.g
  cases v with
  | ListComp l gs scope q =>
    obtain ⟨hx, hw⟩ := swB_ok (elt := l) (gs := gs) (l := pos.line) g hs
    have hN : X.N[i]? = some x := by rw [g0.N]; exact hi
    cases m with
    | comp own elt tg it ifs vs =>
      simp only [mE] at h
      split at h
      · rename_i l' t i' fs scope' pos' e0
        cases e0
        simp only [Bool.and_eq_true, decide_eq_true_eq] at h
        obtain ⟨⟨⟨⟨⟨⟨⟨hb, hsl⟩, hT⟩, hi⟩, hns⟩, he⟩, hf⟩, hlen⟩ := h
        obtain ⟨o1, o2⟩ := slots_own hb g0
        have pI := sndI it hi g0
        have pG : ∀ (s : Shared) (H : Hp) (Cc : Addr) (cl : List (Str × Addr)) (fp : List Addr), PG (X.blk s H scope (compEnvC scope cl Cc X.env) fp) t (TGo X.K tg) := fun s H Cc cl fp => sndTg (g0.blk scope s H Cc cl fp) tg t hT
        have pL : ∀ (s : Shared) (H : Hp) (Cc : Addr) (cl : List (Str × Addr)) (fp : List Addr), PTs (X.blk s H scope (compEnvC scope cl Cc X.env) fp) fs (TLo X.K (calls P k) ifs) := fun s H Cc cl fp => (sndL ifs hf (g0.blk scope s H Cc cl fp)).l hlen
        have pE : ∀ (s : Shared) (H : Hp) (Cc : Addr) (cl : List (Str × Addr)) (fp : List Addr), PE (X.blk s H scope (compEnvC scope cl Cc X.env) fp) l (TEo X.K (calls P k) noW elt) := fun s H Cc cl fp => (sndE elt he (g0.blk scope s H Cc cl fp)).1
        refine PS.mono' (ps_setLc (own := ownOf S vs) g0.calm (by rw [g0.N]; exact g0.nd) hN hx hw pI o1 pG pL pE (noFold hns X.env)) fun Dn σ H z => ?_
        rw [o2]
        exact e_comp g0 hb hsl hns pI pG pL pE σ H _ z
      · cases h
    | comp2 own elt tg it tg1 it1 vs vs1 =>
      simp only [mE] at h
      split at h
      · rename_i l' t i' t1 i1 scope' pos' e0
        cases e0
        simp only [Bool.and_eq_true, decide_eq_true_eq] at h
        obtain ⟨⟨⟨⟨⟨⟨⟨⟨⟨hb, hsl⟩, hsl1⟩, hT⟩, hi⟩, hns⟩, hT1⟩, hi1⟩, hns1⟩, he⟩ := h
        obtain ⟨o1, o2⟩ := slots_own hb g0
        have pI := sndI it hi g0
        have pG : ∀ (s : Shared) (H : Hp) (Cc : Addr) (cl : List (Str × Addr)) (fp : List Addr), PG (X.blk s H scope (compEnvC scope cl Cc X.env) fp) t (TGo X.K tg) := fun s H Cc cl fp => sndTg (g0.blk scope s H Cc cl fp) tg t hT
        have pG1 : ∀ (s : Shared) (H : Hp) (Cc : Addr) (cl : List (Str × Addr)) (fp : List Addr), PG (X.blk s H scope (compEnvC scope cl Cc X.env) fp) t1 (TGo X.K tg1) := fun s H Cc cl fp => sndTg (g0.blk scope s H Cc cl fp) tg1 t1 hT1
        have pL : ∀ (s : Shared) (H : Hp) (Cc : Addr) (cl : List (Str × Addr)) (fp : List Addr), PTs (X.blk s H scope (compEnvC scope cl Cc X.env) fp) [] (TLo X.K (calls P k) .nil) := fun s H Cc cl fp => l_nil (X := X.blk s H scope (compEnvC scope cl Cc X.env) fp) (C := calls P k)
        have pI1 : ∀ (s : Shared) (H : Hp) (Cc : Addr) (cl : List (Str × Addr)) (fp : List Addr), PI (X.blk s H scope (compEnvC scope cl Cc X.env) fp) t1 i1 (TIo X.K (calls P k) noW it1) := fun s H Cc cl fp => sndI it1 hi1 (g0.blk scope s H Cc cl fp)
        have pE : ∀ (s : Shared) (H : Hp) (Cc : Addr) (cl : List (Str × Addr)) (fp : List Addr), PE (X.blk s H scope (compEnvC scope cl Cc X.env) fp) l (TEo X.K (calls P k) noW elt) := fun s H Cc cl fp => (sndE elt he (g0.blk scope s H Cc cl fp)).1
        refine PS.mono' (ps_setLc2 (own := ownOf S vs) (vs1 := vs1) g0.calm (by rw [g0.N]; exact g0.nd) hN hx hw pI o1 (fun i hi => by rw [o2, ← hsl]; exact List.mem_append_right _ (by rw [hsl1]; exact hi)) pG pL pI1 pG1 pL pE (noFold hns X.env) (noFold hns1)) fun Dn σ H z => ?_
        rw [o2]
        exact e_comp2 hsl hsl1 σ H _ z
      · cases h
    | _ => simp [mE] at h
  | _ => simp [swOk] at hs
theorem sws_no {e : Expr} (h : compB e = false) (t : Expr) (l : Nat) (env : PySem.Env) : swapsWithSole [t] e l env = pure false := sw_no h (some t) l env
theorem sub_assign {l r : Expr} {p : Pos} {env : PySem.Env} (h : notSlice r = true) : ∀ v, assign (.Subscript l r p) env v = (do
      let ov ← holding [v] (eval l env)
      let iv ← holding [v, ov] (eval r env)
      standAt p
      holding [v, ov, iv] (setItem ov iv v)
      release [v, ov, iv] []) := by
  cases r with
  | Slice => simp [notSlice] at h
  | _ => intro v; rfl
mutual
theorem sndS : ∀ (m : MS) {S : Sx} {st : Stmt} {W : WW} {X : Cx}, mS P m S st = true → GdS P xa k S W X → PS X st (TSo X.K (calls P k) W m)
  | .set i e, S, st, W, X, h, g => by
    simp only [mS] at h
    split at h
    · simp only [Bool.and_eq_true, decide_eq_true_eq, Bool.or_eq_true, Bool.not_eq_true'] at h
      obtain ⟨⟨⟨h1, h2⟩, h3⟩, h4⟩ := h
      refine PS.mono' ?_ t_set
      rcases h4 with h4 | h4
      · have hl := locB_ok h2
        exact ps_set (by rw [g.g.N]; exact g.g.nd) (by rw [g.g.N]; exact h1) (by rw [g.g.sc]; exact hl.1) (sndE e h3 g.g).1 (sw_no h4 _ _ _) (by rw [g.g.sc, g.g.fn]; exact hl.2)
      · exact s_comp g h1 h3 h4
    · cases h
  | .unp ts e, S, st, W, X, h, g => by
    simp only [mS] at h
    split at h
    · simp only [Bool.and_eq_true, Bool.not_eq_true'] at h
      obtain ⟨⟨⟨h1, h2⟩, h3⟩, h4⟩ := h
      exact PS.mono' (ps_asg (sndE e h2 g.g).1 (sndTg g.g (.tup ts) _ (by simpa only [mT] using h1)) (sws_no h3 _ _ _) (ss_any _ g.g.sc h4)) t_unp
    · cases h
  | .par is es, S, st, W, X, h, g => by
    simp only [mS] at h
    split at h
    · split at h
      · simp only [Bool.and_eq_true, decide_eq_true_eq, Bool.not_eq_true'] at h
        obtain ⟨⟨⟨⟨⟨⟨⟨⟨h1, h2⟩, h3⟩, h4⟩, h5⟩, h6⟩, h7⟩, h8⟩, h9⟩ := h
        have q := sndL es h7 g.g
        rename_i x px y py _ _ a b _ _ _ _ i j
        have hx : X.env.scope.names.lookup x = some .local := by rw [g.g.sc]; exact lcB_ok h4
        have hy : X.env.scope.names.lookup y = some .local := by rw [g.g.sc]; exact lcB_ok h5
        have hxy : x ≠ y := fun z => by
          subst z
          obtain ⟨i1, e1⟩ := List.getElem?_eq_some_iff.mp h1
          obtain ⟨i2, e2⟩ := List.getElem?_eq_some_iff.mp h2
          exact h3 ((List.getElem_inj g.g.nd).mp (e1.trans e2.symm))
        have st : (∀ env, starEach [a] env = [(false, eval a env)]) ∧ (∀ env, starEach [b] env = [(false, eval b env)]) := by
          cases es with
          | nil => simp [mEs] at h7
          | cons m1 ms =>
            cases ms with
            | nil => simp [mEs] at h7
            | cons m2 ms =>
              simp only [mEs, Bool.and_eq_true] at h7
              exact ⟨mE_star h7.1 [], mE_star h7.2.1 []⟩
        refine PS.mono' (ps_par g.g.calm (by rw [g.g.N]; exact g.g.nd) (by rw [g.g.N]; exact h1) (by rw [g.g.N]; exact h2) h3 hx hy q.pa
          (ss_two (by rw [g.g.sc]; exact g.kd) hx hy hxy h6 st.1 st.2 h8 h9)) t_par
      · cases h
    · split at h
      · simp only [Bool.and_eq_true, decide_eq_true_eq, Bool.not_eq_true'] at h
        obtain ⟨⟨⟨⟨⟨⟨⟨⟨⟨⟨⟨⟨⟨h1, h2⟩, h3⟩, i1⟩, i2⟩, i3⟩, h4⟩, h5⟩, h6⟩, l1⟩, l2⟩, h7⟩, h8⟩, h9⟩ := h
        have q := sndL es h7 g.g
        rename_i x px y py z pz _ _ a b c _ _ _ _ i j l
        have hx : X.env.scope.names.lookup x = some .local := by rw [g.g.sc]; exact lcB_ok h4
        have hy : X.env.scope.names.lookup y = some .local := by rw [g.g.sc]; exact lcB_ok h5
        have hz : X.env.scope.names.lookup z = some .local := by rw [g.g.sc]; exact lcB_ok h6
        have inj : ∀ {i j : Nat} {x y : Str}, S.N[i]? = some x → S.N[j]? = some y → i ≠ j → x ≠ y := fun {i j x y} h1 h2 h3 w => by
          subst w
          obtain ⟨i1, e1⟩ := List.getElem?_eq_some_iff.mp h1
          obtain ⟨i2, e2⟩ := List.getElem?_eq_some_iff.mp h2
          exact h3 ((List.getElem_inj g.g.nd).mp (e1.trans e2.symm))
        have st : (∀ env, starEach [a] env = [(false, eval a env)]) ∧ (∀ env, starEach [b] env = [(false, eval b env)]) ∧ (∀ env, starEach [c] env = [(false, eval c env)]) := by
          cases es with
          | nil => simp [mEs] at h7
          | cons m1 ms =>
            cases ms with
            | nil => simp [mEs] at h7
            | cons m2 ms =>
              cases ms with
              | nil => simp [mEs] at h7
              | cons m3 ms =>
                simp only [mEs, Bool.and_eq_true] at h7
                exact ⟨mE_star h7.1 [], mE_star h7.2.1 [], mE_star h7.2.2.1 []⟩
        refine PS.mono' (ps_par3 g.g.calm (by rw [g.g.N]; exact g.g.nd) (by rw [g.g.N]; exact h1) (by rw [g.g.N]; exact h2) (by rw [g.g.N]; exact h3) i1 i2 i3 hx hy hz q.pa
          (ss_three (by rw [g.g.sc]; exact g.kd) hx hy hz (inj h1 h2 i1) (inj h1 h3 i2) (inj h2 h3 i3) l1 l2 st.1 st.2.1 st.2.2 h8 h9)) t_par3
      · cases h
    · cases h
  | .put o i e, S, st, W, X, h, g => by
    simp only [mS] at h
    split at h
    · simp only [Bool.and_eq_true, Bool.not_eq_true'] at h
      obtain ⟨⟨⟨⟨h1, h2⟩, h3⟩, h4⟩, h5⟩ := h
      exact PS.mono' (ps_asg (sndE e h4 g.g).1 (pg_sub (sndE o h2 g.g).1 (sndE i h3 g.g).1 (set_all g.g.room) (sub_assign h1)) (sws_no h5 _ _ _)) t_put
    · cases h
  | .aug i op e, S, st, W, X, h, g => by
    simp only [mS] at h
    split at h
    · simp only [Bool.and_eq_true, decide_eq_true_eq] at h
      obtain ⟨⟨⟨⟨rfl, rfl⟩, h1⟩, h2⟩, h3⟩ := h
      have hl := locB_ok h2
      exact PS.mono' (ps_aug (by rw [g.g.N]; exact g.g.nd) (by rw [g.g.N]; exact h1) (by rw [g.g.sc]; exact hl.1) (sndE e h3 g.g).1 ip_add (by rw [g.g.sc, g.g.fn]; exact hl.2)) t_aug
    · cases h
  | .expr e, S, st, W, X, h, g => by
    simp only [mS] at h
    split at h
    · simp only [Bool.and_eq_true, Bool.not_eq_true'] at h
      exact PS.mono' (ps_expr (sndE e h.1 g.g).1 (sw_no h.2 _ _ _)) t_expr
    · cases h
  | .ret e, S, st, W, X, h, g => by
    simp only [mS] at h
    split at h
    · exact PS.mono' (ps_ret (sndE e h g.g).1) t_ret
    · cases h
  | .retN, S, st, W, X, h, g => by
    simp only [mS] at h
    split at h
    · exact PS.mono' ps_retN fun Dn σ H ⟨F, be, h, env, rep, rs, p⟩ => p _ _ _ .refl rep .non
    · cases h
  | .pass, S, st, W, X, h, g => by
    simp only [mS] at h
    split at h
    · exact PS.mono' ps_pass fun Dn σ H ⟨F, be, h, env, rep, rs, p⟩ => p _ _ _ .refl rep rs
    · exact PS.mono' ps_doc fun Dn σ H ⟨F, be, h, env, rep, rs, p⟩ => p _ _ _ .refl rep rs
    · cases h
  | .ite c a b, S, st, W, X, h, g => by
    simp only [mS] at h
    split at h
    · simp only [Bool.and_eq_true] at h
      exact PS.mono' (ps_if (sndE c h.1.1 g.g).2 (sndSs a h.1.2 g) (sndSs b h.2 g)) t_if
    · cases h
  | .for tg it b, S, st, W, X, h, g => by
    simp only [mS] at h
    split at h
    · simp only [Bool.and_eq_true] at h
      obtain ⟨⟨⟨h1, h2⟩, h3⟩, h4⟩ := h
      exact PS.mono' (ps_for g.po g.g.calm (sndI it h2 g.g) (sndTg g.g tg _ h1) (sndSs b h4 g) (noFold h3 X.env)) t_for
    · cases h
  | .while c b, S, st, W, X, h, g => by
    simp only [mS] at h
    split at h
    · simp only [Bool.and_eq_true] at h
      exact PS.mono' (ps_while g.po (sndE c h.1 g.g).2 (sndSs b h.2 g)) t_while
    · cases h
  | .raise x, S, st, W, X, h, g => by
    simp only [mS] at h
    split at h
    · simp only [Bool.and_eq_true, decide_eq_true_eq] at h
      obtain ⟨⟨⟨rfl, h1⟩, h2⟩, h3⟩ := h
      have E := g.g.exs h2 x (by simpa using h3)
      refine PS.mono' (ps_raise g.g.calm g.g.tk (pmk_own PySem.F.excBase_ValueError E.mx E.mg E.kp (raises_own E.rs E.ty) (g.g.gl h1) (glB_ok h1).2)) fun Dn σ H ⟨F, be, h, env, rep, rs, p⟩ => ?_
      exact ⟨x, g.g.xaE x, rfl, p σ H be .refl rep rs⟩
    · cases h
  | .setf o f e, S, st, W, X, h, g => by
    simp only [mS] at h
    split at h
    · simp only [Bool.and_eq_true, decide_eq_true_eq, Bool.not_eq_true'] at h
      obtain ⟨⟨⟨⟨⟨rfl, h1⟩, h2⟩, h3⟩, h4⟩, h5⟩ := h
      have Cf := g.g.cls h2
      refine PS.mono' (ps_fld (sndE o h3 g.g).1 (sndE e h4 g.g).1 (sw_no h5 _ _ _)) (t_setf ?_ ?_)
      · rw [calls_cn]; exact Cf.cl
      · rw [calls_cn]; exact Cf.no _ (by simpa using h1)
    · cases h
  | .never, S, st, W, X, h, g => PS.mono' ps_never fun Dn σ H ⟨F, be, h, env, rep, rs, p⟩ => p.elim
theorem sndSs : ∀ (m : MSs) {S : Sx} {st : List Stmt} {W : WW} {X : Cx}, mSs P m S st = true → GdS P xa k S W X → PSs X st (TSso X.K (calls P k) W m)
  | .nil, S, st, W, X, h, g => by
    simp only [mSs] at h
    split at h
    · exact PSs.mono' pss_nil fun Dn σ H ⟨F, be, h, env, rep, rs, p⟩ => p _ _ _ .refl rep rs
    · cases h
  | .cons s r, S, st, W, X, h, g => by
    simp only [mSs] at h
    split at h
    · simp only [Bool.and_eq_true] at h
      exact PSs.mono' (pss_cons (sndS s h.1 g) (sndSs r h.2 g)) t_seq
    · cases h
end
end
end Lt

/-! Lt, part S: defs. -/
namespace Lt
open PySem PySem.Spec PyProof.Rows L2
variable [Mk]

/-! ### the entry -/
theorem RSl.start {K : PySem.W.Frag} {F be : List Addr} {H : Hp} {d : MDef} {ds : List D} {vs : List V} {N : List Str} (hN : d.ns = N.length) (r : RVs K F be H ds vs) : RSl K F be H (Lt.start d ds) (L2.start N vs) := by
  have hl := r.length
  refine ⟨by simp [Lt.start, L2.start, hl, hN], fun i x e => ?_⟩
  unfold Lt.start at e
  by_cases hi : i < ds.length
  · rw [List.getElem?_append_left (by simpa using hi), List.getElem?_map] at e
    cases q : ds[i]? with
    | none => rw [q] at e; cases e
    | some y =>
      rw [q] at e
      cases e
      obtain ⟨v, e1, rv⟩ := r.get q
      refine ⟨v, ?_, rv⟩
      unfold L2.start
      rw [List.getElem?_append_left (by simpa [← hl] using hi), List.getElem?_map, e1]
      rfl
  · rw [List.getElem?_append_right (by simpa using hi), List.getElem?_replicate] at e
    split at e <;> cases e

section
variable {K : PySem.W.Frag} {F be : List Addr} {H : Hp} {h : MHeap} {Q : VK} {E : String → Hp → Prop}
/-- a body's end, from a call's -/
theorem FPost.raw {o : Fl} (p : Post K F be H (RV K F) o.out Q E) : FPost K F be H o { nx := fun _ H' => Q .non H', rt := Q } fun x _ H' => E x H' := by
  cases o with
  | nx env h => exact fun σ H' be' x rep rs => p _ H' be' x rep .non
  | rt d h => exact fun v H' be' x rep r => p v H' be' x rep r
  | ex e env h => exact fun σ H' be' x rep rs => p H' be' x rep
  | fail => exact p
theorem Rep.none (rep : Rep K F be h H) : Rep K (F ++ be) [] [] H := ⟨rfl, List.nodup_nil, fun a ha => absurd ha (by simp), fun a ha => (List.mem_append.mp ha).elim (rep.fin a) rep.memN, fun n a o e => absurd e (by simp), rep.tabs⟩
theorem pureBack {H' : Hp} {be' : List Addr} {h' : MHeap} (rep : Rep K F be h H) (x : Ext (F ++ be) [] H be' H') (rep' : Rep K (F ++ be) be' h' H') : Ext F be H be H' ∧ Rep K F be h H' := by
  have y : Ext F be H be H' := ⟨⟨[], by simp, by simp⟩, fun a o q _ nt => x.keep a o q (by simp) nt, fun a o m q nt => x.keepF a o (List.mem_append_left _ m) q nt, x.tups, x.frzs, x.there⟩
  refine ⟨y, rep.len, rep.nd, rep.dis, fun a ha => let ⟨o, q, nt⟩ := rep.fin a ha; ⟨o, y.keepF a o ha q nt, nt⟩, fun n a o e1 e2 => ?_, rep'.tabs⟩
  have ro := rep.obj n a o e1 e2
  refine ro.ext y fun u q => x.keepF a u (List.mem_append_right _ (List.mem_of_getElem? e1)) q ?_
  obtain ⟨u', q', nt⟩ := ro.hasN
  rw [q] at q'
  cases q'
  exact nt
theorem pureFew {h' : MHeap} {H' : Hp} {be' : List Addr} (rep' : Rep K (F ++ be) be' h' H') : Fewer (F ++ be) be' F be 0 :=
  ⟨fun a _ n2 => ⟨fun z => n2 (List.mem_append_right _ z), fun z => n2 (List.mem_append_left _ z)⟩, fun k a hk => absurd hk (Nat.not_lt_zero k), fun k a _ e =>
    have n2 := rep'.dis a (List.mem_of_getElem? e)
    ⟨fun z => n2 (List.mem_append_right _ z), fun z => n2 (List.mem_append_left _ z)⟩⟩
theorem FPost.pure {o : Fl} (rep : Rep K F be h H) (p : Post K F be H (RV K F) (match o.out with
    | .ok v h' => match frz h' 0 v with
      | some v' => .ok v' h
      | none => .fail
    | .ex x _ => .ex x h
    | .fail => .fail) Q E) : FPost K (F ++ be) [] H o { nx := fun _ H' => Q .non H', rt := Q } fun x _ H' => E x H' := by
  cases o with
  | nx env h1 =>
    intro σ H' be' x rep' rs
    obtain ⟨y, rep1⟩ := pureBack rep x rep'
    exact p _ H' be y rep1 .non
  | rt d h1 =>
    intro v H' be' x rep' r
    simp only [Fl.out] at p
    split at p
    · rename_i v' ef
      obtain ⟨y, rep1⟩ := pureBack rep x rep'
      exact p _ H' be y rep1 (frz_ok (pureFew rep') rep' r ef)
    · exact p.elim
  | ex e env h1 =>
    intro σ H' be' x rep' rs
    obtain ⟨y, rep1⟩ := pureBack rep x rep'
    exact p H' be y rep1
  | fail => exact p
theorem FPost.trunc {o : Fl} (rep : Rep K F be h H) (p : Post K F be H (RV K F) (match o.out with
    | .ok v h' => if h.length ≤ h'.length && (h'.take h.length).all (MObj.low h.length) then match frz h' h.length v with
        | some v' => .ok v' (h'.take h.length)
        | none => .fail
      else .fail
    | .ex x h' => if h.length ≤ h'.length && (h'.take h.length).all (MObj.low h.length) then .ex x (h'.take h.length) else .fail
    | .fail => .fail) Q E) : FPost K F be H o { nx := fun _ H' => Q .non H', rt := Q } fun x _ H' => E x H' := by
  cases o with
  | nx env h1 =>
    intro σ H' be' x rep' rs
    simp only [Fl.out] at p
    split at p
    · rename_i hc
      simp only [Bool.and_eq_true, decide_eq_true_eq] at hc
      obtain ⟨y, rep1⟩ := truncBack rep x rep' hc.1 hc.2
      exact p _ H' be y rep1 .non
    · exact p.elim
  | rt d h1 =>
    intro v H' be' x rep' r
    simp only [Fl.out] at p
    split at p
    · rename_i hc
      simp only [Bool.and_eq_true, decide_eq_true_eq] at hc
      obtain ⟨y, rep1⟩ := truncBack rep x rep' hc.1 hc.2
      split at p
      · rename_i v' ef
        exact p _ H' be y rep1 (frz_ok (truncFew rep x rep') rep' r ef)
      · exact p.elim
    · exact p.elim
  | ex e env h1 =>
    intro σ H' be' x rep' rs
    simp only [Fl.out] at p
    split at p
    · rename_i hc
      simp only [Bool.and_eq_true, decide_eq_true_eq] at hc
      obtain ⟨y, rep1⟩ := truncBack rep x rep' hc.1 hc.2
      exact p H' be y rep1
    · exact p.elim
  | fail => exact p
end

end Lt

set_option maxHeartbeats 1000000
/-! Lt, part X: _law_heard(lambda: ..). -/
namespace Lt
open PySem PySem.Spec PyProof.Rows L2
variable [Mk]

/-! ### the text of _law_heard -/
def exPair (w y : String) : MEs → MEs := fun r => .cons (.str (Str.ofString w)) (.cons (.isx (.var 1) y) r)
def updS (kvs : MEs) : MS := .expr (.meth "update" (.var 4) (.cons (.dic false 0 kvs) .nil))
/-- what stands behind the try -/
def heardRest : MSs :=
  .cons (.ite (.cmp .Is (.var 1) .non) (.cons (.ret (.tup (.cons (.str (Str.ofString "told")) (.cons (.var 2) .nil)))) .nil) .nil)
  (.cons (.set 4 (.dic true 0 (exPair "no side" "NoSide" (exPair "no choice" "NoChoice" .nil))))
  (.cons (updS (exPair "no left" "NoLeft" (exPair "no rule" "NoRule" .nil)))
  (.cons (updS (exPair "no strike" "NoStrike" (exPair "ended" "Ended" .nil)))
  (.cons (updS (exPair "no numbers" "NoNumbers" (exPair "unlike" "Unlike" .nil)))
  (.cons (updS (exPair "bad table" "BadTable" (exPair "no number" "NoNumber" .nil)))
  (.cons (updS (exPair "same" "Same" (exPair "no back" "NoBack" .nil)))
  (.cons (updS (exPair "muddled" "Muddled" .nil))
  (.cons (updS (exPair "no text" "NoText" .nil))
  (.cons (.set 5 (.comp false (.var 6) (.name 6) (.val (.var 4)) (.cons (.ix (.var 4) (.var 6)) .nil) [6]))
  (.cons (.ret (.ite (.and (.cons (.cmp .Eq (.blt false "len" (.cons (.var 5) .nil)) (.int 1)) (.cons (.isx (.var 1) "ValueError") .nil))) (.tup (.cons (.ix (.var 5) (.int 0)) .nil)) (.tup (.cons (.str (Str.ofString "is wrong")) .nil)))) .nil))))))))))
def P0 : Prg := ⟨[], [], 0, true, [], "", [], []⟩
def heardN : List Str := ["deed", "refused", "found", "e", "some", "names", "word"]
def heardSx (sg : Scope) : Sx := ⟨heardN, sg, fun _ => true, false⟩
/-- a look at the text -/
def heardB (sg : Scope) (bg : List Stmt) : Bool :=
  match bg with
  | s1 :: .Try [.Assign [.Name fnd _] (.Call (.Name dd _) [] [] _) _] [.ExceptHandler (some (.Name se _)) (some ev) [.Assign [.Name rf _] (.Name ev2 _) _] _] [] [] _ :: rest =>
    mS P0 (.unp [.name 1, .name 2] (.tup (.cons .non (.cons .non .nil)))) (heardSx sg) s1 && decide (fnd = ("found" : Str)) && decide (dd = ("deed" : Str)) && decide (se = ("StrikeError" : Str)) && decide (ev = ("e" : Str)) && decide (rf = ("refused" : Str)) && decide (ev2 = ("e" : Str)) &&
      glB sg ("StrikeError" : Str) && lcB (heardSx sg) ("e" : Str) && lcB (heardSx sg) ("found" : Str) && lcB (heardSx sg) ("refused" : Str) && lcB (heardSx sg) ("deed" : Str) && mSs P0 heardRest (heardSx sg) rest
  | _ => false
/-! ### what it evaluates to -/
theorem heard_told (f : Nat) (v : D) (h : MHeap) : evSs (calls P0 0) heardRest [some (.adr f), some .non, some v, none, none, none, none] h = .rt (.tup [.str (Str.ofString "told"), v]) h := rfl
theorem heard_ex : ∀ x w, exWord x = some w → ∃ h1, evSs (calls P0 0) heardRest [none, some (.exc x), none, none, none, none, none] [] = .rt (.tup [.str (Str.ofString w)]) h1 := by
  intro x w e
  unfold exWord at e
  split at e <;> first
    | (cases e; exact ⟨_, rfl⟩)
    | cases e

/-! ### what it makes of a lambda -/
section
variable {X : Cx} {xa : ExA} {sg : Scope} {g : Addr} {cdg : Value} {bg : List Stmt} {q : Str} {k : Nat}
theorem takesF {X : Cx} : Takes X (wx xa fun _ _ _ => False) := fun u s' z => by
  obtain ⟨_, _, _, _, _, _, _, _, _, _, _, _, _, _, _, _, _, _, _, f⟩ := z
  exact f.elim
/-- what the frame of _law_heard stands on -/
structure HdF (X : Cx) (xa : ExA) : Prop where
  blt : ∀ x ∈ bltNs, X.mg (Str.ofString x) = none
  xaE : ∀ x, xa x = .ref (clsOf X.K x)
  exs : ∀ x ∈ exNames, ExF X.K X.mg x
  se : X.mg ("StrikeError" : Str) = some (.ref (clsOf X.K "StrikeError"))
theorem heardNd : heardN.Nodup := by decide +kernel
abbrev hdCx (X : Cx) (sg : Scope) (g : Addr) (cdg : Value) (s : Shared) (H : Hp) : Cx := (cxOf C8.CX0 X.prog X.w X.K X.mg X.base heardN ("_law_heard" : Str) sg g cdg X.A X.stack s H C8.E0).nox
theorem HdF.gd (F : HdF X xa) (hr : Room 5 X.A) (hk : sg.kind = .function) (s : Shared) (H : Hp) : GdS P0 xa 0 (heardSx sg) (fun _ _ _ => False) (hdCx X sg g cdg s H) where
  g := {
    N := rfl
    nd := heardNd
    sc := rfl
    fn := rfl
    calm := rfl
    room := (show Room (8 * 0 + 4 + 1) X.A from hr).deeper _
    fns := fun f d h => nomatch h
    cst := fun x d h => nomatch h
    blt := F.blt
    tcs := fun x l h => nomatch h
    xaE := F.xaE
    exs := fun _ => F.exs
    cls := fun z => absurd rfl z
    hrd := fun z => nomatch z
    tk := takesF }
  kd := hk
  po := PassesOwn.never
theorem exW_mem {x w : String} (e : exWord x = some w) : x ∈ exNames := by
  unfold exWord at e
  split at e <;> first
    | (cases e; decide +kernel)
    | cases e
theorem heard_gives (F : HdF X xa) (hr : Room 5 X.A) (hk : sg.kind = .function) (hB : heardB sg bg = true) : LamX.GivesTo X heardN ("_law_heard" : Str) sg g cdg bg ("deed" : Str) q (TTh X.K xa) := by
  intro f c' s H Q tl act hc hTT
  obtain ⟨Fr, be, h, o, rep, post, run⟩ := hTT
  unfold heardB at hB
  split at hB
  · rename_i s1 fnd p1 dd p2 p3 p4 se p5 ev rf p6 ev2 p7 p8 p9 p10 rest
    simp only [Bool.and_eq_true, decide_eq_true_eq] at hB
    obtain ⟨⟨⟨⟨⟨⟨⟨⟨⟨⟨⟨⟨b1, rfl⟩, rfl⟩, rfl⟩, rfl⟩, rfl⟩, rfl⟩, b2⟩, b3⟩, b4⟩, b5⟩, b6⟩, b7⟩ := hB
    have G := F.gd (g := g) (cdg := cdg) hr hk s H
    have nd := heardNd
    have names : Names (hdCx X sg g cdg s H) ("StrikeError" : Str) (.ref (clsOf X.K "StrikeError")) := ⟨(glB_ok b2).1, (glB_ok b2).2, .inl F.se⟩
    -- the try's body and suite
    have suite : ∀ (a : Addr) (pn : List (Addr × Obj)), PSs ((hdCx X sg g cdg s H).suite a pn) [.Assign [.Name ("refused" : Str) p6] (.Name ("e" : Str) p7) p8] (fun D σ H' => ∃ v, σ[3]? = some (some v) ∧ D.nx (σ.set 1 (some v)) H') := fun a pn =>
      pss_one (ps_set (i := 1) nd rfl (.inl (lcB_ok b5)) (pe_var (i := 3) rfl (.inl (lcB_ok b3))) rfl (.inr (lcB_ok b5)))
    have body : ∀ (wish : WX) (ps : List (Addr × Obj)) (sky : Value → Shared → Prop), Takes ((hdCx X sg g cdg s H).tr ps sky) wish → PassesOwn (model X.prog X.w) (hdCx X sg g cdg s H).A (hdCx X sg g cdg s H).env sky →
        PSs ((hdCx X sg g cdg s H).tr ps sky) [.Assign [.Name ("found" : Str) p1] (.Call (.Name ("deed" : Str) p2) [] [] p3) p4] (fun D σ H' => ∃ Ech : XK, (∀ cls d σ' G, Ech cls d G → wish cls d σ' G) ∧ σ[0]? = some (some (.ref f)) ∧ H' c' = some (LamX.CodeO c' q) ∧ tl Ech H' (fun v G => D.nx (σ.set 2 (some v)) G)) := by
      intro wish ps sky tk _
      constructor
      rintro pins s' σ H' D I ⟨Ech, hW, h1, h2, h3⟩
      exact (pss_one (ps_set (i := 2) nd rfl (.inl (lcB_ok b4)) (act wish ps sky Ech p2 p3 tk hW) rfl (.inr (lcB_ok b4)))).run pins s' σ H' D I ⟨h1, h2, h3⟩
    have tr := ps_try_keep (X := hdCx X sg g cdg s H) (i := 3) (np := p5) (pos := p10) (pos' := p9) rfl rfl rfl nd rfl (lcB_ok b3) names body suite
    refine ⟨_, pss_cons (sndS _ b1 G) (pss_cons tr (sndSs _ b7 G)), ?_⟩
    -- refused, found = None, None
    have lt7 : ∀ {i : Nat} {d : D} {l : Env}, l.length = 7 → l[i]? = some (some d) → i < 7 := fun {i d l} hl e => by rw [← hl]; exact (List.getElem?_eq_some_iff.mp e).1
    refine ⟨Fr, be, h, [some (.adr f), none, none, none, none, none, none], rep, ⟨rfl, fun i d e => ?_⟩, ?_⟩
    · match i, lt7 rfl e, e with
      | 0, _, e => cases e; exact ⟨_, rfl, .adr f⟩
      | 1, _, e => cases e
      | 2, _, e => cases e
      | 3, _, e => cases e
      | 4, _, e => cases e
      | 5, _, e => cases e
      | 6, _, e => cases e
    show ∀ σ H' be', Ext Fr be H be' H' → Rep X.K Fr be' h H' → RSl X.K Fr be' H' [some (.adr f), some .non, some .non, none, none, none, none] σ → _
    intro σ H1 be1 x1 rep1 rs1
    have ebe : be1 = be := by
      obtain ⟨ext, rfl, _⟩ := x1.pre
      have l1 := rep1.len
      have l2 := rep.len
      simp at l1
      have : ext = [] := List.eq_nil_of_length_eq_zero (by omega)
      simp [this]
    subst ebe
    have ncb : c' ∉ be1 := fun z => by
      obtain ⟨n, hn, e⟩ := List.getElem_of_mem z
      obtain ⟨m, _, ro⟩ := rep.at (n := n) (a := c') (by rw [List.getElem?_eq_getElem hn, e])
      cases ro with
      | lst q _ => rw [q] at hc; cases hc
      | dic0 q _ => rw [q] at hc; cases hc
      | fdic0 q _ => rw [q] at hc; cases hc
      | ins q _ => rw [q] at hc; cases hc
    have hc1 : H1 c' = some (LamX.CodeO c' q) := x1.keepX hc ncb
    obtain ⟨vf, ef, rf0⟩ := rs1.get 0 _ rfl
    cases rf0
    have len1 : σ.length = 7 := rs1.len.symm
    cases o with
    | fail => exact post.elim
    | ok v h1 =>
      refine ⟨fun cls d G => ∃ x, cls = xa x ∧ d = none ∧ False, fun _ _ _ _ ⟨_, _, _, z⟩ => z.elim, ef, hc1, run H1 x1 rep1 _ (fun _ _ => False) fun c G be2 x2 rep2 rv => ?_⟩
      refine ⟨Fr, be2, h1, [some (.adr f), some .non, some v, none, none, none, none], rep2, (rs1.ext x2).set (i := 2) rv, ?_⟩
      rw [heard_told]
      exact fun u G' be3 x3 rep3 ru => post u G' be3 ((x1.trans x2).trans x3) rep3 ru
    | ex x h1 =>
      simp only [heardO] at post
      split at post
      · rename_i w ew
        have xE := F.exs x (exW_mem ew)
        refine ⟨fun cls d G => ∃ y, cls = xa y ∧ d = none ∧ (y = x ∧ ∃ be2, Ext Fr be1 H1 be2 G ∧ Rep X.K Fr be2 h1 G), ?_, ef, hc1, run H1 x1 rep1 _ (fun y G => y = x ∧ ∃ be2, Ext Fr be1 H1 be2 G ∧ Rep X.K Fr be2 h1 G) fun G be2 x2 rep2 => ⟨rfl, be2, x2, rep2⟩⟩
        rintro _ _ σ' G ⟨y, rfl, rfl, rfl, be2, x2, rep2⟩
        rw [F.xaE]
        refine ⟨_, rfl, rfl, xE.ex, fun a na hlen0 => ?_⟩
        have hlen : σ'.length = 7 := hlen0
        refine ⟨.ref a, ?_, ?_⟩
        · rw [List.getElem?_set_self (by rw [hlen]; decide)]
        · have repA : Rep X.K Fr be2 h1 (upd G a (ExcO a (clsOf X.K y))) := rep2.new na
          refine ⟨Fr ++ be2, [], [], [none, some (.exc y), none, none, none, none, none], repA.none, ⟨?_, fun i d e => ?_⟩, ?_⟩
          · simp [hlen]
          · match i, lt7 rfl e, e with
            | 0, _, e => cases e
            | 1, _, e =>
              cases e
              refine ⟨.ref a, ?_, .exc upd_same (by simp) fun z => (List.mem_append.mp z).elim (rep2.new_F na) (rep2.new_be na)⟩
              rw [List.getElem?_set_ne (by decide), List.getElem?_set_self (by simp [hlen])]
            | 2, _, e => cases e
            | 3, _, e => cases e
            | 4, _, e => cases e
            | 5, _, e => cases e
            | 6, _, e => cases e
          · obtain ⟨hx, ee⟩ := heard_ex y w ew
            refine FPost.pure repA (Q := Q) (E := fun _ _ => False) ?_
            show Post X.K Fr be2 _ (RV X.K Fr) (match (evSs (calls P0 0) heardRest _ []).out with
              | .ok v h' => match frz h' 0 v with
                | some v' => .ok v' h1
                | none => .fail
              | .ex x _ => .ex x h1
              | .fail => .fail) Q _
            rw [ee]
            exact Post.weak (o := Out.ok (D.tup [.str (Str.ofString w)]) h1) post ((x1.trans x2).trans (Ext.new na))
      · exact post.elim
  · cases hB
end
end Lt

set_option maxHeartbeats 2000000
/-! Lt, part Y: all defs of a text. -/
namespace Lt
open PySem PySem.Spec PyProof.Rows L2
variable [Mk]

/-! ### all defs of a text -/
/-- a look at a def -/
def defB (P : Prg) (lam : Bool) (d : MDef) (N : List Str) (st : Stmt) : Bool :=
  decide ((defScope st).kind = .function) && !(defScope st).isCoroutine && !(defScope st).isGenerator && decide N.Nodup && decide (N.take d.ps.length = d.ps.map Str.ofString) &&
    (d.ps.map Str.ofString).all (fun x => decide ((defScope st).names.lookup x = some .local) || decide ((defScope st).names.lookup x = some .cell)) && (defScope st).names.all (fun y => !decide (y.2 = .free)) &&
    decide (d.ns = N.length) && mSs P d.body ⟨N, defScope st, fun _ => true, lam⟩ (defBody st)
theorem defB_ok {P : Prg} {lam : Bool} {d : MDef} {N : List Str} {st : Stmt} (h : defB P lam d N st = true) : FnScope N (d.ps.map Str.ofString) (defScope st) ∧ d.ns = N.length ∧ mSs P d.body ⟨N, defScope st, fun _ => true, lam⟩ (defBody st) = true := by
  unfold defB at h
  simp only [Bool.and_eq_true, Bool.not_eq_true', decide_eq_true_eq, List.all_eq_true, Bool.or_eq_true, decide_eq_false_iff_not] at h
  obtain ⟨⟨⟨⟨⟨⟨⟨⟨h1, h2⟩, h3⟩, h4⟩, h5⟩, h6⟩, h7⟩, h8⟩, h9⟩ := h
  exact ⟨⟨h1, h2, h3, h4, by rw [List.length_map]; exact h5, h6, h7⟩, h8, h9⟩
/-- a def's own name -/
def defNm (P : Prg) (f : String) : Str := (P.mth.lookup f).getD (Str.ofString f)
structure DefF (P : Prg) (K : PySem.W.Frag) (mg : Str → Option Value) (f : String) (d : MDef) (N : List Str) (st : Stmt) (a : Addr) (fd : FuncData) : Prop where
  fn : Fun K (defNm P f) (Str.ofString f) st a fd
  mg : P.mth.lookup f = none → mg (Str.ofString f) = some (.ref a)
  mt : ∀ m, P.mth.lookup f = some m → Meth K (clsOf K P.cn) m a
  bi : ∀ (j : Nat) (s : Shared) (us ws : List Value), j ≤ d.ps.length → K.In s.heap → us.length = j → ws.length = d.ps.length - j → BindsTo s fd ⟨us, ((d.ps.map Str.ofString).drop j).zip ws⟩ ((d.ps.map Str.ofString).zip (us ++ ws))
  ck : defB P (Mk.ms.contains f) d N st = true
  ns : f ∈ Mk.ms → PySem.W.nsIn K mainGlobals (Str.ofString f) = some (some (.ref a))
/-- the def _law_heard -/
structure HeardD (K : PySem.W.Frag) (mg : Str → Option Value) : Prop where
  ex : ∃ (st : Stmt) (g : Addr) (oc : Value) (od : Option Addr) (kV doc pm : Value) (an : Option Addr) (cdv ct : Value) (osl : Array (Option Value)), mg ("_law_heard" : Str) = some (.ref g) ∧ PySem.W.keepIn K (.ref g) = true ∧
    K.lookup g = some ⟨oc, od, .func (PySem.W.fnOf ("_law_heard" : Str) ("_law_heard" : Str) (defArgs st) (defBody st) (defScope st) .none kV doc pm an cdv ct), osl⟩ ∧ PySem.W.codeIn K cdv ("_law_heard" : Str) = true ∧
    Binds K (PySem.W.fnOf ("_law_heard" : Str) ("_law_heard" : Str) (defArgs st) (defBody st) (defScope st) .none kV doc pm an cdv ct) ["deed"] [] ∧ FnScope heardN ["deed"] (defScope st) ∧ heardB (defScope st) (defBody st) = true
  se : mg ("StrikeError" : Str) = some (.ref (clsOf K "StrikeError"))
/-- a text: its defs, its constants, no built-in hidden -/
structure TextF (P : Prg) (K : PySem.W.Frag) (mg : Str → Option Value) : Prop where
  defs : ∀ f d, P.tab.lookup f = some d → ∃ N st a fd, DefF P K mg f d N st a fd
  cst : ∀ x d, P.cst.lookup x = some d → ∃ u v, mg (Str.ofString x) = some u ∧ RelV v u ∧ ∀ F be H, RV K F be H d v
  blt : ∀ x ∈ bltNs, mg (Str.ofString x) = none
  tcs : ∀ x l, P.tcs.lookup x = some l → ∃ a, mg (Str.ofString x) = some (.ref a) ∧ ∀ H, SqT K H a (l.map V.str)
  exs : P.exs = true → ∀ x ∈ exNames, ExF K mg x
  cls : P.cn ≠ "" → ClsF P K mg
  hd : Mk.ms ≠ [] → P.exs = true ∧ HeardD K mg
  tabs : ∀ f ∈ Mk.ms, ∃ c Pt, PySem.W.tabIn K (Str.ofString f) = some (c, Pt)
  uniq : ∀ p ∈ tabsOf K, ∀ q ∈ tabsOf K, p.1 = q.1 → p.2 = q.2
/-- the tables at the base -/
def TabBs (K : PySem.W.Frag) (mg : Str → Option Value) (base : Heap) : Prop := ∀ f ∈ Mk.ms, ∀ c Pt, PySem.W.tabIn K (Str.ofString f) = some (c, Pt) → LamX.TabB base mg c Pt
section
variable {P : Prg} {xa : ExA} {prog : Program} {w : World} {K : PySem.W.Frag} {mg : Str → Option Value} {base : Heap}
theorem bind_noPar {params : Arguments} (h : noPar params = true) {body : Expr} {scope : Scope} (q : Str) (cl : List (Str × Addr)) (pm cv ctv : Value) : bindArgs (PySem.W.kla_fn "<lambda>" q params body scope cl pm cv ctv) ⟨[], []⟩ = pure [] := by
  unfold noPar at h
  split at h
  · rfl
  · cases h
theorem tabIn_code {x : Str} {a c Pt : Addr} {oc : Value} {od : Option Addr} {osl : Array (Option Value)} {fd : FuncData} (ns : PySem.W.nsIn K mainGlobals x = some (some (.ref a))) (lk : K.lookup a = some ⟨oc, od, .func fd, osl⟩) (ht : PySem.W.tabIn K x = some (c, Pt)) : fd.code = .ref c := by
  unfold PySem.W.tabIn at ht
  simp only [ns, lk] at ht
  cases hc : fd.code with
  | ref c0 =>
    rw [hc] at ht
    simp only at ht
    split at ht
    · split at ht
      · cases ht; rfl
      · cases ht
    · cases ht
  | _ => rw [hc] at ht; cases ht
theorem heardX (T : TextF P K mg) (xaE : ∀ x, xa x = .ref (clsOf K x)) (TB : TabBs K mg base) {k : Nat} {f : String} {nm : Str} (hf : f ∈ Mk.ms) {a : Addr} {N : List Str} {scope : Scope} {cdv : Value} {oc : Value} {od : Option Addr} {osl : Array (Option Value)} {params : Arguments} {body : List Stmt} {kV doc pm ct : Value} {an : Option Addr}
    (ns : PySem.W.nsIn K mainGlobals (Str.ofString f) = some (some (.ref a))) (lk : K.lookup a = some ⟨oc, od, .func (PySem.W.fnOf nm (Str.ofString f) params body scope .none kV doc pm an cdv ct), osl⟩)
    {A : Around} {outer : List PySem.Env} {s : Shared} {H : Hp} {E : XK} (hr : Room (8 * k + 6) (A.deeper (envOfC (Str.ofString f) scope s.heap.objs.size a cdv))) :
    HeardX xa k (cxOf (L2.CX prog w) prog w K mg base N (Str.ofString f) scope a cdv A outer s H E) := by
  intro bd scp t par p lpos pos hgl hp hL hbody
  obtain ⟨c, Pt, ht⟩ := T.tabs f hf
  obtain ⟨hx, ⟨st, g, oc2, od2, kV2, doc2, pm2, an2, cdv2, ct2, osl2, m1, m2, m3, m4, m5, m6, m7⟩, hse⟩ := T.hd (fun z => by rw [z] at hf; cases hf)
  have hcd : cdv = .ref c := tabIn_code ns lk ht
  have hd : HdF (cxOf (L2.CX prog w) prog w K mg base N (Str.ofString f) scope a cdv A outer s H E) xa := ⟨T.blt, xaE, T.exs hx, hse⟩
  have mem : (Pt, lamQ f) ∈ tabsOf K := List.mem_filterMap.mpr ⟨f, hf, by rw [ht]; rfl⟩
  refine LamX.pe_lamcall (k := 8 * k + 4) hgl m1 m2 m3 m4 m5 m6 rfl ((m6.par _ (by simp)).elim .inl fun z => .inr (.inl z)) (heard_gives hd (hr.mono (by omega)) m6.kind m7) (TB f hf c Pt ht) hcd mem (fun p hp e => T.uniq p hp _ mem e) hr hL ?_ (fun q cl pm cv ctv => bind_noPar hp q cl pm cv ctv) hbody
  unfold noPar at hp
  split at hp
  · rfl
  · cases hp
theorem fnsOk (T : TextF P K mg) (xaE : ∀ x, xa x = .ref (clsOf K x)) (TB : TabBs K mg base) : ∀ (k : Nat) (f : String) (d : MDef) (N : List Str) (st : Stmt) (a : Addr) (fd : FuncData), P.tab.lookup f = some d → DefF P K mg f d N st a fd →
    FnOk prog w K mg base (L2.CX prog w) (8 * k) a fd (d.ps.map Str.ofString) (spOf K xa P k f)
  | 0, f, d, N, st, a, fd, hf, F => ⟨fun vs H Q E ⟨_, _, _, _, _, _, z⟩ => z.elim, fun A outer s H args us vs Q E _ _ _ _ ⟨_, _, _, _, _, _, z⟩ => z.elim⟩
  | k + 1, f, d, N, st, a, fd, hf, F => by
    obtain ⟨sc, hns, hm⟩ := defB_ok F.ck
    have red : ∀ ds h, (calls P (k + 1)).fn f ds h = runDef (calls P k) d ds h := fun ds h => by simp only [calls, hf]
    have hlen : ∀ vs H Q E, spOf K xa P (k + 1) f vs H Q E → vs.length = (d.ps.map Str.ofString).length := fun vs H Q E ⟨Fr, be, h, ds, rep, rv, p⟩ => by
      rw [red] at p
      unfold runDef at p
      split at p
      · rename_i hl
        rw [← rv.length, hl, List.length_map]
      · exact p.elim
    obtain ⟨oc, od, kV, doc, pm, an, cdv, ct, osl, rfl, lk, hcd⟩ := F.fn.ex
    show FnOk prog w K mg base (L2.CX prog w) (8 * k + 7 + 1) a _ _ _
    refine fn_of lk hcd sc hlen fun A outer s H vs Q E hr hsp => ?_
    refine ⟨_, sndSs (P := P) (xa := xa) (k := k) (S := ⟨N, defScope st, fun _ => true, Mk.ms.contains f⟩) (W := fun x _ H' => E (xa x) none H') d.body hm ⟨⟨rfl, sc.nd, rfl, rfl, rfl, hr.mono (by omega), fun f' d' hf' => ?_, fun x d' hx => ?_, fun x hx => T.blt x hx, T.tcs, xaE, T.exs, T.cls, fun hl => ?_, ?_⟩, sc.kind, ?_⟩, ?_⟩
    · obtain ⟨N', st', a', fd', F'⟩ := T.defs f' d' hf'
      exact ⟨a', fd', F'.mg, F'.mt, F'.fn.kp, F'.bi, fnsOk T xaE TB k f' d' N' st' a' fd' hf' F'⟩
    · exact T.cst x d' hx
    · exact heardX T xaE TB (by simpa using hl) (F.ns (by simpa using hl)) lk (hr.mono (by omega))
    · refine Takes.imp (takes_of (E := E) (E₁ := fun e' s'' => L2.CX prog w outer H s E e' s'') rfl rfl rfl rfl) fun c dd σ H' z => ?_
      obtain ⟨x, rfl, rfl, z⟩ := z
      exact z
    · exact passes_of (K := fun e s'' => L2.CX prog w outer H s E e s'') (E₁ := fun e' s'' => L2.CX prog w outer H s E e' s'') rfl
    · obtain ⟨Fr, be, h, ds, rep, rv, p⟩ := hsp
      rw [red] at p
      unfold runDef at p
      split at p
      · split at p
        · split at p
          · rename_i hfree
            exact ⟨Fr ++ be, [], [], Lt.start d ds, rep.none, RSl.start hns (rv.free (fun a n1 n2 => ⟨by simp, fun z => (List.mem_append.mp z).elim n2 n1⟩) hfree), FPost.pure rep p⟩
          · exact p.elim
        · exact ⟨Fr, be, h, Lt.start d ds, rep, RSl.start hns rv, FPost.trunc rep p⟩
        · exact ⟨Fr, be, h, Lt.start d ds, rep, RSl.start hns rv, FPost.raw p⟩
      · exact p.elim
end
end Lt

/-! Lt, part T: the ends. -/
namespace Lt
open PySem PySem.Spec PyProof.Rows L2
variable [Mk]

inductive AllT (p : String → MDef → Prop) : Tab → Prop
  | nil : AllT p []
  | cons {f : String} {d : MDef} {r : Tab} : p f d → AllT p r → AllT p ((f, d) :: r)
theorem AllT.get {p : String → MDef → Prop} {t : Tab} (h : AllT p t) : ∀ f d, t.lookup f = some d → p f d := by
  induction h with
  | nil => intro f d e; cases e
  | cons h1 _ ih =>
    intro f d e
    rw [List.lookup_cons] at e
    split at e
    · rename_i q
      cases e
      rw [beq_iff_eq] at q
      subst q
      exact h1
    · exact ih f d e
inductive AllC (p : String → D → Prop) : List (String × D) → Prop
  | nil : AllC p []
  | cons {f : String} {d : D} {r : List (String × D)} : p f d → AllC p r → AllC p ((f, d) :: r)
theorem AllC.get {p : String → D → Prop} {t : List (String × D)} (h : AllC p t) : ∀ f d, t.lookup f = some d → p f d := by
  induction h with
  | nil => intro f d e; cases e
  | cons h1 _ ih =>
    intro f d e
    rw [List.lookup_cons] at e
    split at e
    · rename_i q
      cases e
      rw [beq_iff_eq] at q
      subst q
      exact h1
    · exact ih f d e
inductive AllS (p : String → List Str → Prop) : List (String × List Str) → Prop
  | nil : AllS p []
  | cons {f : String} {d : List Str} {r : List (String × List Str)} : p f d → AllS p r → AllS p ((f, d) :: r)
theorem AllS.get {p : String → List Str → Prop} {t : List (String × List Str)} (h : AllS p t) : ∀ f d, t.lookup f = some d → p f d := by
  induction h with
  | nil => intro f d e; cases e
  | cons h1 _ ih =>
    intro f d e
    rw [List.lookup_cons] at e
    split at e
    · rename_i q
      cases e
      rw [beq_iff_eq] at q
      subst q
      exact h1
    · exact ih f d e

/-! ### how arguments bind -/
section
variable {p : List Value → List Value → Prop}
theorem split0 (h0 : p [] []) : ∀ (j : Nat) (us ws : List Value), j ≤ 0 → us.length = j → ws.length = 0 - j → p us ws
  | 0, [], [], _, _, _ => h0
  | 0, [], _ :: _, _, _, h => by simp at h
  | 0, _ :: _, _, _, h, _ => by simp at h
theorem splitS {n : Nat} (h1 : ∀ a us ws, us.length ≤ n → us.length + ws.length = n → p (a :: us) ws) (h0 : ∀ ws, ws.length = n + 1 → p [] ws) : ∀ (j : Nat) (us ws : List Value), j ≤ n + 1 → us.length = j → ws.length = n + 1 - j → p us ws
  | j, [], ws, hj, hu, hw => h0 ws (by simp at hu; omega)
  | j, a :: us, ws, hj, hu, hw => h1 a us ws (by simp at hu; omega) (by simp at hu; omega)
end
def BindP (K : PySem.W.Frag) (fd : FuncData) (ps : List Str) : Prop := ∀ (us ws : List Value), us.length + ws.length = ps.length → bindArgs fd ⟨us, (ps.drop us.length).zip ws⟩ = pure (ps.zip (us ++ ws))
theorem len1 {us : List Value} (h : us.length = 1) : ∃ a, us = [a] := by
  match us, h with
  | [a], _ => exact ⟨a, rfl⟩
theorem cut1 {n : Nat} {p : List Value → List Value → Prop} (h0 : ∀ ws : List Value, ws.length = n + 1 → p [] ws) (h1 : ∀ a us ws, us.length + ws.length = n → p (a :: us) ws) : ∀ us ws : List Value, us.length + ws.length = n + 1 → p us ws
  | [], ws, h => h0 ws (by simpa using h)
  | a :: us, ws, h => h1 a us ws (by simp at h; omega)
theorem cut0 {p : List Value → List Value → Prop} (h0 : p [] []) : ∀ us ws : List Value, us.length + ws.length = 0 → p us ws
  | [], [], _ => h0
  | _ :: _, _, h => by simp at h
  | [], _ :: _, h => by simp at h
theorem all0 {p : List Value → Prop} (h : p []) : ∀ ws : List Value, ws.length = 0 → p ws
  | [], _ => h
theorem allS {n : Nat} {p : List Value → Prop} (h : ∀ a (ws : List Value), ws.length = n → p (a :: ws)) : ∀ ws : List Value, ws.length = n + 1 → p ws
  | a :: ws, e => h a ws (by simpa using e)

theorem bindP_of {K : PySem.W.Frag} {fd : FuncData} {ps : List Str} (n : Nat) (hn : ps.length = n) (h : ∀ us ws : List Value, us.length + ws.length = n → bindArgs fd ⟨us, (ps.drop us.length).zip ws⟩ = pure (ps.zip (us ++ ws))) : BindP K fd ps := fun us ws e => h us ws (e.trans hn)
section
variable {P : Prg} {K : PySem.W.Frag} {h : Heap} {mg : Str → Option Value}
theorem defF_mk (X : K.In h) (G : h.Ns mainGlobals mg) {f : String} {d : MDef} {N : List Str} {st : Stmt} {a : Addr} {oc kV dc pm cd ct : Value} {od an : Option Addr} {sl : Array (Option Value)}
    (ck : defB P (Mk.ms.contains f) d N st = true) (hb : ∀ (kV dc pm : Value) (an : Option Addr) (cd ct : Value), BindP K (PySem.W.fnOf (Str.ofString f) (Str.ofString f) (defArgs st) (defBody st) (defScope st) .none kV dc pm an cd ct) (d.ps.map Str.ofString))
    (e : PySem.W.nsIn K mainGlobals (Str.ofString f) = some (some (.ref a))) (l : K.lookup a = some ⟨oc, od, .func (PySem.W.fnOf (Str.ofString f) (Str.ofString f) (defArgs st) (defBody st) (defScope st) .none kV dc pm an cd ct), sl⟩)
    (c : PySem.W.codeIn K cd (Str.ofString f) = true) (k : PySem.W.keepIn K (.ref a) = true) (nm : P.mth.lookup f = none := by rfl) :
    DefF P K mg f d N st a (PySem.W.fnOf (Str.ofString f) (Str.ofString f) (defArgs st) (defBody st) (defScope st) .none kV dc pm an cd ct) := by
  have en : defNm P f = Str.ofString f := by unfold defNm; rw [nm]; rfl
  exact ⟨by rw [en]; exact fun_mk l c k, fun _ => PySem.W.mg_of X G e, fun m hm => (by rw [nm] at hm; cases hm), fun j s us ws hj _ hu hw => .of_eq (by subst hu; exact hb kV dc pm an cd ct us ws (by rw [List.length_map]; omega)), ck, fun _ => e⟩
/-- a method; at: its place -/
theorem defF_mt {f : String} {m : Str} {d : MDef} {N : List Str} {st : Stmt} {a : Addr} {oc kV dc pm cd ct : Value} {od an : Option Addr} {sl : Array (Option Value)}
    (ck : defB P (Mk.ms.contains f) d N st = true) (hb : ∀ (kV dc pm : Value) (an : Option Addr) (cd ct : Value), BindP K (PySem.W.fnOf m (Str.ofString f) (defArgs st) (defBody st) (defScope st) .none kV dc pm an cd ct) (d.ps.map Str.ofString))
    (e : PySem.W.findIn K (.ref (clsOf K P.cn)) m = some (some (.ref a))) (l : K.lookup a = some ⟨oc, od, .func (PySem.W.fnOf m (Str.ofString f) (defArgs st) (defBody st) (defScope st) .none kV dc pm an cd ct), sl⟩)
    (c : PySem.W.codeIn K cd (Str.ofString f) = true) (k : PySem.W.keepIn K (.ref a) = true) (fi : PySem.W.isFn K (.ref a) = true) (nm : P.mth.lookup f = some m) (no : Mk.ms.contains f = false) :
    DefF P K mg f d N st a (PySem.W.fnOf m (Str.ofString f) (defArgs st) (defBody st) (defScope st) .none kV dc pm an cd ct) := by
  have en : defNm P f = m := by unfold defNm; rw [nm]; rfl
  exact ⟨by rw [en]; exact fun_mk l c k, fun z => (by rw [nm] at z; cases z), fun m' hm => (by rw [nm] at hm; cases hm; exact ⟨e, fi, k⟩), fun j s us ws hj _ hu hw => .of_eq (by subst hu; exact hb kV dc pm an cd ct us ws (by rw [List.length_map]; omega)), ck, fun z => absurd z (by simpa using no)⟩
/-- a look at the class -/
def clsfB (P : Prg) (K : PySem.W.Frag) : Bool :=
  decide (PySem.W.nsIn K mainGlobals (Str.ofString P.cn) = some (some (.ref (clsOf K P.cn)))) && PySem.W.plainGet K (clsOf K P.cn) Str.empty && PySem.W.hasDictIn K (clsOf K P.cn) && PySem.W.plainOver K (clsOf K P.cn) &&
  decide (PySem.W.findIn K (.ref (clsOf K P.cn)) "__setattr__" = some (some (.builtin "object.__setattr__"))) && P.flds.all (fun f => decide (PySem.W.findIn K (.ref (clsOf K P.cn)) f = some none)) &&
  PySem.W.makesIn K (clsOf K P.cn) && PySem.W.keepIn K (.ref (clsOf K P.cn))
theorem clsfB_ok (X : K.In h) (G : h.Ns mainGlobals mg) (e : clsfB P K = true) : ClsF P K mg := by
  unfold clsfB at e
  simp only [Bool.and_eq_true, decide_eq_true_eq, List.all_eq_true] at e
  obtain ⟨⟨⟨⟨⟨⟨⟨e1, e2⟩, e3⟩, e4⟩, e5⟩, e6⟩, e7⟩, e8⟩ := e
  exact ⟨PySem.W.mg_of X G e1, ⟨e2, e3, e4, e5⟩, e6, e7, e8⟩
theorem cst_int (X : K.In h) (G : h.Ns mainGlobals mg) {x : String} {i : Int} {t : Nat} (e : PySem.W.nsIn K mainGlobals (Str.ofString x) = some (some (.int i t))) : ∃ u v, mg (Str.ofString x) = some u ∧ RelV v u ∧ ∀ F be H, RV K F be H (.int i) v :=
  ⟨_, .int i, PySem.W.mg_of X G e, ⟨t, rfl⟩, fun _ _ _ => .int i⟩
theorem cst_str (X : K.In h) (G : h.Ns mainGlobals mg) {x : String} {s : Str} {t : Nat} (e : PySem.W.nsIn K mainGlobals (Str.ofString x) = some (some (.str s t))) : ∃ u v, mg (Str.ofString x) = some u ∧ RelV v u ∧ ∀ F be H, RV K F be H (.str s) v :=
  ⟨_, .str s, PySem.W.mg_of X G e, ⟨t, rfl⟩, fun _ _ _ => .str s⟩
theorem tcs_mk (X : K.In h) (G : h.Ns mainGlobals mg) {x : String} {a : Addr} {ws : List Str} {its : Array Value} {n : Nat} {sl : Array (Option Value)} (e : PySem.W.nsIn K mainGlobals (Str.ofString x) = some (some (.ref a))) (l : K.lookup a = some ⟨.type "tuple", none, .seq its n, sl⟩) (hv : Vals (ws.map V.str) its.toList) (hs : its.size ≤ sizeLine) : ∃ a, mg (Str.ofString x) = some (.ref a) ∧ ∀ H, SqT K H a (ws.map V.str) :=
  ⟨a, PySem.W.mg_of X G e, fun _ => .inr ⟨_, its, n, l, rfl, rfl, hs, hv⟩⟩
end

section
variable {K : PySem.W.Frag} {h : Heap} {mg : Str → Option Value}
theorem heardD_mk (X : K.In h) (G : h.Ns mainGlobals mg) {st : Stmt} {a : Addr} {oc kV dc pm cd ct : Value} {od an : Option Addr} {sl : Array (Option Value)}
    (sc : FnScope heardN ["deed"] (defScope st)) (ck : heardB (defScope st) (defBody st) = true) (hb : ∀ (kV dc pm : Value) (an : Option Addr) (cd ct : Value), BindP K (PySem.W.fnOf ("_law_heard" : Str) ("_law_heard" : Str) (defArgs st) (defBody st) (defScope st) .none kV dc pm an cd ct) ["deed"])
    (e : PySem.W.nsIn K mainGlobals ("_law_heard" : Str) = some (some (.ref a))) (l : K.lookup a = some ⟨oc, od, .func (PySem.W.fnOf ("_law_heard" : Str) ("_law_heard" : Str) (defArgs st) (defBody st) (defScope st) .none kV dc pm an cd ct), sl⟩)
    (c : PySem.W.codeIn K cd ("_law_heard" : Str) = true) (k : PySem.W.keepIn K (.ref a) = true) {S : Addr} (se : PySem.W.nsIn K mainGlobals (Str.ofString "StrikeError") = some (some (.ref S))) : HeardD K mg := by
  refine ⟨⟨st, a, oc, od, kV, dc, pm, an, cd, ct, sl, PySem.W.mg_of X G e, k, l, c, ?_, sc, ck⟩, ?_⟩
  · refine Binds.all fun us hu => ?_
    have q := hb kV dc pm an cd ct us [] (by simpa using hu)
    rw [List.append_nil] at q
    rw [← q]
    congr 1
    simp
  · have e2 : clsOf K "StrikeError" = S := by unfold clsOf; rw [se]
    rw [e2]
    exact PySem.W.mg_of X G se
/-- a look at the makers' tables; ts: those that are known to be empty -/
def tabsB (K : PySem.W.Frag) (ts : List Addr) : Bool :=
  (Mk.ms.all fun f => match PySem.W.tabIn K (Str.ofString f) with
    | some (c, P) => (K.lookup P).isNone && PySem.W.codeHdIn K c P && ts.contains P
    | none => false) &&
  (tabsOf K).all fun p => (tabsOf K).all fun q => !decide (p.1 = q.1) || decide (p.2 = q.2)
theorem tabsB_ok {ts : List Addr} (hb : tabsB K ts = true) :
    (∀ f ∈ Mk.ms, ∃ c Pt, PySem.W.tabIn K (Str.ofString f) = some (c, Pt) ∧ K.lookup Pt = none ∧ PySem.W.codeHdIn K c Pt = true ∧ Pt ∈ ts) ∧ ∀ p ∈ tabsOf K, ∀ q ∈ tabsOf K, p.1 = q.1 → p.2 = q.2 := by
  unfold tabsB at hb
  rw [Bool.and_eq_true] at hb
  refine ⟨fun f hf => ?_, fun p hp q hq e => ?_⟩
  · have := List.all_eq_true.mp hb.1 f hf
    split at this
    · rename_i c Pt e
      simp only [Bool.and_eq_true, Option.isNone_iff_eq_none] at this
      exact ⟨c, Pt, e, this.1.1, this.1.2, by simpa using this.2⟩
    · cases this
  · have := List.all_eq_true.mp (List.all_eq_true.mp hb.2 p hp) q hq
    simp only [Bool.or_eq_true, Bool.not_eq_true', decide_eq_false_iff_not, decide_eq_true_eq] at this
    exact this.resolve_left fun z => z e
end

/-! ### the law -/
/-- the evaluator's word for a script -/
def Says (P : Prg) (k : Nat) (ns : List Int) : Prop := ∃ h, (calls P k).fn "law" [.scr ns] [] = .ok (.bl true) h
theorem sp_law {K : PySem.W.Frag} {xa : ExA} {P : Prg} {k : Nat} {H : Hp} {a : Addr} {ns : List Int} (hs : Says P k ns) (hT : LamX.Tabs (tabsOf K) H) (q : SqL K H a (ns.map V.int)) : spOf K xa P k "law" [.ref a] H (fun v _ => v = .bl true) fun _ _ _ => False := by
  obtain ⟨h, e⟩ := hs
  refine ⟨[], [], [], [.scr ns], ⟨rfl, List.nodup_nil, fun a ha => absurd ha (by simp), fun a ha => absurd ha (by simp), fun n a o e => absurd e (by simp), hT⟩, .cons ?_ .nil, ?_⟩
  · rcases q with (q | q) | q
    · exact .scl q (by simp) (by simp)
    · exact .scr (.inl q)
    · exact .scr (.inr q)
  rw [e]
  intro c H' be' x rep r
  cases r
  rfl
abbrev xaOf (K : PySem.W.Frag) : ExA := fun x => .ref (clsOf K x)
/-- what must be known at the head -/
structure AtHead (P : Prg) (K : PySem.W.Frag) (mg : Str → Option Value) (fa : Addr) (h : Heap) : Prop where
  text : TextF P K mg
  law : ∃ d N st fd, P.tab.lookup "law" = some d ∧ d.ps = ["script"] ∧ DefF P K mg "law" d N st fa fd ∧ ∀ (s : Shared) (u : Value), BindsTo s fd ⟨[u], []⟩ [("script", u)]
  tabs : ∀ f ∈ Mk.ms, ∀ c Pt, PySem.W.tabIn K (Str.ofString f) = some (c, Pt) → h.get? Pt = some { cls := .none, data := .fields #[] } ∧ K.lookup Pt = none ∧ PySem.W.codeHdIn K c Pt = true
theorem law_end {l : PySem.W.OpenLaw} {q : Program} {loose : List Str} {XP : (Str → Option Value) → Heap → Prop} {YP : World → Heap → Prop} {d : DefRec} {K : Params → PySem.W.Frag} {P : Prg} (k : Nat) (hn : l.most = some 63) (hdf : d.params.defaults = []) (hdn : d.name = "law")
    (hr : Room (8 * k) callerA) (says : ∀ ns : List Int, ns.length ≤ 63 → Says P k ns) (hY : ∀ (w : World) (h : Heap), YP w h → (K w.params).In h)
    (F : ∀ (w : World) (mg : Str → Option Value) (fa : Addr) (h : Heap), YP w h → (K w.params).In h → h.Ns mainGlobals mg → mg d.name = some (.ref fa) → AtHead P (K w.params) mg fa h) :
    PySem.W.WalkO q loose XP YP l.row.toRowW d [] (fun f vs => PySem.call f vs) := by
  refine LamX.walk_ofTs (n := 63) (k := 8 * k) (x := "script") (CX := fun w => L2.CX l.prog w) hn (by decide) hdf hr hY (fun w mg fa h Y KX G hm => ?_) fun _ _ _ _ _ ⟨_, _, _, _, _, _, _, _, _, _, _, _, z⟩ => z
  obtain ⟨T, ⟨dl, N, st, fd, e1, e2, D, bd⟩, tb⟩ := F w mg fa h Y KX G hm
  have mem : ∀ p ∈ Mk.ms.filterMap fun f => PySem.W.tabIn (K w.params) (Str.ofString f), h.get? p.2 = some { cls := .none, data := .fields #[] } ∧ (K w.params).lookup p.2 = none ∧ PySem.W.codeHdIn (K w.params) p.1 p.2 = true := fun p hp => by
    obtain ⟨f, hf, e⟩ := List.mem_filterMap.mp hp
    exact tb f hf p.1 p.2 e
  refine ⟨fd, Mk.ms.filterMap fun f => PySem.W.tabIn (K w.params) (Str.ofString f), spOf (K w.params) (xaOf (K w.params)) P k "law", fun p hp => (mem p hp).1, fun p hp => (mem p hp).2.1, fun p hp => PySem.W.codeHd_of_K KX (mem p hp).2.2, bd, fun H a ns hl _ hH hS => ?_, fun base KB NB TB => ?_⟩
  · refine sp_law (says ns hl) (fun p hp => ?_) hS
    obtain ⟨f, hf, e⟩ := List.mem_filterMap.mp hp
    cases ht : PySem.W.tabIn (K w.params) (Str.ofString f) with
    | none => rw [ht] at e; cases e
    | some cP =>
      rw [ht] at e
      cases e
      exact LamX.TabS.nil (hH cP (List.mem_filterMap.mpr ⟨f, hf, ht⟩))
  · have := fnsOk (prog := l.prog) (w := w) (base := base) T (fun x => rfl) (fun f hf c Pt e => TB (c, Pt) (List.mem_filterMap.mpr ⟨f, hf, e⟩)) k "law" dl N st fa fd e1 D
    rw [e2] at this
    exact this
end Lt

/-! Lt, part U: reckoning with the evaluator. -/
namespace Lt
open PySem

/-! ### small steps -/
@[simp] theorem bindOk {α β : Type} {a : α} {h : MHeap} {f : α → MHeap → Out β} : (Out.ok a h).bind f = f a h := rfl
@[simp] theorem ofSome {α : Type} {a : α} {h : MHeap} : Out.of (some a) h = .ok a h := rfl
@[simp] theorem flOk {α : Type} {a : α} {h : MHeap} {σ : Env} {f : α → MHeap → Fl} : (Out.ok a h).fl σ f = f a h := rfl
@[simp] theorem bindEx {α β : Type} {x : String} {h : MHeap} {f : α → MHeap → Out β} : (Out.ex x h : Out α).bind f = .ex x h := rfl
@[simp] theorem flEx {α : Type} {x : String} {h : MHeap} {σ : Env} {f : α → MHeap → Fl} : (Out.ex x h : Out α).fl σ f = .ex x σ h := rfl
@[simp] theorem iteOk {α : Type} {c : Prop} [Decidable c] {a b : α} {h : MHeap} : (if c then Out.ok a h else Out.ok b h) = Out.ok (if c then a else b) h := by split <;> rfl
@[simp] theorem iteBl {c : Prop} [Decidable c] {a b : Bool} : (if c then D.bl a else D.bl b) = D.bl (if c then a else b) := by split <;> rfl
@[simp] theorem calls_cst (P : Prg) (k : Nat) (x : String) : (calls P k).cst x = P.cst.lookup x := by cases k <;> rfl
@[simp] theorem calls_wf (P : Prg) (k : Nat) : (calls P k).wf = P.wf := by cases k <;> rfl
theorem callsFn {P : Prg} {k : Nat} {f : String} {d : MDef} {xs : List D} {h : MHeap} (e : P.tab.lookup f = some d) : (calls P (k + 1)).fn f xs h = runDef (calls P k) d xs h := by
  simp only [calls, e]
section
variable {C : Calls} {σ : Env} {h : MHeap} {a b c : ME} {as : MEs} {own : Bool}
@[simp] theorem evE_var {i : Nat} : evE C (.var i) σ h = (match σ[i]? with
    | some (some d) => .ok d h
    | _ => .fail) := by rw [evE] <;> rfl
@[simp] theorem evE_non : evE C .non σ h = .ok .non h := by rw [evE] <;> rfl
@[simp] theorem evE_bl {x : Bool} : evE C (.bl x) σ h = .ok (.bl x) h := by rw [evE] <;> rfl
@[simp] theorem evE_int {x : Int} : evE C (.int x) σ h = .ok (.int x) h := by rw [evE] <;> rfl
@[simp] theorem evE_str {x : Str} : evE C (.str x) σ h = .ok (.str x) h := by rw [evE] <;> rfl
@[simp] theorem evE_glob {x : String} : evE C (.glob x) σ h = Out.of (C.cst x) h := by rw [evE] <;> rfl
@[simp] theorem evE_ty {x : String} : evE C (.ty x) σ h = .ok (.ty x) h := by rw [evE] <;> rfl
@[simp] theorem evE_bin {op : Operator} : evE C (.bin own op a b) σ h = (evE C a σ h).bind fun x h => (evE C b σ h).bind fun y h => binD own op x y h := by rw [evE] <;> rfl
@[simp] theorem evE_neg : evE C (.neg a) σ h = (evE C a σ h).bind fun x h => match x with
    | .int i => .ok (.int (-i)) h
    | _ => .fail := by rw [evE] <;> rfl
@[simp] theorem evE_not : evE C (.not a) σ h = (evE C a σ h).bind fun x h => (Out.of (truD h x) h).bind fun b h => .ok (.bl (!b)) h := by rw [evE] <;> rfl
@[simp] theorem evE_and : evE C (.and as) σ h = evAnd C as σ h := by rw [evE] <;> rfl
@[simp] theorem evE_or : evE C (.or as) σ h = evOr C as σ h := by rw [evE] <;> rfl
@[simp] theorem evE_ite : evE C (.ite c a b) σ h = (evE C c σ h).bind fun x h => (Out.of (truD h x) h).bind fun t h => if t then evE C a σ h else evE C b σ h := by rw [evE] <;> rfl
@[simp] theorem evE_cmp {op : CmpOp} : evE C (.cmp op a b) σ h = (evE C a σ h).bind fun x h => (evE C b σ h).bind fun y h => (Out.of (cmpD op x y h) h).bind fun t h => .ok (.bl t) h := by rw [evE] <;> rfl
@[simp] theorem evE_chain {o1 o2 : CmpOp} : evE C (.chain o1 o2 a b c) σ h = (evE C a σ h).bind fun x h => (evE C b σ h).bind fun y h => (Out.of (cmpD o1 x y h) h).bind fun t h =>
      if t then (evE C c σ h).bind fun z h => (Out.of (cmpD o2 y z h) h).bind fun t h => .ok (.bl t) h else .ok (.bl false) h := by rw [evE] <;> rfl
@[simp] theorem evE_tup : evE C (.tup as) σ h = (evEs C as σ h).bind fun xs h => mkT xs h := by rw [evE] <;> rfl
@[simp] theorem evE_lst : evE C (.lst own as) σ h = (evEs C as σ h).bind fun xs h => mkL own xs h := by rw [evE] <;> rfl
@[simp] theorem evE_dic {t : Nat} : evE C (.dic own t as) σ h = (evEs C as σ h).bind fun xs h => dispD own t xs h := by rw [evE] <;> rfl
@[simp] theorem evE_call {f : String} : evE C (.call f as) σ h = (evEs C as σ h).bind fun xs h => C.fn f xs h := by rw [evE] <;> rfl
@[simp] theorem evE_blt {f : String} : evE C (.blt own f as) σ h = (evEs C as σ h).bind fun xs h => bltD own f xs h := by rw [evE] <;> rfl
@[simp] theorem evE_meth {m : String} : evE C (.meth m a as) σ h = (evE C a σ h).bind fun x h => if recvD m x h then (evEs C as σ h).bind fun xs h => methD m x xs h else .fail := by rw [evE] <;> rfl
@[simp] theorem evE_ix : evE C (.ix a b) σ h = (evE C a σ h).bind fun x h => (evE C b σ h).bind fun y h => Out.of (getD x y h) h := by rw [evE] <;> rfl
@[simp] theorem evE_cut {lo hi : MO} : evE C (.cut own a lo hi) σ h = (evE C a σ h).bind fun x h => (evO C lo σ h).bind fun l h => (evO C hi σ h).bind fun u h => cutD own x l u h := by rw [evE] <;> rfl
@[simp] theorem evE_rev : evE C (.rev own a) σ h = (evE C a σ h).bind fun x h => revD own x h := by rw [evE] <;> rfl
@[simp] theorem evEs_nil : evEs C .nil σ h = .ok [] h := by rw [evEs] <;> rfl
@[simp] theorem evEs_cons : evEs C (.cons a as) σ h = (evE C a σ h).bind fun x h => (evEs C as σ h).bind fun xs h => .ok (x :: xs) h := by rw [evEs] <;> rfl
@[simp] theorem evAll_nil : evAll C .nil σ h = .ok true h := by rw [evAll] <;> rfl
@[simp] theorem evAll_cons : evAll C (.cons a as) σ h = (evE C a σ h).bind fun x h => (Out.of (truD h x) h).bind fun t h => if t then evAll C as σ h else .ok false h := by rw [evAll] <;> rfl
@[simp] theorem evAnd_one : evAnd C (.cons a .nil) σ h = evE C a σ h := by rw [evAnd] <;> rfl
@[simp] theorem evAnd_cons : evAnd C (.cons a (.cons b as)) σ h = (evE C a σ h).bind fun x h => (Out.of (truD h x) h).bind fun t h => if t then evAnd C (.cons b as) σ h else .ok x h := by rw [evAnd] <;> rfl
@[simp] theorem evOr_one : evOr C (.cons a .nil) σ h = evE C a σ h := by rw [evOr] <;> rfl
@[simp] theorem evOr_cons : evOr C (.cons a (.cons b as)) σ h = (evE C a σ h).bind fun x h => (Out.of (truD h x) h).bind fun t h => if t then .ok x h else evOr C (.cons b as) σ h := by rw [evOr] <;> rfl
@[simp] theorem evO_none : evO C .none σ h = .ok none h := by rw [evO] <;> rfl
@[simp] theorem evO_some : evO C (.some a) σ h = (evE C a σ h).bind fun x h => match x with
    | .int i => .ok (some i) h
    | _ => .fail := by rw [evO] <;> rfl
@[simp] theorem evI_val : evI C (.val a) σ h = (evE C a σ h).bind fun x h => walkA x h := by rw [evI] <;> rfl
@[simp] theorem evE_heard : evE C (.heard a) σ h = heardO (evE C a σ h) := by rw [evE] <;> rfl
@[simp] theorem evE_inG {neg : Bool} {g : String} : evE C (.inG neg a g) σ h = (evE C a σ h).bind fun x h => match C.tcs g with
    | some ws => Out.of ((inD h x (.tup (ws.map .str))).map fun b => .bl (if neg then !b else b)) h
    | none => .fail := by rw [evE] <;> rfl
@[simp] theorem evE_isx {y : String} : evE C (.isx a y) σ h = (evE C a σ h).bind fun x h => Out.of (isxD y x) h := by rw [evE] <;> rfl
@[simp] theorem evI_range1 : evI C (.range1 a) σ h = (evE C a σ h).bind fun x h => match x with
    | .int j => Out.of (rangeD 0 j) h
    | _ => .fail := by rw [evI] <;> rfl
@[simp] theorem evI_range2 : evI C (.range2 a b) σ h = (evE C a σ h).bind fun x h => (evE C b σ h).bind fun y h => match x, y with
    | .int i, .int j => Out.of (rangeD i j) h
    | _, _ => .fail := by rw [evI] <;> rfl
@[simp] theorem evI_enum : evI C (.enum a) σ h = (evE C a σ h).bind fun x h => match x with
    | .tup xs => .ok ⟨enumD xs 0, none⟩ h
    | .lst xs => .ok ⟨enumD xs 0, none⟩ h
    | _ => .fail := by rw [evI] <;> rfl
@[simp] theorem evI_zip : evI C (.zip a b) σ h = (evE C a σ h).bind fun x h => (evE C b σ h).bind fun y h => match x, y with
    | .tup xs, .tup ys => .ok ⟨List.zipWith pairD xs ys, none⟩ h
    | .lst xs, .lst ys => .ok ⟨List.zipWith pairD xs ys, none⟩ h
    | _, _ => .fail := by rw [evI] <;> rfl
@[simp] theorem evE_fld {f : Str} : evE C (.fld a f) σ h = (evE C a σ h).bind fun x h => Out.of (fldD C.cn h x f) h := by rw [evE] <;> rfl
@[simp] theorem evE_mcall {f : String} {m : Str} : evE C (.mcall f m a as) σ h = (evE C a σ h).bind fun x h => if recvO C.cn m x h then (evEs C as σ h).bind fun xs h => C.fn f (x :: xs) h else .fail := by rw [evE] <;> rfl
@[simp] theorem evE_make {f : String} : evE C (.make f as) σ h = (evEs C as σ h).bind fun xs h => mkO h.length (C.fn f (.loc h.length :: xs) (h ++ [.ins C.cn []])) := by rw [evE] <;> rfl
@[simp] theorem evE_lenO {f : String} : evE C (.lenO f a) σ h = (evE C a σ h).bind fun x h => if (insOf C.cn h x).isSome then lenB (C.fn f [x] h) else .fail := by rw [evE] <;> rfl
@[simp] theorem evE_strO {f : String} : evE C (.strO f a) σ h = (evE C a σ h).bind fun x h => if (insOf C.cn h x).isSome then strB (C.fn f [x] h) else .fail := by rw [evE] <;> rfl
@[simp] theorem evE_fstr : evE C (.fstr as) σ h = (evF C as Str.empty σ h).bind fun s h => .ok (.str s) h := by rw [evE] <;> rfl
@[simp] theorem evF_nil {acc : Str} : evF C .nil acc σ h = .ok acc h := by rw [evF] <;> rfl
@[simp] theorem evF_cons {acc : Str} : evF C (.cons a as) acc σ h = (evE C a σ h).bind fun x h => (Out.of (addF acc x) h).bind fun acc h => evF C as acc σ h := by rw [evF] <;> rfl
@[simp] theorem evE_pop : evE C (.pop a) σ h = (evE C a σ h).bind fun x h => popD x h := by rw [evE] <;> rfl
@[simp] theorem calls_cnU (P : Prg) (k : Nat) : (calls P k).cn = P.cn := by cases k <;> rfl
variable {i : Nat} {s : MS} {r r' : MSs}
@[simp] theorem evS_setf {f : Str} : evS C (.setf a f b) σ h = (evE C b σ h).fl σ fun v h => (evE C a σ h).fl σ fun x h => match setfD C.cn x f v h with
    | some h' => .nx σ h'
    | none => .fail := by rw [evS] <;> rfl
@[simp] theorem evS_set : evS C (.set i a) σ h = (evE C a σ h).fl σ fun d h => setE i d σ h := by rw [evS] <;> rfl
@[simp] theorem evS_unp {ts : List MT} : evS C (.unp ts a) σ h = (evE C a σ h).fl σ fun d h => match bindT (.tup ts) d σ with
    | some σ' => .nx σ' h
    | none => .fail := by rw [evS] <;> rfl
@[simp] theorem evS_par {is : List Nat} : evS C (.par is as) σ h = (evEs C as σ h).fl σ fun ds h => match setEs is ds σ with
    | some σ' => .nx σ' h
    | none => .fail := by rw [evS] <;> rfl
@[simp] theorem evS_put : evS C (.put a b c) σ h = (evE C c σ h).fl σ fun v h => (evE C a σ h).fl σ fun x h => (evE C b σ h).fl σ fun y h => match putD x y v h with
    | some h' => .nx σ h'
    | none => .fail := by rw [evS] <;> rfl
@[simp] theorem evS_expr : evS C (.expr a) σ h = (evE C a σ h).fl σ fun _ h => .nx σ h := by rw [evS] <;> rfl
@[simp] theorem evS_ret : evS C (.ret a) σ h = (evE C a σ h).fl σ fun d h => .rt d h := by rw [evS] <;> rfl
@[simp] theorem evS_retN : evS C .retN σ h = .rt .non h := by rw [evS] <;> rfl
@[simp] theorem evS_pass : evS C .pass σ h = .nx σ h := by rw [evS] <;> rfl
@[simp] theorem evS_ite : evS C (.ite a r r') σ h = ((evE C a σ h).bind fun x h => Out.of (truD h x) h).fl σ fun t h => if t then evSs C r σ h else evSs C r' σ h := by rw [evS] <;> rfl
@[simp] theorem evS_raise {x : String} : evS C (.raise x) σ h = .ex x σ h := by rw [evS] <;> rfl
@[simp] theorem evSs_nil : evSs C .nil σ h = .nx σ h := by rw [evSs] <;> rfl
@[simp] theorem evSs_cons : evSs C (.cons s r) σ h = (match evS C s σ h with
    | .nx σ' h' => evSs C r σ' h'
    | o => o) := by rw [evSs] <;> rfl
@[simp] theorem start_eq {d : MDef} {xs : List D} : Lt.start d xs = xs.map some ++ List.replicate (d.ns - xs.length) none := rfl
@[simp] theorem out_nx : (Fl.nx σ h).out = .ok .non h := rfl
@[simp] theorem out_rt {d : D} : (Fl.rt d h).out = .ok d h := rfl
@[simp] theorem out_ex {x : String} : (Fl.ex x σ h).out = .ex x h := rfl
variable {d : D} {ds : List D} {g : Nat → Option D} {n : Nat}
@[simp] theorem free_non : D.free .non = true := rfl
@[simp] theorem free_bl {x : Bool} : D.free (.bl x) = true := rfl
@[simp] theorem free_int {x : Int} : D.free (.int x) = true := rfl
@[simp] theorem free_str {x : Str} : D.free (.str x) = true := rfl
@[simp] theorem free_scr {x : List Int} : D.free (.scr x) = true := rfl
@[simp] theorem free_tup : D.free (.tup ds) = D.freeL ds := by rw [D.free] <;> rfl
@[simp] theorem free_lst : D.free (.lst ds) = D.freeL ds := by rw [D.free] <;> rfl
@[simp] theorem freeL_nil : D.freeL [] = true := rfl
@[simp] theorem freeL_cons : D.freeL (d :: ds) = (d.free && D.freeL ds) := by rw [D.freeL] <;> rfl
end

mutual
theorem frz_free {g : Nat → Option D} {n : Nat} : ∀ {d : D}, d.free = true → D.frz g n d = some d
  | .non, _ => rfl
  | .bl _, _ => rfl
  | .int _, _ => rfl
  | .str _, _ => rfl
  | .tup xs, h => by simp only [D.free] at h; simp only [D.frz, frz_freeL h]
  | .lst xs, h => by simp only [D.free] at h; simp only [D.frz, frz_freeL h]
  | .dic t kvs, h => by simp only [D.free] at h; simp only [D.frz, frz_freeP h]
  | .loc n, h => by simp [D.free] at h
  | .scr _, _ => rfl
  | .fn _, _ => rfl
  | .ty _, _ => rfl
  | .wt _, h => by simp [D.free] at h
  | .exc _, _ => rfl
  | .adr _, _ => rfl
theorem frz_freeL {g : Nat → Option D} {n : Nat} : ∀ {ds : List D}, D.freeL ds = true → D.frzL g n ds = some ds
  | [], _ => rfl
  | x :: r, h => by
    simp only [D.freeL, Bool.and_eq_true] at h
    simp only [D.frzL, frz_free h.1, frz_freeL h.2]
theorem frz_freeP {g : Nat → Option D} {n : Nat} : ∀ {ds : List (Ky × D)}, D.freeP ds = true → D.frzP g n ds = some ds
  | [], _ => rfl
  | (k, x) :: r, h => by
    simp only [D.freeP, Bool.and_eq_true] at h
    simp only [D.frzP, frz_free h.1, frz_freeP h.2]
end
theorem freeL_app {xs ys : List D} : D.freeL (xs ++ ys) = (D.freeL xs && D.freeL ys) := by
  induction xs with
  | nil => simp
  | cons a r ih => simp [ih, Bool.and_assoc]
theorem freeL_iff {xs : List D} : D.freeL xs = true ↔ ∀ x ∈ xs, x.free = true := by
  induction xs with
  | nil => simp
  | cons a r ih => simp [ih]

/-! ### calls -/
/-- a pure def whose answer is free -/
theorem fnPure {P : Prg} {k : Nat} {f : String} {d : MDef} {xs : List D} {h h' : MHeap} {v : D} (e : P.tab.lookup f = some d) (hp : d.pol = .pure) (hl : xs.length = d.ps.length) (hf : D.freeL xs = true)
    (hb : (evSs (calls P k) d.body (Lt.start d xs) []).out = .ok v h') (hv : v.free = true) : (calls P (k + 1)).fn f xs h = .ok v h := by
  rw [callsFn e]
  simp only [runDef, hl, if_true, hp, hf, hb, frz, frz_free hv]
/-- a pure def whose answer is a list made in it -/
theorem fnPureL {P : Prg} {k : Nat} {f : String} {d : MDef} {xs : List D} {h h' : MHeap} {n : Nat} {ys : List D} (e : P.tab.lookup f = some d) (hp : d.pol = .pure) (hl : xs.length = d.ps.length) (hf : D.freeL xs = true)
    (hb : (evSs (calls P k) d.body (Lt.start d xs) []).out = .ok (.loc n) h') (hn : h'[n]? = some (.lst ys)) (hv : D.freeL ys = true) : (calls P (k + 1)).fn f xs h = .ok (.lst ys) h := by
  rw [callsFn e]
  simp only [runDef, hl, if_true, hp, hf, hb, frz, D.frz, Nat.not_lt_zero, if_false, frzAt, hn, frz_freeL hv]
/-- a def that goes on with the heap -/
theorem fnTrunc {P : Prg} {k : Nat} {f : String} {d : MDef} {xs : List D} {h h' : MHeap} {v v' : D} (e : P.tab.lookup f = some d) (hp : d.pol = .trunc) (hl : xs.length = d.ps.length)
    (hb : (evSs (calls P k) d.body (Lt.start d xs) h).out = .ok v h') (h1 : h.length ≤ h'.length) (h2 : (h'.take h.length).all (MObj.low h.length) = true) (hv : frz h' h.length v = some v') : (calls P (k + 1)).fn f xs h = .ok v' (h'.take h.length) := by
  rw [callsFn e]
  simp only [runDef, hl, if_true, hp, hb, h1, h2, decide_true, Bool.and_self, hv]
theorem fnRaw {P : Prg} {k : Nat} {f : String} {d : MDef} {xs : List D} {h : MHeap} (e : P.tab.lookup f = some d) (hp : d.pol = .raw) (hl : xs.length = d.ps.length) : (calls P (k + 1)).fn f xs h = (evSs (calls P k) d.body (Lt.start d xs) h).out := by
  rw [callsFn e]
  simp only [runDef, hl, if_true, hp]

/-! ### comprehensions -/
theorem foldPure {g : D → List D → MHeap → Out (List D)} {its : Items} {h : MHeap} {f : D → List D} (hok : its.okIn h = true) : ∀ (xs acc : List D), (∀ x ∈ xs, ∀ acc : List D, acc.length < BIG → g x acc h = .ok (acc ++ f x) h) → (∀ x ∈ xs, (f x).length ≤ 1) → acc.length + xs.length ≤ BIG →
    compFold g its xs acc h = .ok (acc ++ xs.flatMap f) h
  | [], acc, _, _, _ => by simp [compFold, hok]
  | x :: r, acc, hg, h1, hl => by
    have hf := h1 x List.mem_cons_self
    simp only [List.length_cons] at hl
    simp only [compFold, hok, if_true, hg x List.mem_cons_self acc (by omega)]
    rw [foldPure hok r (acc ++ f x) (fun y hy => hg y (List.mem_cons_of_mem _ hy)) (fun y hy => h1 y (List.mem_cons_of_mem _ hy)) (by simp only [List.length_append]; omega)]
    simp
theorem flat_filter {xs : List D} {p : D → Bool} {f : D → D} : xs.flatMap (fun x => if p x = true then [f x] else []) = (xs.filter p).map f := by
  induction xs with
  | nil => rfl
  | cons x r ih =>
    simp only [List.flatMap_cons, ih, List.filter_cons]
    split <;> simp
theorem evComp {C : Calls} {own : Bool} {elt : ME} {tg : MT} {it : MI} {ifs : MEs} {vs : List Nat} {σ : Env} {h : MHeap} {its : Items} (p : D → Bool) (f : D → D) (hi : evI C it σ h = .ok its h) (hok : its.okIn h = true)
    (hb : ∀ x ∈ its.xs, ∃ σ2, bindT tg x (wipeE σ vs) = some σ2 ∧ evAll C ifs σ2 h = .ok (p x) h ∧ (p x = true → evE C elt σ2 h = .ok (f x) h)) (hl : its.xs.length ≤ BIG) :
    evE C (.comp own elt tg it ifs vs) σ h = mkL own ((its.xs.filter p).map f) h := by
  rw [evE, hi, bindOk, foldPure (f := fun x => if p x = true then [f x] else []) hok its.xs [] ?_ ?_ (by simpa using hl), bindOk, List.nil_append, flat_filter]
  · intro x hx acc ha
    obtain ⟨σ2, e1, e2, e3⟩ := hb x hx
    simp only [bindO, e1, e2, bindOk]
    cases q : p x with
    | true => simp [e3 q, pushA, ha, Out.noex]
    | false => simp [Out.noex]
  · intro x _
    split <;> simp
/-- all items taken -/
theorem evMap {C : Calls} {own : Bool} {elt : ME} {tg : MT} {it : MI} {vs : List Nat} {σ : Env} {h : MHeap} {its : Items} (f : D → D) (hi : evI C it σ h = .ok its h) (hok : its.okIn h = true)
    (hb : ∀ x ∈ its.xs, ∃ σ2, bindT tg x (wipeE σ vs) = some σ2 ∧ evE C elt σ2 h = .ok (f x) h) (hl : its.xs.length ≤ BIG) :
    evE C (.comp own elt tg it .nil vs) σ h = mkL own (its.xs.map f) h := by
  rw [evComp (fun _ => true) f hi hok (fun x hx => let ⟨σ2, e1, e2⟩ := hb x hx; ⟨σ2, e1, by simp, fun _ => e2⟩) hl]
  congr 2
  exact List.filter_eq_self.mpr fun _ _ => rfl
theorem foldPureN {g : D → List D → MHeap → Out (List D)} {its : Items} {h : MHeap} {f : D → List D} (hok : its.okIn h = true) : ∀ (xs acc : List D), (∀ x ∈ xs, ∀ acc : List D, acc.length + (f x).length ≤ BIG → g x acc h = .ok (acc ++ f x) h) → acc.length + (xs.flatMap f).length ≤ BIG →
    compFold g its xs acc h = .ok (acc ++ xs.flatMap f) h
  | [], acc, _, _ => by simp [compFold, hok]
  | x :: r, acc, hg, hl => by
    rw [List.flatMap_cons, List.length_append] at hl
    simp only [compFold, hok, if_true, hg x List.mem_cons_self acc (by omega)]
    rw [foldPureN hok r (acc ++ f x) (fun y hy => hg y (List.mem_cons_of_mem _ hy)) (by simp only [List.length_append]; omega)]
    simp
theorem evMap2 {C : Calls} {own : Bool} {elt : ME} {tg tg1 : MT} {it it1 : MI} {vs vs1 : List Nat} {σ : Env} {h : MHeap} {its : Items} (ys : D → List D) (f : D → D → D) (hi : evI C it σ h = .ok its h) (hok : its.okIn h = true)
    (hb : ∀ x ∈ its.xs, ∃ σ2, bindT tg x (wipeE σ vs) = some σ2 ∧ evI C it1 σ2 h = .ok ⟨ys x, none⟩ h ∧ ∀ y ∈ ys x, ∃ σ3, bindT tg1 y (wipeE σ2 vs1) = some σ3 ∧ evE C elt σ3 h = .ok (f x y) h)
    (hl : (its.xs.flatMap fun x => (ys x).map (f x)).length ≤ BIG) : evE C (.comp2 own elt tg it tg1 it1 vs vs1) σ h = mkL own (its.xs.flatMap fun x => (ys x).map (f x)) h := by
  rw [evE, hi, bindOk, foldPureN (f := fun x => (ys x).map (f x)) hok its.xs [] ?_ (by simpa using hl), bindOk, List.nil_append]
  intro x hx acc ha
  obtain ⟨σ2, e1, e2, e3⟩ := hb x hx
  have e4 : (ys x).map (f x) = (ys x).flatMap fun y => [f x y] := by rw [← List.map_eq_flatMap]
  simp only [bindO, e1, e2, bindOk]
  rw [foldPureN (f := fun y => [f x y]) rfl (ys x) acc ?_ (by rw [← e4]; exact ha)]
  · simp [Out.noex, e4]
  · intro y hy acc' ha'
    obtain ⟨σ3, e5, e6⟩ := e3 y hy
    simp only [List.length_singleton] at ha'
    simp [e5, e6, pushA, show acc'.length < BIG by omega, Out.noex]
theorem mkL_ok {xs : List D} {h : MHeap} (hl : xs.length ≤ BIG) : mkL false xs h = .ok (.lst xs) h := by simp [mkL, hl]
theorem mkL_own {xs : List D} {h : MHeap} (hl : xs.length ≤ BIG) : mkL true xs h = .ok (.loc h.length) (h ++ [.lst xs]) := by simp [mkL, hl]
theorem mkT_ok {xs : List D} {h : MHeap} (hl : xs.length ≤ BIG) : mkT xs h = .ok (.tup xs) h := by simp [mkT, hl]
theorem bools_map {α : Type} {xs : List α} {p : α → Bool} : bools (xs.map fun x => .bl (p x)) = some (xs.map p) := by
  induction xs with
  | nil => rfl
  | cons x r ih => simp [bools, ih]
theorem allB {own : Bool} {bs : List Bool} {h : MHeap} : bltD own "all" [.lst (bs.map .bl)] h = .ok (.bl (bs.all id)) h := by
  have := bools_map (xs := bs) (p := id)
  simp only [id] at this
  simp [bltD, seqOf, this]
theorem cut_from {α : Type} {xs : List α} (k : Nat) : cutX xs (some (k : Int)) none = xs.drop k := by
  unfold cutX
  rw [HT.sIx_nat, HT.sIx_none]
  by_cases hk : k ≤ xs.length
  · rw [Nat.min_eq_left hk]
    exact List.take_of_length_le (by simp)
  · rw [Nat.min_eq_right (by omega), List.drop_length, List.drop_of_length_le (by omega)]
    simp
theorem cut_to {α : Type} {xs : List α} (k : Nat) : cutX xs none (some (k : Int)) = xs.take k := by
  unfold cutX
  rw [HT.sIx_nat, HT.sIx_none]
  by_cases hk : k ≤ xs.length
  · rw [Nat.min_eq_left hk]
    simp
  · rw [Nat.min_eq_right (by omega), List.take_of_length_le (by simp), List.take_of_length_le (by omega)]
    simp
theorem at_nat {α : Type} {xs : List α} (k : Nat) : L2.atI xs (k : Int) = xs[k]? := by
  unfold L2.atI L2.ixN
  rw [if_pos (by omega)]
  by_cases hk : k < xs.length
  · rw [if_pos (by omega)]
    simp
  · rw [if_neg (by omega), List.getElem?_eq_none (by omega)]
    rfl
theorem mem_zw {α β γ : Type} {f : α → β → γ} : ∀ {xs : List α} {ys : List β} {z : γ}, z ∈ List.zipWith f xs ys → ∃ a ∈ xs, ∃ b ∈ ys, z = f a b
  | [], _, _, h => by simp at h
  | _ :: _, [], _, h => by simp at h
  | x :: xs, y :: ys, z, h => by
    rw [List.zipWith_cons_cons] at h
    rcases List.mem_cons.mp h with h | h
    · exact ⟨x, List.mem_cons_self, y, List.mem_cons_self, h⟩
    · obtain ⟨a, ha, b, hb, e⟩ := mem_zw h
      exact ⟨a, List.mem_cons_of_mem _ ha, b, List.mem_cons_of_mem _ hb, e⟩
theorem all_ok {α : Type} {own : Bool} {xs : List α} {p : α → Bool} {h : MHeap} : bltD own "all" [.lst (xs.map fun x => .bl (p x))] h = .ok (.bl (xs.all p)) h := by
  simp [bltD, seqOf, bools_map, List.all_map]
theorem any_ok {α : Type} {own : Bool} {xs : List α} {p : α → Bool} {h : MHeap} : bltD own "any" [.lst (xs.map fun x => .bl (p x))] h = .ok (.bl (xs.any p)) h := by
  simp [bltD, seqOf, bools_map, List.any_map]

/-! ### operations on shapes -/
section
variable {own : Bool} {h : MHeap} {x y : D} {i j : Int} {s t : Str} {xs ys : List D}
@[simp] theorem blt_int : bltD own "isinstance" [x, .ty "int"] h = Out.of ((isD h x "int").map .bl) h := rfl
@[simp] theorem blt_bool : bltD own "isinstance" [x, .ty "bool"] h = Out.of ((isD h x "bool").map .bl) h := rfl
@[simp] theorem blt_str : bltD own "isinstance" [x, .ty "str"] h = Out.of ((isD h x "str").map .bl) h := rfl
@[simp] theorem blt_tuple : bltD own "isinstance" [x, .ty "tuple"] h = Out.of ((isD h x "tuple").map .bl) h := rfl
@[simp] theorem blt_list : bltD own "isinstance" [x, .ty "list"] h = Out.of ((isD h x "list").map .bl) h := rfl
@[simp] theorem is_non {t : String} : isD h .non t = some (decide (t = "NoneType")) := rfl
@[simp] theorem is_bl {t : String} {b : Bool} : isD h (.bl b) t = some (decide (t = "bool") || decide (t = "int")) := rfl
@[simp] theorem is_int {t : String} : isD h (.int i) t = some (decide (t = "int")) := rfl
@[simp] theorem is_str {t : String} : isD h (.str s) t = some (decide (t = "str")) := rfl
@[simp] theorem is_tup {t : String} : isD h (.tup xs) t = some (decide (t = "tuple")) := rfl
@[simp] theorem is_lst {t : String} : isD h (.lst xs) t = some (decide (t = "list")) := rfl
@[simp] theorem blt_len : bltD own "len" [x] h = Out.of ((lenD h x).map fun (n : Nat) => .int (n : Int)) h := rfl
@[simp] theorem len_tup : lenD h (.tup xs) = some xs.length := rfl
@[simp] theorem len_lst : lenD h (.lst xs) = some xs.length := rfl
@[simp] theorem len_scr {ns : List Int} : lenD h (.scr ns) = some ns.length := by simp [lenD, itemsOf]
theorem len_str (hl : s.length ≤ BIG) : lenD h (.str s) = some s.length := by simp [lenD, hl]
@[simp] theorem blt_tupT : bltD own "tuple" [.tup xs] h = .ok (.tup xs) h := rfl
@[simp] theorem blt_tupL : bltD own "tuple" [.lst xs] h = .ok (.tup xs) h := rfl
theorem blt_tupO {n : Nat} (e : h[n]? = some (.lst xs)) : bltD own "tuple" [.loc n] h = .ok (.tup xs) h := by simp [bltD, seqOf, e]
@[simp] theorem blt_lstT : bltD own "list" [.tup xs] h = mkL own xs h := rfl
@[simp] theorem blt_abs : bltD own "abs" [.int i] h = .ok (.int (if i < 0 then -i else i)) h := rfl
@[simp] theorem tru_non : truD h .non = some false := rfl
@[simp] theorem tru_bl {b : Bool} : truD h (.bl b) = some b := rfl
@[simp] theorem tru_int : truD h (.int i) = some (i != 0) := rfl
@[simp] theorem tru_tup : truD h (.tup xs) = some (!xs.isEmpty) := rfl
@[simp] theorem tru_lst : truD h (.lst xs) = some (!xs.isEmpty) := rfl
@[simp] theorem tru_scr {ns : List Int} : truD h (.scr ns) = some (!ns.isEmpty) := rfl
@[simp] theorem cmp_le : cmpD .LtE (.int i) (.int j) h = some (decide (i ≤ j)) := rfl
@[simp] theorem cmp_lt : cmpD .Lt (.int i) (.int j) h = some (decide (i < j)) := rfl
@[simp] theorem cmp_ge : cmpD .GtE (.int i) (.int j) h = some (decide (j ≤ i)) := rfl
@[simp] theorem cmp_gt : cmpD .Gt (.int i) (.int j) h = some (decide (j < i)) := rfl
@[simp] theorem cmp_lts : cmpD .Lt (.str s) (.str t) h = some (strLt s t) := rfl
@[simp] theorem cmp_eq : cmpD .Eq x y h = eqD h x y := rfl
@[simp] theorem cmp_ne : cmpD .NotEq x y h = (eqD h x y).map (!·) := rfl
@[simp] theorem cmp_in : cmpD .In x y h = inD h x y := rfl
@[simp] theorem cmp_nin : cmpD .NotIn x y h = (inD h x y).map (!·) := rfl
@[simp] theorem eq_ii : eqD h (.int i) (.int j) = some (i == j) := rfl
@[simp] theorem eq_bb {a b : Bool} : eqD h (.bl a) (.bl b) = some (a == b) := rfl
theorem eq_dd (hx : okD 64 (res h x) = true) (hy : okD 64 (res h y) = true) : eqD h x y = some (deq (res h x) (res h y)) := by simp [eqD, hx, hy]
@[simp] theorem bin_ii : binD own .Add (.int i) (.int j) h = .ok (.int (i + j)) h := rfl
@[simp] theorem bin_tt : binD own .Add (.tup xs) (.tup ys) h = mkT (xs ++ ys) h := rfl
@[simp] theorem bin_ll : binD own .Add (.lst xs) (.lst ys) h = mkL own (xs ++ ys) h := rfl
@[simp] theorem bin_si : binD own .Sub (.int i) (.int j) h = .ok (.int (i - j)) h := rfl
@[simp] theorem bin_mi : binD own .Mult (.int i) (.int j) h = if mulOk i j then .ok (.int (i * j)) h else .fail := rfl
@[simp] theorem bin_di : binD own .FloorDiv (.int i) (.int j) h = if divOk j then .ok (.int (i.fdiv j)) h else .fail := rfl
@[simp] theorem bin_ri : binD own .Mod (.int i) (.int j) h = if j = 0 then .fail else .ok (.int (i.fmod j)) h := rfl
@[simp] theorem bin_pi : binD own .Pow (.int i) (.int j) h = if decide (0 ≤ j) && decide (j ≤ 1000000) && decide (i.natAbs < 2 ^ 64) then .ok (.int (i ^ j.toNat)) h else .fail := rfl
@[simp] theorem get_tup : getD (.tup xs) (.int i) h = L2.atI xs i := rfl
@[simp] theorem get_lst : getD (.lst xs) (.int i) h = L2.atI xs i := rfl
@[simp] theorem get_scr {ns : List Int} : getD (.scr ns) (.int i) h = L2.atI (ns.map .int) i := rfl
@[simp] theorem cut_tup {lo hi : Option Int} : cutD own (.tup xs) lo hi h = .ok (.tup (cutX xs lo hi)) h := rfl
@[simp] theorem cut_lst {lo hi : Option Int} : cutD own (.lst xs) lo hi h = mkL own (cutX xs lo hi) h := rfl
@[simp] theorem walk_tup : walkOf h (.tup xs) = some ⟨xs, none⟩ := rfl
@[simp] theorem walk_lst : walkOf h (.lst xs) = some ⟨xs, none⟩ := rfl
@[simp] theorem walk_str : walkOf h (.str s) = some ⟨s.cps.toList.map fun c => .str ⟨#[c]⟩, none⟩ := rfl
@[simp] theorem walkA_tup : walkA (.tup xs) h = .ok ⟨xs, none⟩ h := rfl
@[simp] theorem walkA_lst : walkA (.lst xs) h = .ok ⟨xs, none⟩ h := rfl
@[simp] theorem walkA_str : walkA (.str s) h = .ok ⟨s.cps.toList.map fun c => .str ⟨#[c]⟩, none⟩ h := rfl
theorem walkA_of {its : Items} (e : walkOf h x = some its) : walkA x h = .ok its h := by simp [walkA, e]
theorem heardEx {x w : String} (e : exWord x = some w) : heardO (.ex x h) = .ok (.tup [.str (Str.ofString w)]) h := by simp [heardO, e]
@[simp] theorem heardSide : heardO (.ex "NoSide" h) = .ok (.tup [.str (Str.ofString "no side")]) h := rfl
@[simp] theorem heardChoice : heardO (.ex "NoChoice" h) = .ok (.tup [.str (Str.ofString "no choice")]) h := rfl
@[simp] theorem heardLeft : heardO (.ex "NoLeft" h) = .ok (.tup [.str (Str.ofString "no left")]) h := rfl
@[simp] theorem heardRule : heardO (.ex "NoRule" h) = .ok (.tup [.str (Str.ofString "no rule")]) h := rfl
@[simp] theorem heardStrike : heardO (.ex "NoStrike" h) = .ok (.tup [.str (Str.ofString "no strike")]) h := rfl
@[simp] theorem heard_ok : heardO (.ok x h) = .ok (.tup [.str (Str.ofString "told"), x]) h := rfl
@[simp] theorem okIn_none : Items.okIn ⟨xs, none⟩ h = true := rfl
end

/-! ### loops -/
theorem range0 {n : Nat} (h : n ≤ 1000000) : rangeD 0 (n : Int) = some ⟨(List.range n).map fun (i : Nat) => .int (i : Int), none⟩ := by
  unfold rangeD
  rw [if_pos]
  · simp
  · simp only [Bool.and_eq_true, decide_eq_true_eq]
    omega
/-- one turn -/
def bodyOf (C : Calls) (tg : MT) (body : MSs) : D → Env → MHeap → Fl := fun x σ h => match bindT tg x σ with
  | some σ' => evSs C body σ' h
  | none => .fail
theorem evFor {C : Calls} {tg : MT} {it : MI} {body : MSs} {σ : Env} {h h1 : MHeap} {its : Items} {r : Fl} (hi : evI C it σ h = .ok its h1) (hr : forRun (bodyOf C tg body) its its.xs σ h1 = r) : evS C (.for tg it body) σ h = r := by
  rw [evS.eq_11, hi, flOk]
  exact hr
theorem bodyEq {C : Calls} {tg : MT} {body : MSs} {x : D} {σ σ' : Env} {h : MHeap} {r : Fl} (e : bindT tg x σ = some σ') (q : evSs C body σ' h = r) : bodyOf C tg body x σ h = r := by simp [bodyOf, e, q]
theorem seqNx {C : Calls} {s : MS} {r : MSs} {σ σ' : Env} {h h' : MHeap} (e : evS C s σ h = .nx σ' h') : evSs C (.cons s r) σ h = evSs C r σ' h' := by simp [evSs, e]
theorem seqOne {C : Calls} {s : MS} {σ σ' : Env} {h h' : MHeap} (e : evS C s σ h = .nx σ' h') : evSs C (.cons s .nil) σ h = .nx σ' h' := by simp [evSs, e]
theorem forCons {f : D → Env → MHeap → Fl} {its : Items} {x : D} {l : List D} {σ σ' : Env} {h h' : MHeap} (ok : its.okIn h = true) (e : f x σ h = .nx σ' h') : forRun f its (x :: l) σ h = forRun f its l σ' h' := by simp [forRun, ok, e]
theorem forNil {f : D → Env → MHeap → Fl} {its : Items} {σ : Env} {h : MHeap} (ok : its.okIn h = true) : forRun f its [] σ h = .nx σ h := by simp [forRun, ok]
theorem okGd {its : Items} {h : MHeap} (e : its.gd = none) : its.okIn h = true := by simp [Items.okIn, e]
theorem appO {n : Nat} {x : D} {ys : List D} {h : MHeap} (e : h[n]? = some (.lst ys)) (hl : ys.length < BIG) : methD "append" (.loc n) [x] h = .ok .non (h.set n (.lst (ys ++ [x]))) := by simp [methD, appD, e, hl]
theorem rcvO {n : Nat} {ys : List D} {h : MHeap} (e : h[n]? = some (.lst ys)) : recvD "append" (.loc n) h = true := by simp [recvD, seqOf, e]
theorem forInv {f : D → Env → MHeap → Fl} {its : Items} (I : List D → List D → Env → MHeap → Prop) (hok : ∀ a b σ h, I a b σ h → its.okIn h = true)
    (hs : ∀ a x b σ h, I a (x :: b) σ h → ∃ σ' h', f x σ h = .nx σ' h' ∧ I (a ++ [x]) b σ' h') : ∀ (a b : List D) (σ : Env) (h : MHeap), I a b σ h → ∃ σ' h', forRun f its b σ h = .nx σ' h' ∧ I (a ++ b) [] σ' h'
  | a, [], σ, h, q => ⟨σ, h, by simp [forRun, hok _ _ _ _ q], by simpa using q⟩
  | a, x :: b, σ, h, q => by
    obtain ⟨σ1, h1, e1, q1⟩ := hs a x b σ h q
    obtain ⟨σ2, h2, e2, q2⟩ := forInv I hok hs (a ++ [x]) b σ1 h1 q1
    exact ⟨σ2, h2, by simp [forRun, hok _ _ _ _ q, e1, e2], by simpa using q2⟩
end Lt

namespace Q
open Lt PySem
/-- the def f of the text is d -/
class Hf (P : Prg) (f : String) (d : outParam MDef) : Prop where
  look : P.tab.lookup f = some d
/-- .. whatever its parameters are called -/
class Hd (P : Prg) (f : String) (ar ns : Nat) (pol : Pol) (b : MSs) : Prop where
  look : ∃ ps : List String, ps.length = ar ∧ P.tab.lookup f = some ⟨ps, ns, pol, b⟩
/-- the constant x of the text is d -/
class Hc (P : Prg) (x : String) (d : outParam D) : Prop where
  look : P.cst.lookup x = some d
/-- the tuple of texts x of the text is l -/
class Ht (P : Prg) (x : String) (l : outParam (List Str)) : Prop where
  look : P.tcs.lookup x = some l
/-- the text's class -/
class Hn (P : Prg) : Prop where
  look : P.cn = "Desk"
@[simp] def b_is_number : MSs :=
    (.cons (.ret (.and (.cons (.blt false "isinstance" (.cons (.var 0) (.cons (.ty "int") .nil))) (.cons (.not (.blt false "isinstance" (.cons (.var 0) (.cons (.ty "bool") .nil)))) (.cons (.chain .LtE .LtE (.var 1) (.var 0) (.var 2)) .nil)))))
    .nil)
def d_is_number : MDef := ⟨["thing", "least", "most"], 3, .pure, b_is_number⟩
def n_is_number : List String := ["thing", "least", "most"]
@[simp] def b_is_name : MSs :=
    (.cons (.ret (.and (.cons (.blt false "isinstance" (.cons (.var 0) (.cons (.ty "str") .nil))) (.cons (.chain .LtE .LtE (.int 1) (.blt false "len" (.cons (.var 0) .nil)) (.int 6)) (.cons (.blt false "all" (.cons (.comp false (.cmp .In (.var 1) (.glob "LETTERS")) (.name 1) (.val (.var 0)) .nil [1]) .nil)) .nil)))))
    .nil)
def d_is_name : MDef := ⟨["thing"], 2, .pure, b_is_name⟩
def n_is_name : List String := ["thing", "sign"]
@[simp] def b_is_rising : MSs :=
    (.cons (.ret (.blt false "all" (.cons (.comp false (.cmp .Lt (.var 1) (.var 2)) (.tup [(.name 1), (.name 2)]) (.zip (.var 0) (.cut false (.var 0) (.some (.int 1)) .none)) .nil [1, 2]) .nil)))
    .nil)
def d_is_rising : MDef := ⟨["thing"], 3, .pure, b_is_rising⟩
def n_is_rising : List String := ["thing", "one", "other"]
@[simp] def b_are_choices : MSs :=
    (.cons (.ite (.or (.cons (.not (.blt false "isinstance" (.cons (.var 0) (.cons (.ty "tuple") .nil)))) (.cons (.not (.chain .LtE .LtE (.int 1) (.blt false "len" (.cons (.var 0) .nil)) (.int 4))) (.cons (.not (.blt false "all" (.cons (.comp false (.call "is_name" (.cons (.var 1) .nil)) (.name 1) (.val (.var 0)) .nil [1]) .nil))) .nil))))
    (.cons (.ret (.bl false))
      .nil)
    .nil)
    (.cons (.ret (.call "is_rising" (.cons (.var 0) .nil)))
    .nil))
def d_are_choices : MDef := ⟨["thing"], 2, .pure, b_are_choices⟩
def n_are_choices : List String := ["thing", "one"]
@[simp] def b_is_cell : MSs :=
    (.cons (.ret (.and (.cons (.blt false "isinstance" (.cons (.var 0) (.cons (.ty "tuple") .nil))) (.cons (.cmp .Eq (.blt false "len" (.cons (.var 0) .nil)) (.int 2)) (.cons (.blt false "all" (.cons (.comp false (.call "is_number" (.cons (.var 1) (.cons (.neg (.glob "FAR")) (.cons (.glob "FAR") .nil)))) (.name 1) (.val (.var 0)) .nil [1]) .nil)) .nil)))))
    .nil)
def d_is_cell : MDef := ⟨["thing"], 2, .pure, b_is_cell⟩
def n_is_cell : List String := ["thing", "one"]
@[simp] def b_is_table : MSs :=
    (.cons (.ite (.or (.cons (.not (.blt false "isinstance" (.cons (.var 0) (.cons (.ty "tuple") .nil)))) (.cons (.cmp .NotEq (.blt false "len" (.cons (.var 0) .nil)) (.int 3)) (.cons (.not (.call "are_choices" (.cons (.ix (.var 0) (.int 0)) .nil))) (.cons (.not (.call "are_choices" (.cons (.ix (.var 0) (.int 1)) .nil))) .nil)))))
    (.cons (.ret (.bl false))
      .nil)
    .nil)
    (.cons (.unp [(.name 1), (.name 2), (.name 3)] (.var 0))
    (.cons (.ite (.or (.cons (.not (.blt false "isinstance" (.cons (.var 3) (.cons (.ty "tuple") .nil)))) (.cons (.cmp .NotEq (.blt false "len" (.cons (.var 3) .nil)) (.blt false "len" (.cons (.var 1) .nil))) .nil)))
    (.cons (.ret (.bl false))
      .nil)
    .nil)
    (.cons (.ite (.not (.blt false "all" (.cons (.comp false (.and (.cons (.blt false "isinstance" (.cons (.var 4) (.cons (.ty "tuple") .nil))) (.cons (.cmp .Eq (.blt false "len" (.cons (.var 4) .nil)) (.blt false "len" (.cons (.var 2) .nil))) .nil))) (.name 4) (.val (.var 3)) .nil [4]) .nil)))
    (.cons (.ret (.bl false))
      .nil)
    .nil)
    (.cons (.ret (.blt false "all" (.cons (.comp2 false (.call "is_cell" (.cons (.var 5) .nil)) (.name 4) (.val (.var 3)) (.name 5) (.val (.var 4)) [4, 5] [5]) .nil)))
    .nil)))))
def d_is_table : MDef := ⟨["thing"], 6, .pure, b_is_table⟩
def n_is_table : List String := ["thing", "ones", "others", "cells", "line", "cell"]
@[simp] def b_are_some : MSs :=
    (.cons (.ite (.or (.cons (.not (.blt false "isinstance" (.cons (.var 1) (.cons (.ty "tuple") .nil)))) (.cons (.cmp .Eq (.var 1) (.tup .nil)) .nil)))
    (.cons (.ret (.bl false))
      .nil)
    .nil)
    (.cons (.ite (.not (.blt false "all" (.cons (.comp false (.and (.cons (.blt false "isinstance" (.cons (.var 2) (.cons (.ty "str") .nil))) (.cons (.cmp .In (.var 2) (.var 0)) .nil))) (.name 2) (.val (.var 1)) .nil [2]) .nil)))
    (.cons (.ret (.bl false))
      .nil)
    .nil)
    (.cons (.ret (.call "is_rising" (.cons (.var 1) .nil)))
    .nil)))
def d_are_some : MDef := ⟨["names", "thing"], 3, .pure, b_are_some⟩
def n_are_some : List String := ["names", "thing", "one"]
@[simp] def b_is_left : MSs :=
    (.cons (.ite (.or (.cons (.not (.blt false "isinstance" (.cons (.var 1) (.cons (.ty "tuple") .nil)))) (.cons (.cmp .NotEq (.blt false "len" (.cons (.var 1) .nil)) (.int 2)) .nil)))
    (.cons (.ret (.bl false))
      .nil)
    .nil)
    (.cons (.ret (.and (.cons (.call "are_some" (.cons (.ix (.var 0) (.int 0)) (.cons (.ix (.var 1) (.int 0)) .nil))) (.cons (.call "are_some" (.cons (.ix (.var 0) (.int 1)) (.cons (.ix (.var 1) (.int 1)) .nil))) .nil))))
    .nil))
def d_is_left : MDef := ⟨["table", "thing"], 2, .pure, b_is_left⟩
def n_is_left : List String := ["table", "thing"]
@[simp] def b_all_left : MSs :=
    (.cons (.ret (.tup (.cons (.ix (.var 0) (.int 0)) (.cons (.ix (.var 0) (.int 1)) .nil))))
    .nil)
def d_all_left : MDef := ⟨["table"], 1, .pure, b_all_left⟩
def n_all_left : List String := ["table"]
@[simp] def b__law_is : MSs :=
    (.cons (.ret (.and (.cons (.blt false "isinstance" (.cons (.var 0) (.cons (.ty "bool") .nil))) (.cons (.cmp .Eq (.var 0) (.var 1)) .nil))))
    .nil)
def d__law_is : MDef := ⟨["found", "due"], 2, .pure, b__law_is⟩
def n__law_is : List String := ["found", "due"]
@[simp] def b__law_draw : MSs :=
    (.cons (.put (.var 1) (.str (Str.ofString "count")) (.bin false .Add (.ix (.var 1) (.str (Str.ofString "count"))) (.int 1)))
    (.cons (.set 3 (.ite (.var 0) (.bin false .Mod (.ix (.var 1) (.str (Str.ofString "count"))) (.blt false "len" (.cons (.var 0) .nil))) (.int 0)))
    (.cons (.set 4 (.meth "get" (.ix (.var 1) (.str (Str.ofString "rests"))) (.cons (.var 3) (.cons (.ite (.var 0) (.ix (.var 0) (.var 3)) (.int 0)) .nil))))
    (.cons (.ite (.cmp .GtE (.var 4) (.bin false .Pow (.int 10) (.int 18)))
    (.cons (.put (.ix (.var 1) (.str (Str.ofString "rests"))) (.var 3) (.bin false .FloorDiv (.var 4) (.var 2)))
      (.cons (.ret (.bin false .Mod (.var 4) (.var 2)))
      .nil))
    .nil)
    (.cons (.set 5 (.bin false .Mod (.bin false .Add (.var 4) (.bin false .Mult (.int 104729) (.ix (.var 1) (.str (Str.ofString "count"))))) (.int 4294967291)))
    (.cons (.set 5 (.bin false .Mod (.bin false .Pow (.var 5) (.int 5)) (.int 4294967279)))
    (.cons (.ret (.bin false .Mod (.bin false .FloorDiv (.bin false .Mod (.bin false .Add (.bin false .Mult (.bin false .FloorDiv (.var 5) (.int 64)) (.int 69621)) (.var 5)) (.int 4294967231)) (.int 8)) (.var 2)))
    .nil)))))))
def d__law_draw : MDef := ⟨["script", "town", "many"], 6, .trunc, b__law_draw⟩
def n__law_draw : List String := ["script", "town", "many", "at", "rest", "number"]
@[simp] def b__law_begun : MSs :=
    (.cons (.ret (.dic true 0 (.cons (.str (Str.ofString "count")) (.cons (.int 0) (.cons (.str (Str.ofString "rests")) (.cons (.dic true 0 .nil) .nil))))))
    .nil)
def d__law_begun : MDef := ⟨[], 0, .raw, b__law_begun⟩
def n__law_begun : List String := []
@[simp] def b__law_a_table : MSs :=
    (.cons (.set 3 (.cut false (.tup (.cons (.str (Str.ofString "cat")) (.cons (.str (Str.ofString "dog")) (.cons (.str (Str.ofString "elk")) (.cons (.str (Str.ofString "fox")) .nil))))) .none (.some (.bin false .Add (.int 1) (.call "_law_draw" (.cons (.var 0) (.cons (.var 1) (.cons (.var 2) .nil))))))))
    (.cons (.set 4 (.cut false (.tup (.cons (.str (Str.ofString "red")) (.cons (.str (Str.ofString "sky")) (.cons (.str (Str.ofString "tan")) (.cons (.str (Str.ofString "umber")) .nil))))) .none (.some (.bin false .Add (.int 1) (.call "_law_draw" (.cons (.var 0) (.cons (.var 1) (.cons (.var 2) .nil))))))))
    (.cons (.par [5, 6] (.cons (.bin false .Add (.int 2) (.call "_law_draw" (.cons (.var 0) (.cons (.var 1) (.cons (.int 5) .nil))))) (.cons (.tup (.cons (.call "_law_draw" (.cons (.var 0) (.cons (.var 1) (.cons (.int 4) .nil)))) (.cons (.call "_law_draw" (.cons (.var 0) (.cons (.var 1) (.cons (.int 4) .nil)))) .nil))) .nil)))
    (.cons (.set 7 (.lst true .nil))
    (.cons (.for (.name 8) (.range1 (.blt false "len" (.cons (.var 3) .nil)))
    (.cons (.set 9 (.lst true .nil))
      (.cons (.for (.name 10) (.range1 (.blt false "len" (.cons (.var 4) .nil)))
      (.cons (.set 11 (.bin false .Add (.call "_law_draw" (.cons (.var 0) (.cons (.var 1) (.cons (.var 5) .nil)))) (.bin false .FloorDiv (.bin false .Mult (.var 8) (.ix (.var 6) (.int 0))) (.int 2))))
        (.cons (.set 12 (.bin false .Add (.call "_law_draw" (.cons (.var 0) (.cons (.var 1) (.cons (.var 5) .nil)))) (.bin false .FloorDiv (.bin false .Mult (.var 10) (.ix (.var 6) (.int 1))) (.int 2))))
        (.cons (.expr (.meth "append" (.var 9) (.cons (.tup (.cons (.var 11) (.cons (.var 12) .nil))) .nil)))
        .nil))))
      (.cons (.expr (.meth "append" (.var 7) (.cons (.blt false "tuple" (.cons (.var 9) .nil)) .nil)))
      .nil))))
    (.cons (.ret (.tup (.cons (.var 3) (.cons (.var 4) (.cons (.blt false "tuple" (.cons (.var 7) .nil)) .nil)))))
    .nil))))))
def d__law_a_table : MDef := ⟨["script", "town", "most"], 13, .trunc, b__law_a_table⟩
def n__law_a_table : List String := ["script", "town", "most", "ones", "others", "high", "lean", "cells", "at", "line", "place", "mine", "yours"]
@[simp] def b__law_some : MSs :=
    (.cons (.set 3 (.lst true .nil))
    (.cons (.for (.name 4) (.val (.cut false (.var 2) .none (.some (.int 2))))
    (.cons (.set 5 (.blt false "tuple" (.cons (.comp false (.var 6) (.name 6) (.val (.var 4)) (.cons (.cmp .Gt (.call "_law_draw" (.cons (.var 0) (.cons (.var 1) (.cons (.int 3) .nil)))) (.int 0)) .nil) [6]) .nil)))
      (.cons (.expr (.meth "append" (.var 3) (.cons (.ite (.cmp .NotEq (.var 5) (.tup .nil)) (.var 5) (.cut false (.var 4) .none (.some (.int 1)))) .nil)))
      .nil)))
    (.cons (.ret (.tup (.cons (.ix (.var 3) (.int 0)) (.cons (.ix (.var 3) (.int 1)) .nil))))
    .nil)))
def d__law_some : MDef := ⟨["script", "town", "table_here"], 7, .trunc, b__law_some⟩
def n__law_some : List String := ["script", "town", "table_here", "sides", "names", "some", "name"]
@[simp] def b__law_spoilt : MSs :=
    (.cons (.set 1 (.lst true .nil))
    (.cons (.ite (.not (.blt false "isinstance" (.cons (.var 0) (.cons (.ty "tuple") .nil))))
    (.cons (.ret (.var 1))
      .nil)
    .nil)
    (.cons (.for (.tup [(.name 2), (.name 3)]) (.enum (.var 0))
    (.cons (.for (.name 4) (.val (.bin false .Add (.lst false (.cons (.str (Str.ofString "!")) (.cons (.tup (.cons (.str (Str.ofString "!")) .nil)) (.cons (.int 100) (.cons (.lst false .nil) .nil))))) (.call "_law_spoilt" (.cons (.var 3) .nil))))
      (.cons (.expr (.meth "append" (.var 1) (.cons (.bin false .Add (.bin false .Add (.cut false (.var 0) .none (.some (.var 2))) (.tup (.cons (.var 4) .nil))) (.cut false (.var 0) (.some (.bin false .Add (.var 2) (.int 1))) .none)) .nil)))
        .nil))
      .nil))
    (.cons (.ret (.bin false .Add (.var 1) (.lst false (.cons (.blt false "list" (.cons (.var 0) .nil)) (.cons (.bin false .Add (.var 0) (.tup (.cons (.str (Str.ofString "!")) .nil))) (.cons (.bin false .Add (.var 0) (.tup (.cons (.int 100) .nil))) .nil))))))
    .nil))))
def d__law_spoilt : MDef := ⟨["thing_here"], 5, .pure, b__law_spoilt⟩
def n__law_spoilt : List String := ["thing_here", "found", "place", "one", "odd"]
@[simp] def b__law_ends : MSs :=
    (.cons (.set 0 (.tup (.cons (.str (Str.ofString "a")) (.cons (.str (Str.ofString "b")) (.cons (.str (Str.ofString "c")) (.cons (.str (Str.ofString "d")) .nil))))))
    (.cons (.set 1 (.lst false (.cons (.tup (.cons (.tup (.cons (.str (Str.ofString "a")) .nil)) (.cons (.tup (.cons (.str (Str.ofString "a")) .nil)) (.cons (.tup (.cons (.tup (.cons (.tup (.cons (.neg (.int 99)) (.cons (.int 99) .nil))) .nil)) .nil)) .nil)))) (.cons (.tup (.cons (.var 0) (.cons (.tup (.cons (.str (Str.ofString "abcdef")) .nil)) (.cons (.bin false .Mult (.tup (.cons (.tup (.cons (.tup (.cons (.int 0) (.cons (.int 0) .nil))) .nil)) .nil)) (.int 4)) .nil)))) (.cons (.tup (.cons (.tup (.cons (.str (Str.ofString "a")) .nil)) (.cons (.var 0) (.cons (.tup (.cons (.bin false .Mult (.tup (.cons (.tup (.cons (.int 1) (.cons (.int 2) .nil))) .nil)) (.int 4)) .nil)) .nil)))) .nil)))))
    (.cons (.ite (.cmp .NotEq (.comp false (.var 2) (.name 2) (.val (.var 1)) (.cons (.not (.call "_law_is" (.cons (.call "is_table" (.cons (.var 2) .nil)) (.cons (.bl true) .nil)))) .nil) [2]) (.lst false .nil))
    (.cons (.ret (.bl false))
      .nil)
    .nil)
    (.cons (.set 3 (.lst true (.cons (.tup (.cons (.tup .nil) (.cons (.tup (.cons (.str (Str.ofString "a")) .nil)) (.cons (.tup .nil) .nil)))) (.cons (.tup (.cons (.tup (.cons (.str (Str.ofString "a")) .nil)) (.cons (.tup .nil) (.cons (.tup (.cons (.tup .nil) .nil)) .nil)))) (.cons (.tup (.cons (.tup (.cons (.str (Str.ofString "a")) .nil)) (.cons (.tup (.cons (.str (Str.ofString "a")) .nil)) (.cons (.tup (.cons (.tup (.cons (.tup (.cons (.neg (.int 100)) (.cons (.int 0) .nil))) .nil)) .nil)) .nil)))) (.cons (.tup (.cons (.tup (.cons (.str (Str.ofString "a")) .nil)) (.cons (.tup (.cons (.str (Str.ofString "a")) .nil)) (.cons (.tup (.cons (.tup (.cons (.tup (.cons (.int 0) (.cons (.int 100) .nil))) .nil)) .nil)) .nil)))) .nil))))))
    (.cons (.set 3 (.bin true .Add (.var 3) (.lst false (.cons (.tup (.cons (.tup (.cons (.str (Str.ofString "b")) (.cons (.str (Str.ofString "a")) .nil))) (.cons (.tup (.cons (.str (Str.ofString "a")) .nil)) (.cons (.bin false .Mult (.tup (.cons (.tup (.cons (.tup (.cons (.int 0) (.cons (.int 0) .nil))) .nil)) .nil)) (.int 2)) .nil)))) (.cons (.tup (.cons (.tup (.cons (.str (Str.ofString "a")) (.cons (.str (Str.ofString "a")) .nil))) (.cons (.tup (.cons (.str (Str.ofString "a")) .nil)) (.cons (.bin false .Mult (.tup (.cons (.tup (.cons (.tup (.cons (.int 0) (.cons (.int 0) .nil))) .nil)) .nil)) (.int 2)) .nil)))) (.cons (.tup (.cons (.tup (.cons (.str (Str.ofString "a")) .nil)) (.cons (.tup (.cons (.str (Str.ofString "a")) .nil)) (.cons (.tup .nil) .nil)))) .nil))))))
    (.cons (.set 3 (.bin true .Add (.var 3) (.lst false (.cons (.tup (.cons (.bin false .Add (.var 0) (.tup (.cons (.str (Str.ofString "e")) .nil))) (.cons (.tup (.cons (.str (Str.ofString "a")) .nil)) (.cons (.bin false .Mult (.tup (.cons (.tup (.cons (.tup (.cons (.int 0) (.cons (.int 0) .nil))) .nil)) .nil)) (.int 5)) .nil)))) (.cons (.tup (.cons (.tup (.cons (.str (Str.ofString "abcdefg")) .nil)) (.cons (.tup (.cons (.str (Str.ofString "a")) .nil)) (.cons (.tup (.cons (.tup (.cons (.tup (.cons (.int 0) (.cons (.int 0) .nil))) .nil)) .nil)) .nil)))) (.cons .non (.cons (.tup .nil) .nil)))))))
    (.cons (.set 3 (.bin true .Add (.var 3) (.lst false (.cons (.tup (.cons (.tup (.cons (.str (Str.ofString "A")) .nil)) (.cons (.tup (.cons (.str (Str.ofString "a")) .nil)) (.cons (.tup (.cons (.tup (.cons (.tup (.cons (.int 0) (.cons (.int 0) .nil))) .nil)) .nil)) .nil)))) (.cons (.tup (.cons (.tup (.cons (.str (Str.ofString "a")) .nil)) (.cons (.tup (.cons (.str (Str.ofString "a")) .nil)) (.cons (.tup (.cons (.tup (.cons (.tup (.cons (.int 0) .nil)) .nil)) .nil)) .nil)))) (.cons (.tup (.cons (.tup (.cons (.str (Str.ofString "a")) .nil)) (.cons (.tup (.cons (.str (Str.ofString "a")) (.cons (.str (Str.ofString "b")) .nil))) (.cons (.tup (.cons (.tup (.cons (.tup (.cons (.int 0) (.cons (.int 0) .nil))) .nil)) .nil)) .nil)))) .nil))))))
    (.cons (.expr (.meth "append" (.var 3) (.cons (.tup (.cons (.tup (.cons (.str (Str.ofString "a")) .nil)) (.cons (.tup (.cons (.str (Str.ofString "a")) .nil)) (.cons (.tup (.cons (.tup (.cons (.tup (.cons (.int 0) (.cons (.bl true) .nil))) .nil)) .nil)) .nil)))) .nil)))
    (.cons (.ret (.cmp .Eq (.comp false (.var 2) (.name 2) (.val (.var 3)) (.cons (.not (.call "_law_is" (.cons (.call "is_table" (.cons (.var 2) .nil)) (.cons (.bl false) .nil)))) .nil) [2]) (.lst false .nil)))
    .nil)))))))))
def d__law_ends : MDef := ⟨[], 4, .pure, b__law_ends⟩
def n__law_ends : List String := ["four", "good", "table_here", "bad"]
@[simp] def b_law : MSs :=
    (.cons (.set 1 (.call "_law_begun" .nil))
    (.cons (.set 2 (.call "_law_a_table" (.cons (.var 0) (.cons (.var 1) (.cons (.int 4) .nil)))))
    (.cons (.set 3 (.call "_law_some" (.cons (.var 0) (.cons (.var 1) (.cons (.var 2) .nil)))))
    (.cons (.ite (.or (.cons (.not (.call "_law_is" (.cons (.call "is_table" (.cons (.var 2) .nil)) (.cons (.bl true) .nil)))) (.cons (.not (.call "_law_is" (.cons (.call "is_left" (.cons (.var 2) (.cons (.var 3) .nil))) (.cons (.bl true) .nil)))) .nil)))
    (.cons (.ret (.bl false))
      .nil)
    .nil)
    (.cons (.ite (.cmp .NotEq (.comp false (.var 4) (.name 4) (.val (.call "_law_spoilt" (.cons (.var 2) .nil))) (.cons (.not (.call "_law_is" (.cons (.call "is_table" (.cons (.var 4) .nil)) (.cons (.bl false) .nil)))) .nil) [4]) (.lst false .nil))
    (.cons (.ret (.bl false))
      .nil)
    .nil)
    (.cons (.ite (.cmp .NotEq (.comp false (.var 4) (.name 4) (.val (.call "_law_spoilt" (.cons (.var 3) .nil))) (.cons (.not (.call "_law_is" (.cons (.call "is_left" (.cons (.var 2) (.cons (.var 4) .nil))) (.cons (.bl false) .nil)))) .nil) [4]) (.lst false .nil))
    (.cons (.ret (.bl false))
      .nil)
    .nil)
    (.cons (.ite (.cmp .NotEq (.call "all_left" (.cons (.var 2) .nil)) (.tup (.cons (.ix (.var 2) (.int 0)) (.cons (.ix (.var 2) (.int 1)) .nil))))
    (.cons (.ret (.bl false))
      .nil)
    .nil)
    (.cons (.ite (.not (.call "is_left" (.cons (.var 2) (.cons (.call "all_left" (.cons (.var 2) .nil)) .nil))))
    (.cons (.ret (.bl false))
      .nil)
    .nil)
    (.cons (.set 5 (.lst false (.cons .non (.cons (.tup .nil) (.cons (.cut false (.var 3) .none (.some (.int 1))) (.cons (.tup (.cons (.tup .nil) (.cons (.ix (.var 3) (.int 1)) .nil))) (.cons (.tup (.cons (.ix (.var 3) (.int 0)) (.cons (.tup .nil) .nil))) (.cons (.tup (.cons (.ix (.var 3) (.int 1)) (.cons (.ix (.var 3) (.int 0)) .nil))) (.cons (.tup (.cons (.bin false .Mult (.ix (.var 3) (.int 0)) (.int 2)) (.cons (.ix (.var 3) (.int 1)) .nil))) .nil)))))))))
    (.cons (.for (.name 6) (.val (.bin false .Add (.var 5) (.lst false (.cons (.tup (.cons (.str (Str.ofString "cat")) (.cons (.str (Str.ofString "red")) .nil))) .nil))))
    (.cons (.ite (.not (.call "_law_is" (.cons (.call "is_left" (.cons (.var 2) (.cons (.var 6) .nil))) (.cons (.bl false) .nil))))
      (.cons (.ret (.bl false))
        .nil)
      .nil)
      .nil))
    (.cons (.ret (.call "_law_ends" .nil))
    .nil)))))))))))
def d_law : MDef := ⟨["script"], 7, .raw, b_law⟩
def n_law : List String := ["script", "town", "table_here", "left", "thing_here", "odds", "odd"]
@[simp] def b_look_side : MSs :=
    (.cons (.ite (.not (.call "is_number" (.cons (.var 0) (.cons (.int 0) (.cons (.int 1) .nil)))))
    (.cons (.raise "NoSide")
      .nil)
    .nil)
    .nil)
def d_look_side : MDef := ⟨["side"], 1, .pure, b_look_side⟩
def n_look_side : List String := ["side"]
@[simp] def b_look_choice : MSs :=
    (.cons (.ite (.or (.cons (.not (.blt false "isinstance" (.cons (.var 1) (.cons (.ty "str") .nil)))) (.cons (.cmp .NotIn (.var 1) (.var 0)) .nil)))
    (.cons (.raise "NoChoice")
      .nil)
    .nil)
    .nil)
def d_look_choice : MDef := ⟨["choices", "choice"], 2, .pure, b_look_choice⟩
def n_look_choice : List String := ["choices", "choice"]
@[simp] def b_gained : MSs :=
    (.cons (.unp [(.name 4), (.name 5)] (.ite (.cmp .Eq (.var 1) (.int 0)) (.tup (.cons (.var 2) (.cons (.var 3) .nil))) (.tup (.cons (.var 3) (.cons (.var 2) .nil)))))
    (.cons (.ret (.ix (.ix (.ix (.ix (.var 0) (.int 2)) (.meth "index" (.ix (.var 0) (.int 0)) (.cons (.var 4) .nil))) (.meth "index" (.ix (.var 0) (.int 1)) (.cons (.var 5) .nil))) (.var 1)))
    .nil))
def d_gained : MDef := ⟨["table", "side", "mine", "theirs"], 6, .pure, b_gained⟩
def n_gained : List String := ["table", "side", "mine", "theirs", "one", "other"]
@[simp] def b_gain : MSs :=
    (.cons (.expr (.call "look_side" (.cons (.var 1) .nil)))
    (.cons (.expr (.call "look_choice" (.cons (.ix (.var 0) (.var 1)) (.cons (.var 2) .nil))))
    (.cons (.expr (.call "look_choice" (.cons (.ix (.var 0) (.bin false .Sub (.int 1) (.var 1))) (.cons (.var 3) .nil))))
    (.cons (.ret (.call "gained" (.cons (.var 0) (.cons (.var 1) (.cons (.var 2) (.cons (.var 3) .nil))))))
    .nil))))
def d_gain : MDef := ⟨["table", "side", "mine", "theirs"], 4, .pure, b_gain⟩
def n_gain : List String := ["table", "side", "mine", "theirs"]
@[simp] def b_turned : MSs :=
    (.cons (.set 1 (.lst true .nil))
    (.cons (.for (.name 2) (.range1 (.blt false "len" (.cons (.ix (.var 0) (.int 1)) .nil)))
    (.cons (.expr (.meth "append" (.var 1) (.cons (.blt false "tuple" (.cons (.comp false (.rev false (.ix (.var 3) (.var 2))) (.name 3) (.val (.ix (.var 0) (.int 2))) .nil [3]) .nil)) .nil)))
      .nil))
    (.cons (.ret (.tup (.cons (.ix (.var 0) (.int 1)) (.cons (.ix (.var 0) (.int 0)) (.cons (.blt false "tuple" (.cons (.var 1) .nil)) .nil)))))
    .nil)))
def d_turned : MDef := ⟨["table"], 4, .pure, b_turned⟩
def n_turned : List String := ["table", "cells", "at", "line"]
def d__law_gain : MDef := ⟨["table_here", "side", "mine", "theirs_here"], 6, .pure, b_gained⟩
def n__law_gain : List String := ["table_here", "side", "mine", "theirs_here", "one", "other"]
@[simp] def b_law_02 : MSs :=
    (.cons (.set 1 (.call "_law_begun" .nil))
    (.cons (.for (.name 2) (.range1 (.int 5))
    (.cons (.set 3 (.call "_law_a_table" (.cons (.var 0) (.cons (.var 1) (.cons (.int 4) .nil)))))
      (.cons (.set 4 (.call "turned" (.cons (.var 3) .nil)))
      (.cons (.ite (.or (.cons (.not (.call "is_table" (.cons (.var 4) .nil))) (.cons (.cmp .NotEq (.cut false (.var 4) .none (.some (.int 2))) (.tup (.cons (.ix (.var 3) (.int 1)) (.cons (.ix (.var 3) (.int 0)) .nil)))) (.cons (.cmp .NotEq (.call "turned" (.cons (.var 4) .nil)) (.var 3)) .nil))))
      (.cons (.ret (.bl false))
        .nil)
      .nil)
      (.cons (.for (.name 5) (.val (.tup (.cons (.int 0) (.cons (.int 1) .nil))))
      (.cons (.for (.name 7) (.val (.ix (.var 3) (.var 5)))
        (.cons (.for (.name 8) (.val (.ix (.var 3) (.bin false .Sub (.int 1) (.var 5))))
          (.cons (.set 9 (.call "_law_gain" (.cons (.var 3) (.cons (.var 5) (.cons (.var 7) (.cons (.var 8) .nil))))))
            (.cons (.ite (.cmp .NotEq (.call "gain" (.cons (.var 3) (.cons (.var 5) (.cons (.var 7) (.cons (.var 8) .nil))))) (.var 9))
            (.cons (.ret (.bl false))
              .nil)
            .nil)
            (.cons (.ite (.cmp .NotEq (.call "gain" (.cons (.var 4) (.cons (.bin false .Sub (.int 1) (.var 5)) (.cons (.var 7) (.cons (.var 8) .nil))))) (.var 9))
            (.cons (.ret (.bl false))
              .nil)
            .nil)
            .nil))))
          .nil))
        .nil))
      (.cons (.for (.name 5) (.val (.tup (.cons (.neg (.int 1)) (.cons (.int 2) (.cons .non (.cons (.bl true) (.cons (.str (Str.ofString "0")) .nil)))))))
      (.cons (.ite (.cmp .NotEq (.heard (.call "gain" (.cons (.var 3) (.cons (.var 5) (.cons .non (.cons .non .nil)))))) (.tup (.cons (.str (Str.ofString "no side")) .nil)))
        (.cons (.ret (.bl false))
          .nil)
        .nil)
        .nil))
      (.cons (.set 6 (.lst true (.cons (.heard (.call "gain" (.cons (.var 3) (.cons (.int 0) (.cons (.str (Str.ofString "zz")) (.cons (.str (Str.ofString "zz")) .nil)))))) .nil)))
      (.cons (.expr (.meth "append" (.var 6) (.cons (.heard (.call "gain" (.cons (.var 3) (.cons (.int 0) (.cons (.str (Str.ofString "cat")) (.cons (.str (Str.ofString "zz")) .nil)))))) .nil)))
      (.cons (.expr (.meth "append" (.var 6) (.cons (.heard (.call "gain" (.cons (.var 3) (.cons (.int 1) (.cons (.str (Str.ofString "cat")) (.cons (.str (Str.ofString "red")) .nil)))))) .nil)))
      (.cons (.expr (.meth "append" (.var 6) (.cons (.heard (.call "gain" (.cons (.var 3) (.cons (.int 1) (.cons (.str (Str.ofString "red")) (.cons .non .nil)))))) .nil)))
      (.cons (.ite (.cmp .NotEq (.var 6) (.bin false .Mult (.lst false (.cons (.tup (.cons (.str (Str.ofString "no choice")) .nil)) .nil)) (.int 4)))
      (.cons (.ret (.bl false))
        .nil)
      .nil)
      .nil)))))))))))
    (.cons (.ret (.bl true))
    .nil)))
def d_law_02 : MDef := ⟨["script"], 10, .raw, b_law_02⟩
def n_law_02 : List String := ["script", "town", "k", "table_here", "other", "side", "odd", "mine", "theirs_here", "due"]
@[simp] def b_look_left : MSs :=
    (.cons (.ite (.not (.call "is_left" (.cons (.var 0) (.cons (.var 1) .nil))))
    (.cons (.raise "NoLeft")
      .nil)
    .nil)
    .nil)
def d_look_left : MDef := ⟨["table", "left"], 2, .pure, b_look_left⟩
def n_look_left : List String := ["table", "left"]
@[simp] def b_look_all : MSs :=
    (.cons (.expr (.call "look_left" (.cons (.var 0) (.cons (.var 1) .nil))))
    (.cons (.expr (.call "look_side" (.cons (.var 2) .nil)))
    (.cons (.expr (.call "look_choice" (.cons (.ix (.var 1) (.var 2)) (.cons (.var 3) .nil))))
    .nil)))
def d_look_all : MDef := ⟨["table", "left", "side", "choice"], 4, .pure, b_look_all⟩
def n_look_all : List String := ["table", "left", "side", "choice"]
@[simp] def b_is_more : MSs :=
    (.cons (.ret (.blt false "all" (.cons (.comp false (.cmp .Gt (.call "gained" (.cons (.var 0) (.cons (.var 2) (.cons (.var 3) (.cons (.var 5) .nil))))) (.call "gained" (.cons (.var 0) (.cons (.var 2) (.cons (.var 4) (.cons (.var 5) .nil)))))) (.name 5) (.val (.ix (.var 1) (.bin false .Sub (.int 1) (.var 2)))) .nil [5]) .nil)))
    .nil)
def d_is_more : MDef := ⟨["table", "left", "side", "one", "other"], 6, .pure, b_is_more⟩
def n_is_more : List String := ["table", "left", "side", "one", "other", "theirs"]
@[simp] def b_is_even : MSs :=
    (.cons (.set 5 (.comp false (.tup (.cons (.call "gained" (.cons (.var 0) (.cons (.var 2) (.cons (.var 3) (.cons (.var 6) .nil))))) (.cons (.call "gained" (.cons (.var 0) (.cons (.var 2) (.cons (.var 4) (.cons (.var 6) .nil))))) .nil))) (.name 6) (.val (.ix (.var 1) (.bin false .Sub (.int 1) (.var 2)))) .nil [6]))
    (.cons (.ret (.and (.cons (.blt false "all" (.cons (.comp false (.cmp .GtE (.var 7) (.var 8)) (.tup [(.name 7), (.name 8)]) (.val (.var 5)) .nil [7, 8]) .nil)) (.cons (.blt false "any" (.cons (.comp false (.cmp .Gt (.var 7) (.var 8)) (.tup [(.name 7), (.name 8)]) (.val (.var 5)) .nil [7, 8]) .nil)) .nil))))
    .nil))
def d_is_even : MDef := ⟨["table", "left", "side", "one", "other"], 9, .pure, b_is_even⟩
def n_is_even : List String := ["table", "left", "side", "one", "other", "pairs", "theirs", "mine", "yours"]
@[simp] def b_all_betters : MSs :=
    (.cons (.ret (.comp false (.var 4) (.name 4) (.val (.ix (.var 1) (.var 2))) (.cons (.call "is_more" (.cons (.var 0) (.cons (.var 1) (.cons (.var 2) (.cons (.var 4) (.cons (.var 3) .nil)))))) .nil) [4]))
    .nil)
def d_all_betters : MDef := ⟨["table", "left", "side", "choice"], 5, .pure, b_all_betters⟩
def n_all_betters : List String := ["table", "left", "side", "choice", "one"]
@[simp] def b_betters : MSs :=
    (.cons (.expr (.call "look_all" (.cons (.var 0) (.cons (.var 1) (.cons (.var 2) (.cons (.var 3) .nil))))))
    (.cons (.ret (.blt false "tuple" (.cons (.call "all_betters" (.cons (.var 0) (.cons (.var 1) (.cons (.var 2) (.cons (.var 3) .nil))))) .nil)))
    .nil))
def d_betters : MDef := ⟨["table", "left", "side", "choice"], 4, .pure, b_betters⟩
def n_betters : List String := ["table", "left", "side", "choice"]
@[simp] def b_may_strike : MSs :=
    (.cons (.ite (.cmp .Eq (.var 2) (.str (Str.ofString "plain")))
    (.cons (.ret (.cmp .NotEq (.call "all_betters" (.cons (.var 0) (.cons (.var 1) (.cons (.var 3) (.cons (.var 4) .nil))))) (.lst false .nil)))
      .nil)
    .nil)
    (.cons (.ite (.cmp .Eq (.var 2) (.str (Str.ofString "even")))
    (.cons (.ret (.blt false "any" (.cons (.comp false (.call "is_even" (.cons (.var 0) (.cons (.var 1) (.cons (.var 3) (.cons (.var 5) (.cons (.var 4) .nil)))))) (.name 5) (.val (.ix (.var 1) (.var 3))) .nil [5]) .nil)))
      .nil)
    .nil)
    (.cons .never
    .nil)))
def d_may_strike : MDef := ⟨["table", "left", "rule", "side", "choice"], 6, .pure, b_may_strike⟩
def n_may_strike : List String := ["table", "left", "rule", "side", "choice", "one"]
@[simp] def b_all_strikes : MSs :=
    (.cons (.set 3 (.lst true .nil))
    (.cons (.for (.name 4) (.val (.tup (.cons (.int 0) (.cons (.int 1) .nil))))
    (.cons (.expr (.meth "extend" (.var 3) (.cons (.comp false (.tup (.cons (.var 4) (.cons (.var 5) .nil))) (.name 5) (.val (.ix (.var 1) (.var 4))) (.cons (.call "may_strike" (.cons (.var 0) (.cons (.var 1) (.cons (.var 2) (.cons (.var 4) (.cons (.var 5) .nil)))))) .nil) [5]) .nil)))
      .nil))
    (.cons (.ret (.var 3))
    .nil)))
def d_all_strikes : MDef := ⟨["table", "left", "rule"], 6, .pure, b_all_strikes⟩
def n_all_strikes : List String := ["table", "left", "rule", "found", "side", "choice"]
@[simp] def b_look_rule : MSs :=
    (.cons (.ite (.or (.cons (.not (.blt false "isinstance" (.cons (.var 0) (.cons (.ty "str") .nil)))) (.cons (.inG true (.var 0) "RULES") .nil)))
    (.cons (.raise "NoRule")
      .nil)
    .nil)
    .nil)
def d_look_rule : MDef := ⟨["rule"], 1, .pure, b_look_rule⟩
def n_look_rule : List String := ["rule"]
@[simp] def b_strikes : MSs :=
    (.cons (.expr (.call "look_left" (.cons (.var 0) (.cons (.var 1) .nil))))
    (.cons (.expr (.call "look_rule" (.cons (.var 2) .nil)))
    (.cons (.ret (.blt false "tuple" (.cons (.call "all_strikes" (.cons (.var 0) (.cons (.var 1) (.cons (.var 2) .nil)))) .nil)))
    .nil)))
def d_strikes : MDef := ⟨["table", "left", "rule"], 3, .pure, b_strikes⟩
def n_strikes : List String := ["table", "left", "rule"]
@[simp] def b_without : MSs :=
    (.cons (.set 3 (.blt false "tuple" (.cons (.comp false (.var 4) (.name 4) (.val (.ix (.var 0) (.var 1))) (.cons (.cmp .NotEq (.var 4) (.var 2)) .nil) [4]) .nil)))
    (.cons (.ret (.ite (.cmp .Eq (.var 1) (.int 0)) (.tup (.cons (.var 3) (.cons (.ix (.var 0) (.int 1)) .nil))) (.tup (.cons (.ix (.var 0) (.int 0)) (.cons (.var 3) .nil)))))
    .nil))
def d_without : MDef := ⟨["left", "side", "choice"], 5, .pure, b_without⟩
def n_without : List String := ["left", "side", "choice", "rest", "one"]
@[simp] def b_struck : MSs :=
    (.cons (.expr (.call "look_left" (.cons (.var 0) (.cons (.var 1) .nil))))
    (.cons (.expr (.call "look_rule" (.cons (.var 2) .nil)))
    (.cons (.expr (.call "look_all" (.cons (.var 0) (.cons (.var 1) (.cons (.var 3) (.cons (.var 4) .nil))))))
    (.cons (.ite (.not (.call "may_strike" (.cons (.var 0) (.cons (.var 1) (.cons (.var 2) (.cons (.var 3) (.cons (.var 4) .nil)))))))
    (.cons (.raise "NoStrike")
      .nil)
    .nil)
    (.cons (.ret (.call "without" (.cons (.var 1) (.cons (.var 3) (.cons (.var 4) .nil)))))
    .nil)))))
def d_struck : MDef := ⟨["table", "left", "rule", "side", "choice"], 5, .pure, b_struck⟩
def n_struck : List String := ["table", "left", "rule", "side", "choice"]
def d__law_some_04 : MDef := ⟨["script", "town", "table"], 7, .trunc, b__law_some⟩
def n__law_some_04 : List String := ["script", "town", "table", "sides", "names", "some", "name"]
@[simp] def b__law_lines : MSs :=
    (.cons (.set 4 (.dic true 0 .nil))
    (.cons (.for (.name 5) (.val (.ix (.var 1) (.var 2)))
    (.cons (.ite (.cmp .NotEq (.var 5) (.var 3))
      (.cons (.put (.var 4) (.var 5) (.lst true .nil))
        (.cons (.for (.name 6) (.val (.ix (.var 1) (.bin false .Sub (.int 1) (.var 2))))
        (.cons (.set 7 (.call "_law_gain" (.cons (.var 0) (.cons (.var 2) (.cons (.var 5) (.cons (.var 6) .nil))))))
          (.cons (.expr (.meth "append" (.ix (.var 4) (.var 5)) (.cons (.bin false .Sub (.var 7) (.call "_law_gain" (.cons (.var 0) (.cons (.var 2) (.cons (.var 3) (.cons (.var 6) .nil)))))) .nil)))
          .nil)))
        .nil))
      .nil)
      .nil))
    (.cons (.ret (.var 4))
    .nil)))
def d__law_lines : MDef := ⟨["table", "left", "side", "choice_here"], 8, .pure, b__law_lines⟩
def n__law_lines : List String := ["table", "left", "side", "choice_here", "found", "one", "theirs", "mine"]
@[simp] def b__law_strikes : MSs :=
    (.cons (.set 3 (.lst true .nil))
    (.cons (.for (.name 4) (.val (.tup (.cons (.int 0) (.cons (.int 1) .nil))))
    (.cons (.for (.name 5) (.val (.ix (.var 1) (.var 4)))
      (.cons (.set 6 (.call "_law_lines" (.cons (.var 0) (.cons (.var 1) (.cons (.var 4) (.cons (.var 5) .nil))))))
        (.cons (.ite (.and (.cons (.cmp .Eq (.var 2) (.str (Str.ofString "plain"))) (.cons (.cmp .NotEq (.comp false (.var 8) (.name 8) (.val (.var 6)) (.cons (.cmp .Gt (.blt false "min" (.cons (.ix (.var 6) (.var 8)) .nil)) (.int 0)) .nil) [8]) (.lst false .nil)) .nil)))
        (.cons (.expr (.meth "append" (.var 3) (.cons (.tup (.cons (.var 4) (.cons (.var 5) .nil))) .nil)))
          .nil)
        .nil)
        (.cons (.set 7 (.comp false (.var 8) (.name 8) (.val (.var 6)) (.cons (.and (.cons (.cmp .GtE (.blt false "min" (.cons (.ix (.var 6) (.var 8)) .nil)) (.int 0)) (.cons (.cmp .Gt (.blt false "max" (.cons (.ix (.var 6) (.var 8)) .nil)) (.int 0)) .nil))) .nil) [8]))
        (.cons (.ite (.and (.cons (.cmp .Eq (.var 2) (.str (Str.ofString "even"))) (.cons (.cmp .NotEq (.var 7) (.lst false .nil)) .nil)))
        (.cons (.expr (.meth "append" (.var 3) (.cons (.tup (.cons (.var 4) (.cons (.var 5) .nil))) .nil)))
          .nil)
        .nil)
        .nil)))))
      .nil))
    (.cons (.ret (.var 3))
    .nil)))
def d__law_strikes : MDef := ⟨["table", "left", "rule_here"], 9, .pure, b__law_strikes⟩
def n__law_strikes : List String := ["table", "left", "rule_here", "found", "side", "choice_here", "rows", "more", "one"]
@[simp] def b__law_less : MSs :=
    (.cons (.set 2 (.blt false "tuple" (.cons (.comp false (.var 3) (.name 3) (.val (.ix (.var 0) (.ix (.var 1) (.int 0)))) (.cons (.cmp .NotEq (.var 3) (.ix (.var 1) (.int 1))) .nil) [3]) .nil)))
    (.cons (.ret (.ite (.cmp .Eq (.ix (.var 1) (.int 0)) (.int 0)) (.tup (.cons (.var 2) (.cons (.ix (.var 0) (.int 1)) .nil))) (.tup (.cons (.ix (.var 0) (.int 0)) (.cons (.var 2) .nil)))))
    .nil))
def d__law_less : MDef := ⟨["left", "strike"], 4, .pure, b__law_less⟩
def n__law_less : List String := ["left", "strike", "rest", "one"]
@[simp] def b__law_refused : MSs :=
    (.cons (.set 2 (.lst true (.cons (.heard (.call "strikes" (.cons (.var 0) (.cons .non (.cons (.str (Str.ofString "none")) .nil))))) .nil)))
    (.cons (.expr (.meth "append" (.var 2) (.cons (.heard (.call "betters" (.cons (.var 0) (.cons (.tup (.cons (.ix (.var 1) (.int 0)) (.cons (.tup .nil) .nil))) (.cons (.int 5) (.cons .non .nil)))))) .nil)))
    (.cons (.expr (.meth "append" (.var 2) (.cons (.heard (.call "struck" (.cons (.var 0) (.cons (.tup .nil) (.cons .non (.cons (.int 5) (.cons .non .nil))))))) .nil)))
    (.cons (.ite (.cmp .NotEq (.var 2) (.bin false .Mult (.lst false (.cons (.tup (.cons (.str (Str.ofString "no left")) .nil)) .nil)) (.int 3)))
    (.cons (.ret (.bl false))
      .nil)
    .nil)
    (.cons (.for (.name 3) (.val (.tup (.cons (.str (Str.ofString "none")) (.cons .non (.cons (.int 3) (.cons (.tup .nil) .nil))))))
    (.cons (.ite (.cmp .NotEq (.heard (.call "strikes" (.cons (.var 0) (.cons (.var 1) (.cons (.var 3) .nil))))) (.tup (.cons (.str (Str.ofString "no rule")) .nil)))
      (.cons (.ret (.bl false))
        .nil)
      .nil)
      (.cons (.ite (.cmp .NotEq (.heard (.call "struck" (.cons (.var 0) (.cons (.var 1) (.cons (.var 3) (.cons (.int 5) (.cons .non .nil))))))) (.tup (.cons (.str (Str.ofString "no rule")) .nil)))
      (.cons (.ret (.bl false))
        .nil)
      .nil)
      .nil)))
    (.cons (.for (.name 4) (.val (.tup (.cons (.int 2) (.cons .non (.cons (.bl true) .nil)))))
    (.cons (.ite (.cmp .NotEq (.heard (.call "betters" (.cons (.var 0) (.cons (.var 1) (.cons (.var 4) (.cons .non .nil)))))) (.tup (.cons (.str (Str.ofString "no side")) .nil)))
      (.cons (.ret (.bl false))
        .nil)
      .nil)
      (.cons (.ite (.cmp .NotEq (.heard (.call "struck" (.cons (.var 0) (.cons (.var 1) (.cons (.str (Str.ofString "even")) (.cons (.var 4) (.cons .non .nil))))))) (.tup (.cons (.str (Str.ofString "no side")) .nil)))
      (.cons (.ret (.bl false))
        .nil)
      .nil)
      .nil)))
    (.cons (.set 5 (.bin false .Add (.comp false (.var 6) (.name 6) (.val (.ix (.var 0) (.int 0))) (.cons (.cmp .NotIn (.var 6) (.ix (.var 1) (.int 0))) .nil) [6]) (.lst false (.cons (.str (Str.ofString "zz")) .nil))))
    (.cons (.ite (.cmp .NotEq (.heard (.call "betters" (.cons (.var 0) (.cons (.var 1) (.cons (.int 0) (.cons (.ix (.var 5) (.int 0)) .nil)))))) (.tup (.cons (.str (Str.ofString "no choice")) .nil)))
    (.cons (.ret (.bl false))
      .nil)
    .nil)
    (.cons (.ret (.cmp .Eq (.heard (.call "struck" (.cons (.var 0) (.cons (.var 1) (.cons (.str (Str.ofString "plain")) (.cons (.int 0) (.cons (.ix (.var 5) (.int 0)) .nil))))))) (.tup (.cons (.str (Str.ofString "no choice")) .nil))))
    .nil)))))))))
def d__law_refused : MDef := ⟨["table", "left"], 7, .pure, b__law_refused⟩
def n__law_refused : List String := ["table", "left", "odd", "rule_here", "side", "gone", "choice_here"]
@[simp] def b_law_04 : MSs :=
    (.cons (.set 1 (.call "_law_begun" .nil))
    (.cons (.for (.name 2) (.range1 (.int 5))
    (.cons (.set 3 (.call "_law_a_table" (.cons (.var 0) (.cons (.var 1) (.cons (.int 4) .nil)))))
      (.cons (.set 4 (.call "_law_some" (.cons (.var 0) (.cons (.var 1) (.cons (.var 3) .nil)))))
      (.cons (.for (.name 5) (.val (.tup (.cons (.str (Str.ofString "plain")) (.cons (.str (Str.ofString "even")) .nil))))
      (.cons (.set 7 (.call "_law_strikes" (.cons (.var 3) (.cons (.var 4) (.cons (.var 5) .nil)))))
        (.cons (.ite (.cmp .NotEq (.call "strikes" (.cons (.var 3) (.cons (.var 4) (.cons (.var 5) .nil)))) (.blt false "tuple" (.cons (.var 7) .nil)))
        (.cons (.ret (.bl false))
          .nil)
        .nil)
        (.cons (.for (.name 6) (.val (.tup (.cons (.int 0) (.cons (.int 1) .nil))))
        (.cons (.for (.name 8) (.val (.ix (.var 4) (.var 6)))
          (.cons (.set 10 (.tup (.cons (.str (Str.ofString "no strike")) .nil)))
            (.cons (.ite (.cmp .In (.tup (.cons (.var 6) (.cons (.var 8) .nil))) (.var 7))
            (.cons (.set 10 (.tup (.cons (.str (Str.ofString "told")) (.cons (.call "_law_less" (.cons (.var 4) (.cons (.tup (.cons (.var 6) (.cons (.var 8) .nil))) .nil))) .nil))))
              .nil)
            .nil)
            (.cons (.ite (.cmp .NotEq (.heard (.call "struck" (.cons (.var 3) (.cons (.var 4) (.cons (.var 5) (.cons (.var 6) (.cons (.var 8) .nil))))))) (.var 10))
            (.cons (.ret (.bl false))
              .nil)
            .nil)
            .nil))))
          .nil))
        .nil))))
      (.cons (.for (.name 6) (.val (.tup (.cons (.int 0) (.cons (.int 1) .nil))))
      (.cons (.for (.name 8) (.val (.ix (.var 4) (.var 6)))
        (.cons (.set 9 (.call "_law_lines" (.cons (.var 3) (.cons (.var 4) (.cons (.var 6) (.cons (.var 8) .nil))))))
          (.cons (.set 7 (.blt false "tuple" (.cons (.comp false (.var 11) (.name 11) (.val (.blt false "sorted" (.cons (.var 9) .nil))) (.cons (.cmp .Gt (.blt false "min" (.cons (.ix (.var 9) (.var 11)) .nil)) (.int 0)) .nil) [11]) .nil)))
          (.cons (.ite (.cmp .NotEq (.call "betters" (.cons (.var 3) (.cons (.var 4) (.cons (.var 6) (.cons (.var 8) .nil))))) (.var 7))
          (.cons (.ret (.bl false))
            .nil)
          .nil)
          .nil))))
        .nil))
      (.cons (.ite (.not (.call "_law_refused" (.cons (.var 3) (.cons (.var 4) .nil))))
      (.cons (.ret (.bl false))
        .nil)
      .nil)
      .nil))))))
    (.cons (.ret (.bl true))
    .nil)))
def d_law_04 : MDef := ⟨["script"], 12, .raw, b_law_04⟩
def n_law_04 : List String := ["script", "town", "k", "table", "left", "rule_here", "side", "due", "choice_here", "rows", "there", "one"]
@[simp] def b_with_numbers : MSs :=
    (.cons (.unp [(.name 4), (.name 5), (.name 6)] (.var 0))
    (.cons (.set 7 (.lst true .nil))
    (.cons (.for (.tup [(.name 8), (.name 9)]) (.enum (.var 4))
    (.cons (.set 10 (.lst true .nil))
      (.cons (.for (.tup [(.name 11), (.name 12)]) (.enum (.var 5))
      (.cons (.set 13 (.ix (.ix (.var 6) (.var 8)) (.var 11)))
        (.cons (.ite (.and (.cons (.cmp .Eq (.var 1) (.int 0)) (.cons (.cmp .Eq (.var 9) (.var 2)) .nil)))
        (.cons (.set 13 (.tup (.cons (.ix (.var 3) (.var 11)) (.cons (.ix (.var 13) (.int 1)) .nil))))
          .nil)
        .nil)
        (.cons (.ite (.and (.cons (.cmp .Eq (.var 1) (.int 1)) (.cons (.cmp .Eq (.var 12) (.var 2)) .nil)))
        (.cons (.set 13 (.tup (.cons (.ix (.var 13) (.int 0)) (.cons (.ix (.var 3) (.var 8)) .nil))))
          .nil)
        .nil)
        (.cons (.expr (.meth "append" (.var 10) (.cons (.var 13) .nil)))
        .nil)))))
      (.cons (.expr (.meth "append" (.var 7) (.cons (.blt false "tuple" (.cons (.var 10) .nil)) .nil)))
      .nil))))
    (.cons (.ret (.tup (.cons (.var 4) (.cons (.var 5) (.cons (.blt false "tuple" (.cons (.var 7) .nil)) .nil)))))
    .nil))))
def d_with_numbers : MDef := ⟨["table", "side", "mine", "numbers"], 14, .trunc, b_with_numbers⟩
def n_with_numbers : List String := ["table", "side", "mine", "numbers", "ones", "others", "cells", "found", "at", "one", "line", "place", "other", "cell"]
@[simp] def b_numbers_of : MSs :=
    (.cons (.ret (.comp true (.call "gained" (.cons (.var 0) (.cons (.var 1) (.cons (.var 2) (.cons (.var 3) .nil))))) (.name 3) (.val (.ix (.var 0) (.bin false .Sub (.int 1) (.var 1)))) .nil [3]))
    .nil)
def d_numbers_of : MDef := ⟨["table", "side", "mine"], 4, .raw, b_numbers_of⟩
def n_numbers_of : List String := ["table", "side", "mine", "theirs"]
def d__law_gain_23 : MDef := ⟨["table_here", "side", "mine", "theirs"], 6, .pure, b_gained⟩
def n__law_gain_23 : List String := ["table_here", "side", "mine", "theirs", "one", "other"]
def d__law_lines_23 : MDef := ⟨["table_here", "left", "side", "choice"], 8, .pure, b__law_lines⟩
def n__law_lines_23 : List String := ["table_here", "left", "side", "choice", "found", "one", "theirs", "mine"]
def d__law_strikes_23 : MDef := ⟨["table_here", "left", "rule"], 9, .pure, b__law_strikes⟩
def n__law_strikes_23 : List String := ["table_here", "left", "rule", "found", "side", "choice", "rows", "more", "one"]
@[simp] def b__law_with : MSs :=
    (.cons (.unp [(.name 5), (.name 6)] (.ite (.cmp .Eq (.var 1) (.int 0)) (.tup (.cons (.var 2) (.cons (.var 3) .nil))) (.tup (.cons (.var 3) (.cons (.var 2) .nil)))))
    (.cons (.par [7, 8] (.cons (.meth "index" (.ix (.var 0) (.int 0)) (.cons (.var 5) .nil)) (.cons (.meth "index" (.ix (.var 0) (.int 1)) (.cons (.var 6) .nil)) .nil)))
    (.cons (.set 9 (.ix (.ix (.ix (.var 0) (.int 2)) (.var 7)) (.var 8)))
    (.cons (.set 9 (.ite (.cmp .Eq (.var 1) (.int 0)) (.tup (.cons (.var 4) (.cons (.ix (.var 9) (.int 1)) .nil))) (.tup (.cons (.ix (.var 9) (.int 0)) (.cons (.var 4) .nil)))))
    (.cons (.set 10 (.bin false .Add (.bin false .Add (.cut false (.ix (.ix (.var 0) (.int 2)) (.var 7)) .none (.some (.var 8))) (.tup (.cons (.var 9) .nil))) (.cut false (.ix (.ix (.var 0) (.int 2)) (.var 7)) (.some (.bin false .Add (.var 8) (.int 1))) .none)))
    (.cons (.ret (.tup (.cons (.ix (.var 0) (.int 0)) (.cons (.ix (.var 0) (.int 1)) (.cons (.bin false .Add (.bin false .Add (.cut false (.ix (.var 0) (.int 2)) .none (.some (.var 7))) (.tup (.cons (.var 10) .nil))) (.cut false (.ix (.var 0) (.int 2)) (.some (.bin false .Add (.var 7) (.int 1))) .none)) .nil)))))
    .nil))))))
def d__law_with : MDef := ⟨["table_here", "side", "mine", "theirs", "number"], 11, .pure, b__law_with⟩
def n__law_with : List String := ["table_here", "side", "mine", "theirs", "number", "one", "other", "at", "place", "cell", "line"]
@[simp] def b__law_a_deed : MSs :=
    (.cons (.set 3 (.call "_law_draw" (.cons (.var 0) (.cons (.var 1) (.cons (.int 2) .nil)))))
    (.cons (.par [4, 5] (.cons (.bin false .Add (.ix (.var 2) (.var 3)) (.tup (.cons (.str (Str.ofString "zz")) .nil))) (.cons (.bin false .Add (.ix (.var 2) (.bin false .Sub (.int 1) (.var 3))) (.tup (.cons (.str (Str.ofString "zz")) .nil))) .nil)))
    (.cons (.set 6 (.ix (.var 4) (.call "_law_draw" (.cons (.var 0) (.cons (.var 1) (.cons (.ite (.cmp .Eq (.call "_law_draw" (.cons (.var 0) (.cons (.var 1) (.cons (.int 6) .nil)))) (.int 0)) (.blt false "len" (.cons (.var 4) .nil)) (.bin false .Sub (.blt false "len" (.cons (.var 4) .nil)) (.int 1))) .nil))))))
    (.cons (.ite (.cmp .Gt (.call "_law_draw" (.cons (.var 0) (.cons (.var 1) (.cons (.int 3) .nil)))) (.int 0))
    (.cons (.ret (.tup (.cons (.str (Str.ofString "strike")) (.cons (.tup (.cons (.ite (.cmp .Gt (.call "_law_draw" (.cons (.var 0) (.cons (.var 1) (.cons (.int 9) .nil)))) (.int 0)) (.var 3) (.int 2)) (.cons (.var 6) .nil))) .nil))))
      .nil)
    .nil)
    (.cons (.set 7 (.ix (.var 5) (.call "_law_draw" (.cons (.var 0) (.cons (.var 1) (.cons (.ite (.cmp .Eq (.call "_law_draw" (.cons (.var 0) (.cons (.var 1) (.cons (.int 6) .nil)))) (.int 0)) (.blt false "len" (.cons (.var 5) .nil)) (.bin false .Sub (.blt false "len" (.cons (.var 5) .nil)) (.int 1))) .nil))))))
    (.cons (.set 8 (.ite (.cmp .Gt (.call "_law_draw" (.cons (.var 0) (.cons (.var 1) (.cons (.int 8) .nil)))) (.int 0)) (.bin false .Sub (.call "_law_draw" (.cons (.var 0) (.cons (.var 1) (.cons (.int 12) .nil)))) (.int 3)) (.int 100)))
    (.cons (.ret (.tup (.cons (.str (Str.ofString "change")) (.cons (.tup (.cons (.ite (.cmp .Gt (.call "_law_draw" (.cons (.var 0) (.cons (.var 1) (.cons (.int 9) .nil)))) (.int 0)) (.var 3) .non) (.cons (.var 6) (.cons (.var 7) (.cons (.var 8) .nil))))) .nil))))
    .nil)))))))
def d__law_a_deed : MDef := ⟨["script", "town", "table_here"], 9, .trunc, b__law_a_deed⟩
def n__law_a_deed : List String := ["script", "town", "table_here", "side", "names", "others", "mine", "theirs", "number"]
@[simp] def b__law_plain : MSs :=
    (.cons (.par [4, 5] (.cons (.ix (.var 3) (.int 0)) (.cons (.ix (.var 3) (.int 1)) .nil)))
    (.cons (.ite (.cmp .NotIn (.var 4) (.tup (.cons (.int 0) (.cons (.int 1) .nil))))
    (.cons (.ret (.tup (.cons (.tup (.cons (.str (Str.ofString "no side")) .nil)) (.cons (.var 0) (.cons (.var 1) .nil)))))
      .nil)
    .nil)
    (.cons (.ite (.cmp .NotIn (.var 5) (.ix (.ite (.cmp .Eq (.var 2) (.str (Str.ofString "strike"))) (.var 1) (.var 0)) (.var 4)))
    (.cons (.ret (.tup (.cons (.tup (.cons (.str (Str.ofString "no choice")) .nil)) (.cons (.var 0) (.cons (.var 1) .nil)))))
      .nil)
    .nil)
    (.cons (.ite (.cmp .Eq (.var 2) (.str (Str.ofString "strike")))
    (.cons (.ite (.cmp .NotIn (.tup (.cons (.var 4) (.cons (.var 5) .nil))) (.call "_law_strikes" (.cons (.var 0) (.cons (.var 1) (.cons (.str (Str.ofString "plain")) .nil)))))
      (.cons (.ret (.tup (.cons (.tup (.cons (.str (Str.ofString "no strike")) .nil)) (.cons (.var 0) (.cons (.var 1) .nil)))))
        .nil)
      .nil)
      (.cons (.ret (.tup (.cons (.tup (.cons (.str (Str.ofString "told")) (.cons .non .nil))) (.cons (.var 0) (.cons (.call "_law_less" (.cons (.var 1) (.cons (.var 3) .nil))) .nil)))))
      .nil))
    .nil)
    (.cons (.ite (.cmp .NotIn (.ix (.var 3) (.int 2)) (.ix (.var 0) (.bin false .Sub (.int 1) (.var 4))))
    (.cons (.ret (.tup (.cons (.tup (.cons (.str (Str.ofString "no choice")) .nil)) (.cons (.var 0) (.cons (.var 1) .nil)))))
      .nil)
    .nil)
    (.cons (.ite (.cmp .Gt (.ix (.var 3) (.int 3)) (.int 99))
    (.cons (.ret (.tup (.cons (.tup (.cons (.str (Str.ofString "no number")) .nil)) (.cons (.var 0) (.cons (.var 1) .nil)))))
      .nil)
    .nil)
    (.cons (.ite (.cmp .Eq (.call "_law_gain" (.cons (.var 0) (.cons (.var 4) (.cons (.var 5) (.cons (.ix (.var 3) (.int 2)) .nil))))) (.ix (.var 3) (.int 3)))
    (.cons (.ret (.tup (.cons (.tup (.cons (.str (Str.ofString "same")) .nil)) (.cons (.var 0) (.cons (.var 1) .nil)))))
      .nil)
    .nil)
    (.cons (.ret (.tup (.cons (.tup (.cons (.str (Str.ofString "told")) (.cons .non .nil))) (.cons (.call "_law_with" (.cons (.var 0) (.cons (.var 4) (.cons (.var 5) (.cons (.ix (.var 3) (.int 2)) (.cons (.ix (.var 3) (.int 3)) .nil)))))) (.cons (.var 1) .nil)))))
    .nil))))))))
def d__law_plain : MDef := ⟨["table_here", "left", "word", "some"], 6, .pure, b__law_plain⟩
def n__law_plain : List String := ["table_here", "left", "word", "some", "side", "mine"]
@[simp] def b__law_call : MSs :=
    (.cons (.ite (.cmp .Eq (.var 1) (.str (Str.ofString "strike")))
    (.cons (.ret (.mcall "Desk.strike" (Str.ofString "strike") (.var 0) (.cons (.ix (.var 2) (.int 0)) (.cons (.ix (.var 2) (.int 1)) .nil))))
      .nil)
    .nil)
    (.cons (.ret (.mcall "Desk.change" (Str.ofString "change") (.var 0) (.cons (.ix (.var 2) (.int 0)) (.cons (.ix (.var 2) (.int 1)) (.cons (.ix (.var 2) (.int 2)) (.cons (.ix (.var 2) (.int 3)) .nil))))))
    .nil))
def d__law_call : MDef := ⟨["desk", "word", "some"], 3, .raw, b__law_call⟩
def n__law_call : List String := ["desk", "word", "some"]
@[simp] def b__law_stands : MSs :=
    (.cons (.par [4, 5, 6] (.cons (.call "_law_strikes" (.cons (.var 1) (.cons (.var 2) (.cons (.str (Str.ofString "plain")) .nil)))) (.cons (.blt false "len" (.cons (.ix (.var 2) (.int 0)) .nil)) (.cons (.blt false "len" (.cons (.ix (.var 2) (.int 1)) .nil)) .nil))))
    (.cons (.ite (.cmp .NotEq (.mcall "Desk.table" (Str.ofString "table") (.var 0) .nil) (.var 1))
    (.cons (.ret (.bl false))
      .nil)
    .nil)
    (.cons (.ite (.cmp .NotEq (.mcall "Desk.left" (Str.ofString "left") (.var 0) .nil) (.var 2))
    (.cons (.ret (.bl false))
      .nil)
    .nil)
    (.cons (.ite (.cmp .NotEq (.mcall "Desk.waiting" (Str.ofString "waiting") (.var 0) .nil) (.blt false "tuple" (.cons (.var 4) .nil)))
    (.cons (.ret (.bl false))
      .nil)
    .nil)
    (.cons (.ite (.cmp .NotEq (.mcall "Desk.deeds" (Str.ofString "deeds") (.var 0) .nil) (.blt false "tuple" (.cons (.var 3) .nil)))
    (.cons (.ret (.bl false))
      .nil)
    .nil)
    (.cons (.set 7 (.blt false "len" (.cons (.var 4) .nil)))
    (.cons (.ret (.and (.cons (.cmp .Eq (.lenO "Desk.__len__" (.var 0)) (.bin false .Add (.var 5) (.var 6))) (.cons (.cmp .Eq (.strO "Desk.__str__" (.var 0)) (.fstr (.cons (.var 5) (.cons (.str (Str.ofString " and ")) (.cons (.var 6) (.cons (.str (Str.ofString " left, ")) (.cons (.var 7) (.cons (.str (Str.ofString " waiting")) .nil)))))))) .nil))))
    .nil)))))))
def d__law_stands : MDef := ⟨["desk", "table_here", "left", "deeds"], 8, .trunc, b__law_stands⟩
def n__law_stands : List String := ["desk", "table_here", "left", "deeds", "some", "ones", "others", "many"]
@[simp] def b_law_23 : MSs :=
    (.cons (.set 1 (.call "_law_begun" .nil))
    (.cons (.for (.name 2) (.range1 (.int 2))
    (.cons (.set 3 (.call "_law_a_table" (.cons (.var 0) (.cons (.var 1) (.cons (.int 4) .nil)))))
      (.cons (.unp [(.name 6), (.name 7), (.name 8)] (.tup (.cons (.make "Desk.__init__" (.cons (.var 3) .nil)) (.cons (.tup (.cons (.ix (.var 3) (.int 0)) (.cons (.ix (.var 3) (.int 1)) .nil))) (.cons (.lst false .nil) .nil)))))
      (.cons (.for (.name 4) (.range1 (.int 16))
      (.cons (.unp [(.name 9), (.name 10)] (.call "_law_a_deed" (.cons (.var 0) (.cons (.var 1) (.cons (.var 3) .nil)))))
        (.cons (.unp [(.name 11), (.name 3), (.name 7)] (.call "_law_plain" (.cons (.var 3) (.cons (.var 7) (.cons (.var 9) (.cons (.var 10) .nil))))))
        (.cons (.ite (.cmp .NotEq (.heard (.call "_law_call" (.cons (.var 6) (.cons (.var 9) (.cons (.var 10) .nil))))) (.var 11))
        (.cons (.ret (.bl false))
          .nil)
        .nil)
        (.cons (.set 8 (.bin false .Add (.var 8) (.ite (.cmp .Eq (.ix (.var 11) (.int 0)) (.str (Str.ofString "told"))) (.lst false (.cons (.tup (.cons (.var 9) (.cons (.var 10) .nil))) .nil)) (.lst false .nil))))
        (.cons (.ite (.not (.call "_law_stands" (.cons (.var 6) (.cons (.var 3) (.cons (.var 7) (.cons (.var 8) .nil))))))
        (.cons (.ret (.bl false))
          .nil)
        .nil)
        .nil))))))
      (.cons (.for (.name 5) (.val (.tup (.cons .non (.cons (.cut false (.var 3) .none (.some (.int 2))) (.cons (.tup .nil) .nil)))))
      (.cons (.ite (.cmp .NotEq (.heard (.make "Desk.__init__" (.cons (.var 5) .nil))) (.tup (.cons (.str (Str.ofString "bad table")) .nil)))
        (.cons (.ret (.bl false))
          .nil)
        .nil)
        .nil))
      .nil)))))
    (.cons (.ret (.bl true))
    .nil)))
def d_law_23 : MDef := ⟨["script"], 12, .raw, b_law_23⟩
def n_law_23 : List String := ["script", "town", "k", "table_here", "j", "odd", "desk", "left", "deeds", "word", "some", "due"]
@[simp] def b_Desk___init__ : MSs :=
    (.cons (.ite (.not (.call "is_table" (.cons (.var 1) .nil)))
    (.cons (.raise "BadTable")
      .nil)
    .nil)
    (.cons (.setf (.var 0) (Str.ofString "begun") (.var 1))
    (.cons (.setf (.var 0) (Str.ofString "now") (.tup (.cons (.var 1) (.cons (.call "all_left" (.cons (.var 1) .nil)) .nil))))
    (.cons (.setf (.var 0) (Str.ofString "done") (.lst true .nil))
    (.cons (.setf (.var 0) (Str.ofString "undone") (.lst true .nil))
    .nil)))))
def d_Desk___init__ : MDef := ⟨["self", "table"], 2, .raw, b_Desk___init__⟩
def n_Desk___init__ : List String := ["self", "table"]
@[simp] def b_Desk___len__ : MSs :=
    (.cons (.ret (.blt false "len" (.cons (.bin false .Add (.ix (.ix (.fld (.var 0) (Str.ofString "now")) (.int 1)) (.int 0)) (.ix (.ix (.fld (.var 0) (Str.ofString "now")) (.int 1)) (.int 1))) .nil)))
    .nil)
def d_Desk___len__ : MDef := ⟨["self"], 1, .trunc, b_Desk___len__⟩
def n_Desk___len__ : List String := ["self"]
@[simp] def b_Desk___str__ : MSs :=
    (.cons (.set 1 (.ix (.fld (.var 0) (Str.ofString "now")) (.int 1)))
    (.cons (.ret (.fstr (.cons (.blt false "len" (.cons (.ix (.var 1) (.int 0)) .nil)) (.cons (.str (Str.ofString " and ")) (.cons (.blt false "len" (.cons (.ix (.var 1) (.int 1)) .nil)) (.cons (.str (Str.ofString " left, ")) (.cons (.blt false "len" (.cons (.mcall "Desk.waiting" (Str.ofString "waiting") (.var 0) .nil) .nil)) (.cons (.str (Str.ofString " waiting")) .nil))))))))
    .nil))
def d_Desk___str__ : MDef := ⟨["self"], 2, .trunc, b_Desk___str__⟩
def n_Desk___str__ : List String := ["self", "left"]
@[simp] def b_Desk_become : MSs :=
    (.cons (.expr (.meth "append" (.fld (.var 0) (Str.ofString "done")) (.cons (.tup (.cons (.var 1) (.cons (.fld (.var 0) (Str.ofString "now")) .nil))) .nil)))
    (.cons (.setf (.var 0) (Str.ofString "undone") (.lst true .nil))
    (.cons (.setf (.var 0) (Str.ofString "now") (.var 2))
    .nil)))
def d_Desk_become : MDef := ⟨["self", "deed", "now"], 3, .raw, b_Desk_become⟩
def n_Desk_become : List String := ["self", "deed", "now"]
@[simp] def b_Desk_strike : MSs :=
    (.cons (.unp [(.name 3), (.name 4)] (.fld (.var 0) (Str.ofString "now")))
    (.cons (.expr (.call "look_side" (.cons (.var 1) .nil)))
    (.cons (.expr (.call "look_choice" (.cons (.ix (.var 4) (.var 1)) (.cons (.var 2) .nil))))
    (.cons (.ite (.not (.call "may_strike" (.cons (.var 3) (.cons (.var 4) (.cons (.str (Str.ofString "plain")) (.cons (.var 1) (.cons (.var 2) .nil)))))))
    (.cons (.raise "NoStrike")
      .nil)
    .nil)
    (.cons (.expr (.mcall "Desk.become" (Str.ofString "become") (.var 0) (.cons (.tup (.cons (.str (Str.ofString "strike")) (.cons (.tup (.cons (.var 1) (.cons (.var 2) .nil))) .nil))) (.cons (.tup (.cons (.var 3) (.cons (.call "without" (.cons (.var 4) (.cons (.var 1) (.cons (.var 2) .nil)))) .nil))) .nil))))
    .nil)))))
def d_Desk_strike : MDef := ⟨["self", "side", "choice"], 5, .raw, b_Desk_strike⟩
def n_Desk_strike : List String := ["self", "side", "choice", "table", "left"]
@[simp] def b_Desk_change : MSs :=
    (.cons (.unp [(.name 5), (.name 6)] (.fld (.var 0) (Str.ofString "now")))
    (.cons (.expr (.call "look_side" (.cons (.var 1) .nil)))
    (.cons (.expr (.call "look_choice" (.cons (.ix (.var 5) (.var 1)) (.cons (.var 2) .nil))))
    (.cons (.expr (.call "look_choice" (.cons (.ix (.var 5) (.bin false .Sub (.int 1) (.var 1))) (.cons (.var 3) .nil))))
    (.cons (.ite (.not (.call "is_number" (.cons (.var 4) (.cons (.neg (.glob "FAR")) (.cons (.glob "FAR") .nil)))))
    (.cons (.raise "NoNumber")
      .nil)
    .nil)
    (.cons (.ite (.cmp .Eq (.call "gained" (.cons (.var 5) (.cons (.var 1) (.cons (.var 2) (.cons (.var 3) .nil))))) (.var 4))
    (.cons (.raise "Same")
      .nil)
    .nil)
    (.cons (.set 7 (.call "numbers_of" (.cons (.var 5) (.cons (.var 1) (.cons (.var 2) .nil)))))
    (.cons (.put (.var 7) (.meth "index" (.ix (.var 5) (.bin false .Sub (.int 1) (.var 1))) (.cons (.var 3) .nil)) (.var 4))
    (.cons (.expr (.mcall "Desk.become" (Str.ofString "become") (.var 0) (.cons (.tup (.cons (.str (Str.ofString "change")) (.cons (.tup (.cons (.var 1) (.cons (.var 2) (.cons (.var 3) (.cons (.var 4) .nil))))) .nil))) (.cons (.tup (.cons (.call "with_numbers" (.cons (.var 5) (.cons (.var 1) (.cons (.var 2) (.cons (.var 7) .nil))))) (.cons (.var 6) .nil))) .nil))))
    .nil)))))))))
def d_Desk_change : MDef := ⟨["self", "side", "mine", "theirs", "number"], 8, .raw, b_Desk_change⟩
def n_Desk_change : List String := ["self", "side", "mine", "theirs", "number", "table", "left", "numbers"]
@[simp] def b_Desk_table : MSs :=
    (.cons (.ret (.ix (.fld (.var 0) (Str.ofString "now")) (.int 0)))
    .nil)
def d_Desk_table : MDef := ⟨["self"], 1, .trunc, b_Desk_table⟩
def n_Desk_table : List String := ["self"]
@[simp] def b_Desk_left : MSs :=
    (.cons (.ret (.ix (.fld (.var 0) (Str.ofString "now")) (.int 1)))
    .nil)
def d_Desk_left : MDef := ⟨["self"], 1, .trunc, b_Desk_left⟩
def n_Desk_left : List String := ["self"]
@[simp] def b_Desk_waiting : MSs :=
    (.cons (.ret (.blt false "tuple" (.cons (.call "all_strikes" (.cons (.ix (.fld (.var 0) (Str.ofString "now")) (.int 0)) (.cons (.ix (.fld (.var 0) (Str.ofString "now")) (.int 1)) (.cons (.str (Str.ofString "plain")) .nil)))) .nil)))
    .nil)
def d_Desk_waiting : MDef := ⟨["self"], 1, .trunc, b_Desk_waiting⟩
def n_Desk_waiting : List String := ["self"]
@[simp] def b_Desk_deeds : MSs :=
    (.cons (.ret (.blt false "tuple" (.cons (.comp false (.var 1) (.tup [(.name 1), (.name 2)]) (.val (.fld (.var 0) (Str.ofString "done"))) .nil [1, 2]) .nil)))
    .nil)
def d_Desk_deeds : MDef := ⟨["self"], 3, .trunc, b_Desk_deeds⟩
def n_Desk_deeds : List String := ["self", "deed", "now"]
end Q

namespace P23
open Lt PySem Q
def prg : Prg := ⟨[("is_number", d_is_number), ("is_name", d_is_name), ("is_rising", d_is_rising), ("are_choices", d_are_choices), ("is_cell", d_is_cell), ("is_table", d_is_table), ("look_side", d_look_side), ("look_choice", d_look_choice), ("all_left", d_all_left), ("gained", d_gained), ("is_more", d_is_more), ("is_even", d_is_even), ("all_betters", d_all_betters), ("may_strike", d_may_strike), ("all_strikes", d_all_strikes), ("without", d_without), ("with_numbers", d_with_numbers), ("numbers_of", d_numbers_of), ("_law_draw", d__law_draw), ("_law_begun", d__law_begun), ("_law_a_table", d__law_a_table), ("_law_gain", d__law_gain_23), ("_law_lines", d__law_lines_23), ("_law_strikes", d__law_strikes_23), ("_law_less", d__law_less), ("_law_with", d__law_with), ("_law_a_deed", d__law_a_deed), ("_law_plain", d__law_plain), ("_law_call", d__law_call), ("_law_stands", d__law_stands), ("law", d_law_23), ("Desk.__init__", d_Desk___init__), ("Desk.__len__", d_Desk___len__), ("Desk.__str__", d_Desk___str__), ("Desk.become", d_Desk_become), ("Desk.strike", d_Desk_strike), ("Desk.change", d_Desk_change), ("Desk.table", d_Desk_table), ("Desk.left", d_Desk_left), ("Desk.waiting", d_Desk_waiting), ("Desk.deeds", d_Desk_deeds)], [("LETTERS", (.str (Str.ofString "abcdefghijklmnopqrstuvwxyz"))), ("FAR", (.int 99))], 1000000, true, [], "Desk", [("Desk.__init__", Str.ofString "__init__"), ("Desk.__len__", Str.ofString "__len__"), ("Desk.__str__", Str.ofString "__str__"), ("Desk.become", Str.ofString "become"), ("Desk.strike", Str.ofString "strike"), ("Desk.change", Str.ofString "change"), ("Desk.table", Str.ofString "table"), ("Desk.left", Str.ofString "left"), ("Desk.waiting", Str.ofString "waiting"), ("Desk.deeds", Str.ofString "deeds")], [Str.ofString "begun", Str.ofString "now", Str.ofString "done", Str.ofString "undone"]⟩
instance : Mk := ⟨["law"]⟩
instance : Hf prg "is_number" d_is_number := ⟨rfl⟩
instance : Hf prg "is_name" d_is_name := ⟨rfl⟩
instance : Hf prg "is_rising" d_is_rising := ⟨rfl⟩
instance : Hf prg "are_choices" d_are_choices := ⟨rfl⟩
instance : Hf prg "is_cell" d_is_cell := ⟨rfl⟩
instance : Hf prg "is_table" d_is_table := ⟨rfl⟩
instance : Hf prg "look_side" d_look_side := ⟨rfl⟩
instance : Hf prg "look_choice" d_look_choice := ⟨rfl⟩
instance : Hf prg "all_left" d_all_left := ⟨rfl⟩
instance : Hf prg "gained" d_gained := ⟨rfl⟩
instance : Hf prg "is_more" d_is_more := ⟨rfl⟩
instance : Hf prg "is_even" d_is_even := ⟨rfl⟩
instance : Hf prg "all_betters" d_all_betters := ⟨rfl⟩
instance : Hf prg "may_strike" d_may_strike := ⟨rfl⟩
instance : Hf prg "all_strikes" d_all_strikes := ⟨rfl⟩
instance : Hf prg "without" d_without := ⟨rfl⟩
instance : Hf prg "with_numbers" d_with_numbers := ⟨rfl⟩
instance : Hf prg "numbers_of" d_numbers_of := ⟨rfl⟩
instance : Hf prg "_law_draw" d__law_draw := ⟨rfl⟩
instance : Hd prg "_law_draw" 3 6 .trunc b__law_draw := ⟨⟨_, rfl, rfl⟩⟩
instance : Hf prg "_law_begun" d__law_begun := ⟨rfl⟩
instance : Hd prg "_law_begun" 0 0 .raw b__law_begun := ⟨⟨_, rfl, rfl⟩⟩
instance : Hf prg "_law_a_table" d__law_a_table := ⟨rfl⟩
instance : Hd prg "_law_a_table" 3 13 .trunc b__law_a_table := ⟨⟨_, rfl, rfl⟩⟩
instance : Hf prg "_law_gain" d__law_gain_23 := ⟨rfl⟩
instance : Hd prg "_law_gain" 4 6 .pure b_gained := ⟨⟨_, rfl, rfl⟩⟩
instance : Hf prg "_law_lines" d__law_lines_23 := ⟨rfl⟩
instance : Hd prg "_law_lines" 4 8 .pure b__law_lines := ⟨⟨_, rfl, rfl⟩⟩
instance : Hf prg "_law_strikes" d__law_strikes_23 := ⟨rfl⟩
instance : Hd prg "_law_strikes" 3 9 .pure b__law_strikes := ⟨⟨_, rfl, rfl⟩⟩
instance : Hf prg "_law_less" d__law_less := ⟨rfl⟩
instance : Hd prg "_law_less" 2 4 .pure b__law_less := ⟨⟨_, rfl, rfl⟩⟩
instance : Hf prg "_law_with" d__law_with := ⟨rfl⟩
instance : Hd prg "_law_with" 5 11 .pure b__law_with := ⟨⟨_, rfl, rfl⟩⟩
instance : Hf prg "_law_a_deed" d__law_a_deed := ⟨rfl⟩
instance : Hd prg "_law_a_deed" 3 9 .trunc b__law_a_deed := ⟨⟨_, rfl, rfl⟩⟩
instance : Hf prg "_law_plain" d__law_plain := ⟨rfl⟩
instance : Hd prg "_law_plain" 4 6 .pure b__law_plain := ⟨⟨_, rfl, rfl⟩⟩
instance : Hf prg "_law_call" d__law_call := ⟨rfl⟩
instance : Hd prg "_law_call" 3 3 .raw b__law_call := ⟨⟨_, rfl, rfl⟩⟩
instance : Hf prg "_law_stands" d__law_stands := ⟨rfl⟩
instance : Hd prg "_law_stands" 4 8 .trunc b__law_stands := ⟨⟨_, rfl, rfl⟩⟩
instance : Hf prg "law" d_law_23 := ⟨rfl⟩
instance : Hf prg "Desk.__init__" d_Desk___init__ := ⟨rfl⟩
instance : Hf prg "Desk.__len__" d_Desk___len__ := ⟨rfl⟩
instance : Hf prg "Desk.__str__" d_Desk___str__ := ⟨rfl⟩
instance : Hf prg "Desk.become" d_Desk_become := ⟨rfl⟩
instance : Hf prg "Desk.strike" d_Desk_strike := ⟨rfl⟩
instance : Hf prg "Desk.change" d_Desk_change := ⟨rfl⟩
instance : Hf prg "Desk.table" d_Desk_table := ⟨rfl⟩
instance : Hf prg "Desk.left" d_Desk_left := ⟨rfl⟩
instance : Hf prg "Desk.waiting" d_Desk_waiting := ⟨rfl⟩
instance : Hf prg "Desk.deeds" d_Desk_deeds := ⟨rfl⟩
instance : Hc prg "LETTERS" (.str (Str.ofString "abcdefghijklmnopqrstuvwxyz")) := ⟨rfl⟩
instance : Hc prg "FAR" (.int 99) := ⟨rfl⟩
instance : Hn prg := ⟨rfl⟩
end P23

namespace Q
open Lt PySem

/-! ### small data -/
/-- data no deeper than n, no wider than four -/
def sm : Nat → D → Bool
  | _, .non => true
  | _, .bl _ => true
  | _, .int _ => true
  | _, .str s => s.cps.all (· < 0x110000) && decide (s.length ≤ BIG)
  | n + 1, .tup xs => decide (xs.length ≤ 8) && xs.all (sm n)
  | n + 1, .lst xs => decide (xs.length ≤ 8) && xs.all (sm n)
  | _, _ => false
theorem sm_free : ∀ {n : Nat} {d : D}, sm n d = true → d.free = true
  | _, .non, _ => rfl
  | _, .bl _, _ => rfl
  | _, .int _, _ => rfl
  | _, .str _, _ => rfl
  | n + 1, .tup xs, h => by
    simp only [sm, Bool.and_eq_true, List.all_eq_true] at h
    simp only [D.free]
    exact freeL_iff.mpr fun x hx => sm_free (h.2 x hx)
  | n + 1, .lst xs, h => by
    simp only [sm, Bool.and_eq_true, List.all_eq_true] at h
    simp only [D.free]
    exact freeL_iff.mpr fun x hx => sm_free (h.2 x hx)
  | 0, .tup xs, h => by simp [sm] at h
  | 0, .lst xs, h => by simp [sm] at h
  | n, .dic _ _, h => by cases n <;> simp [sm] at h
  | n, .loc _, h => by cases n <;> simp [sm] at h
  | n, .scr _, h => by cases n <;> simp [sm] at h
  | n, .fn _, h => by cases n <;> simp [sm] at h
  | n, .ty _, h => by cases n <;> simp [sm] at h
  | n, .wt _, h => by cases n <;> simp [sm] at h
  | n, .exc _, h => by cases n <;> simp [sm] at h
  | n, .adr _, h => by cases n <;> simp [sm] at h
theorem sm_ok : ∀ {n : Nat} {d : D}, sm n d = true → okD n d = true
  | n, .non, _ => by cases n <;> rfl
  | n, .bl _, _ => by cases n <;> rfl
  | n, .int _, _ => by cases n <;> rfl
  | n, .str _, h => by
    cases n <;> (simp only [sm, Bool.and_eq_true] at h; exact h.1)
  | n + 1, .tup xs, h => by
    simp only [sm, Bool.and_eq_true, List.all_eq_true] at h
    simp only [okD, List.all_eq_true]
    exact fun x hx => sm_ok (h.2 x hx)
  | n + 1, .lst xs, h => by
    simp only [sm, Bool.and_eq_true, List.all_eq_true] at h
    simp only [okD, List.all_eq_true]
    exact fun x hx => sm_ok (h.2 x hx)
  | 0, .tup xs, h => by simp [sm] at h
  | 0, .lst xs, h => by simp [sm] at h
  | n, .dic _ _, h => by cases n <;> simp [sm] at h
  | n, .loc _, h => by cases n <;> simp [sm] at h
  | n, .scr _, h => by cases n <;> simp [sm] at h
  | n, .fn _, h => by cases n <;> simp [sm] at h
  | n, .ty _, h => by cases n <;> simp [sm] at h
  | n, .wt _, h => by cases n <;> simp [sm] at h
  | n, .exc _, h => by cases n <;> simp [sm] at h
  | n, .adr _, h => by cases n <;> simp [sm] at h
theorem okD_mono : ∀ {n m : Nat} {d : D}, n ≤ m → okD n d = true → okD m d = true
  | n, m, .non, _, _ => by cases m <;> rfl
  | n, m, .bl _, _, _ => by cases m <;> rfl
  | n, m, .int _, _, _ => by cases m <;> rfl
  | n, m, .str s, _, h => by
    have h' : s.cps.all (· < 0x110000) = true := by cases n <;> exact h
    cases m <;> exact h'
  | n + 1, m + 1, .tup xs, hm, h => by
    simp only [okD, List.all_eq_true] at h ⊢
    exact fun x hx => okD_mono (by omega) (h x hx)
  | n + 1, m + 1, .lst xs, hm, h => by
    simp only [okD, List.all_eq_true] at h ⊢
    exact fun x hx => okD_mono (by omega) (h x hx)
  | 0, _, .tup xs, _, h => by simp [okD] at h
  | 0, _, .lst xs, _, h => by simp [okD] at h
  | n + 1, 0, .tup xs, hm, _ => by omega
  | n + 1, 0, .lst xs, hm, _ => by omega
  | n, _, .dic _ _, _, h => by cases n <;> simp [okD] at h
  | n, _, .loc _, _, h => by cases n <;> simp [okD] at h
  | n, _, .scr _, _, h => by cases n <;> simp [okD] at h
  | n, _, .fn _, _, h => by cases n <;> simp [okD] at h
  | n, _, .ty _, _, h => by cases n <;> simp [okD] at h
  | n, _, .wt _, _, h => by cases n <;> simp [okD] at h
  | n, _, .exc _, _, h => by cases n <;> simp [okD] at h
  | n, _, .adr _, _, h => by cases n <;> simp [okD] at h

/-! ### what the program's defs answer -/
def isNum (lo hi : Int) : D → Bool
  | .int i => decide (lo ≤ i) && decide (i ≤ hi)
  | _ => false
def letters : Str := Str.ofString "abcdefghijklmnopqrstuvwxyz"
def isName : D → Bool
  | .str s => decide (1 ≤ s.length) && decide (s.length ≤ 6) && s.cps.toList.all fun c => decide (c ∈ letters.cps.toList)
  | _ => false
def ltD : D → D → Bool
  | .str a, .str b => strLt a b
  | _, _ => false
def rising (xs : List D) : Bool := (List.zipWith ltD xs (xs.drop 1)).all id
def areChoices : D → Bool
  | .tup xs => decide (1 ≤ xs.length) && decide (xs.length ≤ 4) && xs.all isName && rising xs
  | _ => false
def isCell : D → Bool
  | .tup xs => decide (xs.length = 2) && xs.all (isNum (-99) 99)
  | _ => false
def isLine (n : Nat) : D → Bool
  | .tup xs => decide (xs.length = n)
  | _ => false
def cellsOf : D → List D
  | .tup xs => xs
  | _ => []
def isTable : D → Bool
  | .tup [o, t, c] => areChoices o && areChoices t && (match c with
    | .tup cs => decide (cs.length = (cellsOf o).length) && cs.all (isLine (cellsOf t).length) && cs.all fun l => (cellsOf l).all isCell
    | _ => false)
  | _ => false
def isStr : D → Bool
  | .str _ => true
  | _ => false
def areSome (names : List D) : D → Bool
  | .tup xs => !xs.isEmpty && xs.all (fun x => isStr x && names.any fun y => deq y x) && rising xs
  | _ => false
def isLeft (o t : List D) : D → Bool
  | .tup [a, b] => areSome o a && areSome t b
  | _ => false

theorem fn_is_number {P : Prg} [Hf P "is_number" d_is_number] {k n : Nat} {x : D} {lo hi : Int} {h : MHeap} (hx : sm n x = true) : (calls P (k + 1)).fn "is_number" [x, .int lo, .int hi] h = .ok (.bl (isNum lo hi x)) h := by
  refine fnPure (h' := []) (d := d_is_number) Hf.look rfl rfl (by simp [sm_free hx]) ?_ rfl
  cases x with
  | int i =>
    simp [d_is_number, isNum]
  | non => simp [d_is_number, isNum]
  | bl => simp [d_is_number, isNum]
  | str => simp [d_is_number, isNum]
  | tup => simp [d_is_number, isNum]
  | lst => simp [d_is_number, isNum]
  | _ => cases n <;> simp [sm] at hx
theorem fn_is_name {P : Prg} [Hf P "is_name" d_is_name] [Hc P "LETTERS" (.str (Str.ofString "abcdefghijklmnopqrstuvwxyz"))] {k n : Nat} {x : D} {h : MHeap} (hx : sm n x = true) : (calls P (k + 1)).fn "is_name" [x] h = .ok (.bl (isName x)) h := by
  refine fnPure (h' := []) (d := d_is_name) Hf.look rfl rfl (by simp [sm_free hx]) ?_ rfl
  cases x with
  | str s =>
    have hl : s.length ≤ BIG := by cases n <;> (simp [sm] at hx; exact hx.2)
    have hc : evE (calls P k) (.comp false (.cmp .In (.var 1) (.glob "LETTERS")) (.name 1) (.val (.var 0)) .nil [1]) [some (.str s), none] [] = .ok (.lst (s.cps.toList.map fun c => .bl (decide (c ∈ letters.cps.toList)))) [] := by
      rw [evMap (its := ⟨s.cps.toList.map fun c => .str ⟨#[c]⟩, none⟩) (fun d => match d with | .str c => (match c.cps.toList with | [n] => .bl (decide (n ∈ letters.cps.toList)) | _ => .non) | _ => .non) (by simp) rfl ?_ ?_]
      · rw [List.map_map]
        exact mkL_ok (by simp; exact hl)
      · intro x hx
        obtain ⟨c, _, rfl⟩ := List.mem_map.mp hx
        exact ⟨[some (.str s), some (.str ⟨#[c]⟩)], by simp [bindT, wipeE], by simp [show P.cst.lookup "LETTERS" = some (.str (Str.ofString "abcdefghijklmnopqrstuvwxyz")) from Hc.look, inD, letters]⟩
      · simp; exact hl
    simp [d_is_name, len_str hl, hc, all_ok, isName, show ((1 : Int) ≤ (s.length : Int)) ↔ 1 ≤ s.length by omega, show ((s.length : Int) ≤ 6) ↔ s.length ≤ 6 by omega]
    by_cases h1 : 1 ≤ s.length <;> by_cases h6 : s.length ≤ 6 <;> simp [h1, h6]
  | non => simp [d_is_name, isName]
  | bl => simp [d_is_name, isName]
  | int => simp [d_is_name, isName]
  | tup => simp [d_is_name, isName]
  | lst => simp [d_is_name, isName]
  | _ => cases n <;> simp [sm] at hx
theorem sm_str {n : Nat} {s : Str} (h : sm n (.str s) = true) : s.length ≤ BIG := by cases n <;> (simp [sm] at h; exact h.2)
theorem sm_tup {n : Nat} {xs : List D} (h : sm n (.tup xs) = true) : ∃ m, n = m + 1 ∧ xs.length ≤ 8 ∧ ∀ x ∈ xs, sm m x = true := by
  cases n with
  | zero => simp [sm] at h
  | succ m =>
    simp only [sm, Bool.and_eq_true, decide_eq_true_eq, List.all_eq_true] at h
    exact ⟨m, rfl, h.1, h.2⟩
theorem big8 {n : Nat} (h : n ≤ 8) : n ≤ BIG := Nat.le_trans h (by decide)
theorem fn_is_rising {P : Prg} [Hf P "is_rising" d_is_rising] {k : Nat} {xs : List D} {h : MHeap} (hx : ∀ x ∈ xs, isStr x = true) (hl : xs.length ≤ BIG) : (calls P (k + 1)).fn "is_rising" [.tup xs] h = .ok (.bl (rising xs)) h := by
  have hf : D.freeL xs = true := freeL_iff.mpr fun x h => by
    have := hx x h
    cases x <;> first | rfl | simp [isStr] at this
  refine fnPure (h' := []) (d := d_is_rising) Hf.look rfl rfl (by simp [hf]) ?_ rfl
  have hc : evE (calls P k) (.comp false (.cmp .Lt (.var 1) (.var 2)) (.tup [(.name 1), (.name 2)]) (.zip (.var 0) (.cut false (.var 0) (.some (.int 1)) .none)) .nil [1, 2]) [some (.tup xs), none, none] [] = .ok (.lst ((List.zipWith ltD xs (xs.drop 1)).map .bl)) [] := by
    have e1 : cutX xs (some 1) none = xs.drop 1 := cut_from 1
    rw [evMap (its := ⟨List.zipWith pairD xs (xs.drop 1), none⟩) (fun d => match d with | .wt [a, b] => .bl (ltD a b) | _ => .non) (by simp [e1]) rfl ?_ ?_]
    · rw [List.map_zipWith, List.map_zipWith]
      exact mkL_ok (by simp; omega)
    · intro x hx'
      obtain ⟨a, ha, b, hb, rfl⟩ := mem_zw hx'
      refine ⟨[some (.tup xs), some a, some b], by simp [bindT, bindTs, pairD, wipeE], ?_⟩
      have h1 := hx a ha
      have h2 := hx b (List.mem_of_mem_drop hb)
      cases a <;> simp [isStr] at h1
      cases b <;> simp [isStr] at h2
      simp [pairD, ltD]
    · simp; omega
  simp [d_is_rising, hc, allB, rising, -List.map_zipWith]
end Q

namespace Q
open Lt PySem
theorem name_str {x : D} (h : isName x = true) : isStr x = true := by
  cases x <;> first | rfl | simp [isName] at h
theorem fn_are_choices {P : Prg} [Hf P "are_choices" d_are_choices] [Hf P "is_name" d_is_name] [Hf P "is_rising" d_is_rising] [Hc P "LETTERS" (.str (Str.ofString "abcdefghijklmnopqrstuvwxyz"))] {k n : Nat} {x : D} {h : MHeap} (hx : sm n x = true) : (calls P (k + 2)).fn "are_choices" [x] h = .ok (.bl (areChoices x)) h := by
  refine fnPure (h' := []) (d := d_are_choices) Hf.look rfl rfl (by simp [sm_free hx]) ?_ rfl
  cases x with
  | tup xs =>
    obtain ⟨m, rfl, h8, hs⟩ := sm_tup hx
    have hc : evE (calls P (k + 1)) (.comp false (.call "is_name" (.cons (.var 1) .nil)) (.name 1) (.val (.var 0)) .nil [1]) [some (.tup xs), none] [] = .ok (.lst (xs.map fun x => .bl (isName x))) [] := by
      rw [evMap (its := ⟨xs, none⟩) (fun x => .bl (isName x)) (by simp) rfl ?_ (big8 h8)]
      · exact mkL_ok (by simpa using big8 h8)
      · intro x hx'
        exact ⟨[some (.tup xs), some x], by simp [bindT, wipeE], by simp [fn_is_name (hs x hx')]⟩
    have hr : (xs.all isName) = true → (calls P (k + 1)).fn "is_rising" [.tup xs] [] = .ok (.bl (rising xs)) [] := fun ha => fn_is_rising (fun x hx => name_str (List.all_eq_true.mp ha x hx)) (big8 h8)
    have e1 : ((1 : Int) ≤ (xs.length : Int)) ↔ 1 ≤ xs.length := by omega
    have e4 : ((xs.length : Int) ≤ 4) ↔ xs.length ≤ 4 := by omega
    by_cases h1 : 1 ≤ xs.length <;> by_cases h4 : xs.length ≤ 4 <;> cases ha : xs.all isName <;> simp [d_are_choices, hc, all_ok, areChoices, e1, e4, h1, h4, ha, hr]
  | non => simp [d_are_choices, areChoices]
  | bl => simp [d_are_choices, areChoices]
  | int => simp [d_are_choices, areChoices]
  | str => simp [d_are_choices, areChoices]
  | lst => simp [d_are_choices, areChoices]
  | _ => cases n <;> simp [sm] at hx
@[simp] theorem cst_far {P : Prg} [Hc P "FAR" (.int 99)] : List.lookup "FAR" P.cst = some (.int 99) := Hc.look
theorem fn_is_cell {P : Prg} [Hf P "is_cell" d_is_cell] [Hf P "is_number" d_is_number] [Hc P "FAR" (.int 99)] {k n : Nat} {x : D} {h : MHeap} (hx : sm n x = true) : (calls P (k + 2)).fn "is_cell" [x] h = .ok (.bl (isCell x)) h := by
  refine fnPure (h' := []) (d := d_is_cell) Hf.look rfl rfl (by simp [sm_free hx]) ?_ rfl
  cases x with
  | tup xs =>
    obtain ⟨m, rfl, h8, hs⟩ := sm_tup hx
    have hc : evE (calls P (k + 1)) (.comp false (.call "is_number" (.cons (.var 1) (.cons (.neg (.glob "FAR")) (.cons (.glob "FAR") .nil)))) (.name 1) (.val (.var 0)) .nil [1]) [some (.tup xs), none] [] = .ok (.lst (xs.map fun x => .bl (isNum (-99) 99 x))) [] := by
      rw [evMap (its := ⟨xs, none⟩) (fun x => .bl (isNum (-99) 99 x)) (by simp) rfl ?_ (big8 h8)]
      · exact mkL_ok (by simpa using big8 h8)
      · intro x hx'
        exact ⟨[some (.tup xs), some x], by simp [bindT, wipeE], by simp [fn_is_number (hs x hx')]⟩
    have e1 : ((xs.length : Int) = 2) ↔ xs.length = 2 := by omega
    by_cases h1 : xs.length = 2 <;> simp [d_is_cell, hc, all_ok, isCell, e1, h1]
  | non => simp [d_is_cell, isCell]
  | bl => simp [d_is_cell, isCell]
  | int => simp [d_is_cell, isCell]
  | str => simp [d_is_cell, isCell]
  | lst => simp [d_is_cell, isCell]
  | _ => cases n <;> simp [sm] at hx
theorem flat8 {β : Type} {f : D → List β} {n : Nat} : ∀ {xs : List D}, (∀ x ∈ xs, (f x).length ≤ n) → (xs.flatMap f).length ≤ xs.length * n
  | [], _ => by simp
  | x :: r, h => by
    have h1 := h x List.mem_cons_self
    have h2 := flat8 (xs := r) fun y hy => h y (List.mem_cons_of_mem _ hy)
    rw [List.flatMap_cons, List.length_append, List.length_cons, Nat.succ_mul]
    omega
theorem at0 {α : Type} {a : α} {r : List α} : L2.atI (a :: r) 0 = some a := at_nat 0
theorem at1 {α : Type} {a b : α} {r : List α} : L2.atI (a :: b :: r) 1 = some b := at_nat 1
theorem fn_is_table {P : Prg} [Hf P "is_table" d_is_table] [Hf P "are_choices" d_are_choices] [Hf P "is_name" d_is_name] [Hf P "is_rising" d_is_rising] [Hf P "is_cell" d_is_cell] [Hf P "is_number" d_is_number] [Hc P "LETTERS" (.str (Str.ofString "abcdefghijklmnopqrstuvwxyz"))] [Hc P "FAR" (.int 99)] {k n : Nat} {x : D} {h : MHeap} (hx : sm n x = true) : (calls P (k + 3)).fn "is_table" [x] h = .ok (.bl (isTable x)) h := by
  refine fnPure (h' := []) (d := d_is_table) Hf.look rfl rfl (by simp [sm_free hx]) ?_ rfl
  cases x with
  | tup xs =>
    obtain ⟨m, rfl, h8, hs⟩ := sm_tup hx
    by_cases h3 : xs.length = 3
    · match xs, h3 with
      | [o, t, c], _ =>
        have so := hs o (by simp)
        have st := hs t (by simp)
        have sc := hs c (by simp)
        cases ho : areChoices o with
        | false => simp [d_is_table, at0, at1, fn_are_choices so, ho, isTable]
        | true =>
          cases ht : areChoices t with
          | false => simp [d_is_table, at0, at1, fn_are_choices so, fn_are_choices st, ho, ht, isTable]
          | true =>
            obtain ⟨os, rfl⟩ : ∃ os, o = .tup os := by cases o <;> simp [areChoices] at ho; exact ⟨_, rfl⟩
            obtain ⟨ts, rfl⟩ : ∃ ts, t = .tup ts := by cases t <;> simp [areChoices] at ht; exact ⟨_, rfl⟩
            cases c with
            | tup cs =>
              obtain ⟨m2, rfl, h8c, hsc⟩ := sm_tup sc
              have isl : ∀ l ∈ cs, evE (calls P (k + 2)) (.and (.cons (.blt false "isinstance" (.cons (.var 4) (.cons (.ty "tuple") .nil))) (.cons (.cmp .Eq (.blt false "len" (.cons (.var 4) .nil)) (.blt false "len" (.cons (.var 2) .nil))) .nil))) [some (.tup [.tup os, .tup ts, .tup cs]), some (.tup os), some (.tup ts), some (.tup cs), some l, none] [] = .ok (.bl (isLine ts.length l)) [] := fun l hl => by
                have sl := hsc l hl
                cases l with
                | tup ls =>
                  have e : ((ls.length : Int) == (ts.length : Int)) = decide (ls.length = ts.length) := by
                    by_cases q : ls.length = ts.length <;> simp [q]
                    omega
                  simp [isLine, e]
                | non => simp [isLine]
                | bl => simp [isLine]
                | int => simp [isLine]
                | str => simp [isLine]
                | lst => simp [isLine]
                | _ => cases m2 <;> simp [sm] at sl
              have hc1 : evE (calls P (k + 2)) (.comp false (.and (.cons (.blt false "isinstance" (.cons (.var 4) (.cons (.ty "tuple") .nil))) (.cons (.cmp .Eq (.blt false "len" (.cons (.var 4) .nil)) (.blt false "len" (.cons (.var 2) .nil))) .nil))) (.name 4) (.val (.var 3)) .nil [4]) [some (.tup [.tup os, .tup ts, .tup cs]), some (.tup os), some (.tup ts), some (.tup cs), none, none] [] = .ok (.lst (cs.map fun l => .bl (isLine ts.length l))) [] := by
                rw [evMap (its := ⟨cs, none⟩) (fun l => .bl (isLine ts.length l)) (by simp) rfl ?_ (big8 h8c)]
                · exact mkL_ok (by simpa using big8 h8c)
                · intro x hx'
                  exact ⟨_, by simp [bindT, wipeE], isl x hx'⟩
              have e : ((cs.length : Int) == (os.length : Int)) = decide (cs.length = os.length) := by
                by_cases q : cs.length = os.length <;> simp [q]
                omega
              by_cases hlen : cs.length = os.length
              · cases hli : cs.all (isLine ts.length) with
                | false => simp [d_is_table, at0, at1, fn_are_choices so, fn_are_choices st, ho, ht, isTable, bindT, bindTs, e, hlen, hc1, all_ok, hli, cellsOf]
                | true =>
                  have hc2 : evE (calls P (k + 2)) (.comp2 false (.call "is_cell" (.cons (.var 5) .nil)) (.name 4) (.val (.var 3)) (.name 5) (.val (.var 4)) [4, 5] [5]) [some (.tup [.tup os, .tup ts, .tup cs]), some (.tup os), some (.tup ts), some (.tup cs), none, none] [] = .ok (.lst (((cs.flatMap cellsOf).map isCell).map .bl)) [] := by
                    have hline : ∀ l ∈ cs, ∃ ls, l = .tup ls := fun l hl => by
                      have := List.all_eq_true.mp hli l hl
                      cases l <;> simp [isLine] at this
                      exact ⟨_, rfl⟩
                    have ef : (cs.flatMap fun x => (cellsOf x).map fun y => D.bl (isCell y)) = ((cs.flatMap cellsOf).map isCell).map .bl := by
                      rw [List.map_map, List.map_flatMap]
                      rfl
                    have hbig : (cs.flatMap cellsOf).length ≤ BIG := by
                      have := flat8 (xs := cs) (f := cellsOf) (n := 8) fun l hl => by
                        obtain ⟨ls, rfl⟩ := hline l hl
                        obtain ⟨m3, _, h8l, _⟩ := sm_tup (hsc _ hl)
                        exact h8l
                      have hB : BIG = 10000000 := rfl
                      omega
                    rw [evMap2 (its := ⟨cs, none⟩) cellsOf (fun _ y => .bl (isCell y)) (by simp) rfl ?_ ?_]
                    · rw [ef]
                      exact mkL_ok (by simpa using hbig)
                    · intro x hx'
                      obtain ⟨ls, rfl⟩ := hline x hx'
                      obtain ⟨m3, rfl, h8l, hsl⟩ := sm_tup (hsc _ hx')
                      refine ⟨[some (.tup [.tup os, .tup ts, .tup cs]), some (.tup os), some (.tup ts), some (.tup cs), some (.tup ls), none], by simp [bindT, wipeE], by simp [cellsOf], fun y hy => ⟨[some (.tup [.tup os, .tup ts, .tup cs]), some (.tup os), some (.tup ts), some (.tup cs), some (.tup ls), some y], by simp [bindT, wipeE], ?_⟩⟩
                      simp [fn_is_cell (hsl y hy)]
                    · rw [ef]
                      simpa using hbig
                  simp [d_is_table, at0, at1, fn_are_choices so, fn_are_choices st, ho, ht, isTable, bindT, bindTs, e, hlen, hc1, all_ok, hli, cellsOf, hc2, allB, -List.map_map]
              · simp [d_is_table, at0, at1, fn_are_choices so, fn_are_choices st, ho, ht, isTable, bindT, bindTs, e, hlen, cellsOf]
            | non => simp [d_is_table, at0, at1, fn_are_choices so, fn_are_choices st, ho, ht, isTable, bindT, bindTs]
            | bl => simp [d_is_table, at0, at1, fn_are_choices so, fn_are_choices st, ho, ht, isTable, bindT, bindTs]
            | int => simp [d_is_table, at0, at1, fn_are_choices so, fn_are_choices st, ho, ht, isTable, bindT, bindTs]
            | str => simp [d_is_table, at0, at1, fn_are_choices so, fn_are_choices st, ho, ht, isTable, bindT, bindTs]
            | lst => simp [d_is_table, at0, at1, fn_are_choices so, fn_are_choices st, ho, ht, isTable, bindT, bindTs]
            | _ => cases m <;> simp [sm] at sc
    · have e : ((xs.length : Int) == 3) = false := by simp; omega
      have e2 : isTable (.tup xs) = false := by
        match xs, h3 with
        | [], _ => rfl
        | [_], _ => rfl
        | [_, _], _ => rfl
        | [_, _, _], h => exact absurd rfl h
        | _ :: _ :: _ :: _ :: _, _ => rfl
      simp [d_is_table, e, e2]
  | non => simp [d_is_table, isTable]
  | bl => simp [d_is_table, isTable]
  | int => simp [d_is_table, isTable]
  | str => simp [d_is_table, isTable]
  | lst => simp [d_is_table, isTable]
  | _ => cases n <;> simp [sm] at hx
end Q

namespace Q
open Lt PySem
theorem str_deq {x y : D} (hx : isStr x = true) : deq x y = true → x = y := by
  cases x <;> simp [isStr] at hx
  cases y <;> simp [deq]
theorem fn_are_some {P : Prg} [Hf P "are_some" d_are_some] [Hf P "is_rising" d_is_rising] {k n : Nat} {names : List D} {x : D} {h : MHeap} (hn : sm 3 (.tup names) = true) (hx : sm n x = true) (h60 : n ≤ 60) : (calls P (k + 2)).fn "are_some" [.tup names, x] h = .ok (.bl (areSome names x)) h := by
  refine fnPure (h' := []) (d := d_are_some) Hf.look rfl rfl (by simp only [D.freeL, sm_free hn, sm_free hx]; rfl) ?_ rfl
  obtain ⟨m0, e0, h80, hsn⟩ := sm_tup hn
  cases e0
  cases x with
  | tup xs =>
    obtain ⟨m, rfl, h8, hs⟩ := sm_tup hx
    have hq : eqD [] (.tup xs) (.tup []) = some xs.isEmpty := by
      rw [eq_dd (okD_mono (by omega) (sm_ok hx)) rfl]
      cases xs <;> simp [res, deq, deqL]
    have hel : ∀ y ∈ xs, evE (calls P (k + 1)) (.and (.cons (.blt false "isinstance" (.cons (.var 2) (.cons (.ty "str") .nil))) (.cons (.cmp .In (.var 2) (.var 0)) .nil))) [some (.tup names), some (.tup xs), some y] [] = .ok (.bl (isStr y && names.any fun z => deq z y)) [] := fun y hy => by
      have sy := hs y hy
      have hin : inD [] y (.tup names) = some (names.any fun z => deq z y) ∨ isStr y = false := by
        cases y with
        | str s =>
          left
          have h1 : okD 60 (res [] (.str s)) = true := okD_mono (by omega) (sm_ok sy)
          have h2 : names.all (okD 60) = true := List.all_eq_true.mpr fun z hz => okD_mono (by omega) (sm_ok (hsn z hz))
          simp only [inD, itemsOf, h1, h2, Bool.and_self, if_true]
          rfl
        | _ => right; rfl
      cases y with
      | str s =>
        rcases hin with hin | hin
        · simp [isStr, hin]
        · simp [isStr] at hin
      | non => simp [isStr]
      | bl => simp [isStr]
      | int => simp [isStr]
      | tup => simp [isStr]
      | lst => simp [isStr]
      | _ => cases m <;> simp [sm] at sy
    have hc : evE (calls P (k + 1)) (.comp false (.and (.cons (.blt false "isinstance" (.cons (.var 2) (.cons (.ty "str") .nil))) (.cons (.cmp .In (.var 2) (.var 0)) .nil))) (.name 2) (.val (.var 1)) .nil [2]) [some (.tup names), some (.tup xs), none] [] = .ok (.lst (xs.map fun y => .bl (isStr y && names.any fun z => deq z y))) [] := by
      rw [evMap (its := ⟨xs, none⟩) (fun y => .bl (isStr y && names.any fun z => deq z y)) (by simp) rfl ?_ (big8 h8)]
      · exact mkL_ok (by simpa using big8 h8)
      · intro y hy
        exact ⟨[some (.tup names), some (.tup xs), some y], by simp [bindT, wipeE], hel y hy⟩
    have hr : (xs.all fun y => isStr y && names.any fun z => deq z y) = true → (calls P (k + 1)).fn "is_rising" [.tup xs] [] = .ok (.bl (rising xs)) [] := fun ha => fn_is_rising (fun x hx => by
      have := List.all_eq_true.mp ha x hx
      simp only [Bool.and_eq_true] at this
      exact this.1) (big8 h8)
    have mk0 : mkT [] [] = .ok (.tup []) [] := rfl
    cases he : xs.isEmpty with
    | true => simp [d_are_some, mk0, hq, he, areSome]
    | false =>
      cases ha : (xs.all fun y => isStr y && names.any fun z => deq z y) with
      | false => simp only [d_are_some, evSs, evS.eq_10]; simp [mk0, hq, he, hc, all_ok, ha, areSome]
      | true => simp only [d_are_some, evSs, evS.eq_10]; simp [mk0, hq, he, hc, all_ok, ha, areSome, hr ha]
  | non => simp [d_are_some, areSome]
  | bl => simp [d_are_some, areSome]
  | int => simp [d_are_some, areSome]
  | str => simp [d_are_some, areSome]
  | lst => simp [d_are_some, areSome]
  | _ => cases n <;> simp [sm] at hx
theorem fn_is_left {P : Prg} [Hf P "is_left" d_is_left] [Hf P "are_some" d_are_some] [Hf P "is_rising" d_is_rising] {k n : Nat} {os ts : List D} {c x : D} {h : MHeap} (ho : sm 3 (.tup os) = true) (ht : sm 3 (.tup ts) = true) (hc : c.free = true) (hx : sm n x = true) (h60 : n ≤ 60) : (calls P (k + 3)).fn "is_left" [.tup [.tup os, .tup ts, c], x] h = .ok (.bl (isLeft os ts x)) h := by
  refine fnPure (h' := []) (d := d_is_left) Hf.look rfl rfl (by have h1 := sm_free ho; have h2 := sm_free ht; simp only [D.free] at h1 h2; simp [h1, h2, hc, sm_free hx]) ?_ rfl
  cases x with
  | tup xs =>
    obtain ⟨m, rfl, h8, hs⟩ := sm_tup hx
    by_cases h2 : xs.length = 2
    · match xs, h2 with
      | [a, b], _ =>
        have sa := hs a (by simp)
        have sb := hs b (by simp)
        cases q : areSome os a <;> simp [d_is_left, at0, at1, fn_are_some ho sa (by omega), fn_are_some ht sb (by omega), isLeft, q]
    · have e : ((xs.length : Int) == 2) = false := by simp; omega
      have e2 : isLeft os ts (.tup xs) = false := by
        match xs, h2 with
        | [], _ => rfl
        | [_], _ => rfl
        | [_, _], h => exact absurd rfl h
        | _ :: _ :: _ :: _, _ => rfl
      simp [d_is_left, e, e2]
  | non => simp [d_is_left, isLeft]
  | bl => simp [d_is_left, isLeft]
  | int => simp [d_is_left, isLeft]
  | str => simp [d_is_left, isLeft]
  | lst => simp [d_is_left, isLeft]
  | _ => cases n <;> simp [sm] at hx
theorem fn_all_left {P : Prg} [Hf P "all_left" d_all_left] {k : Nat} {o t c : D} {h : MHeap} (ho : o.free = true) (ht : t.free = true) (hc : c.free = true) : (calls P (k + 1)).fn "all_left" [.tup [o, t, c]] h = .ok (.tup [o, t]) h := by
  refine fnPure (h' := []) (d := d_all_left) Hf.look rfl rfl (by simp [ho, ht, hc]) ?_ (by simp [ho, ht])
  simp [d_all_left, at0, at1, mkT, BIG]
theorem fn_law_is {P : Prg} [Hf P "_law_is" d__law_is] {k : Nat} {a b : Bool} {h : MHeap} : (calls P (k + 1)).fn "_law_is" [.bl a, .bl b] h = .ok (.bl (a == b)) h := by
  refine fnPure (h' := []) (d := d__law_is) Hf.look rfl rfl (by simp) ?_ rfl
  simp [d__law_is]
end Q

namespace Q
open Lt PySem
def kCount : Str := Str.ofString "count"
def kRests : Str := Str.ofString "rests"
/-- the drawing's heap: what is left of the script's numbers, the town, further objects -/
def tw (rests : List (Ky × D)) (c : Int) (tl : MHeap) : MHeap := .dic 0 rests :: .dic 0 [(.str kCount, .int c), (.str kRests, .loc 0)] :: tl
/-- numbers by places below 63 -/
inductive RestsOk : List (Ky × D) → List Nat → Prop
  | nil : RestsOk [] []
  | cons {i : Nat} {v : Int} {r : List (Ky × D)} {is : List Nat} : i < 64 → i ∉ is → RestsOk r is → RestsOk ((.int (i : Int), .int v) :: r) (i :: is)
theorem short_of {n : Nat} : ∀ {l : List Nat}, l.Nodup → (∀ i ∈ l, i < n) → l.length ≤ n := by
  induction n with
  | zero =>
    intro l _ h
    cases l with
    | nil => simp
    | cons a r => exact absurd (h a List.mem_cons_self) (Nat.not_lt_zero a)
  | succ n ih =>
    intro l nd h
    by_cases hm : n ∈ l
    · have h1 := ih (l := l.erase n) (nd.erase n) fun i hi => by
        have h2 := h i (List.mem_of_mem_erase hi)
        have h3 : i ≠ n := fun z => by
          subst z
          exact (List.Nodup.not_mem_erase nd) hi
        omega
      rw [List.length_erase_of_mem hm] at h1
      omega
    · have h1 := ih nd fun i hi => by
        have h2 := h i hi
        have h3 : i ≠ n := fun z => hm (z ▸ hi)
        omega
      omega
theorem RestsOk.facts {rests : List (Ky × D)} {is : List Nat} (r : RestsOk rests is) : is.Nodup ∧ (∀ i ∈ is, i < 64) ∧ rests.length = is.length := by
  induction r with
  | nil => simp
  | cons h1 h2 _ ih =>
    refine ⟨List.nodup_cons.mpr ⟨h2, ih.1⟩, fun i hi => ?_, by simp [ih.2.2]⟩
    rcases List.mem_cons.mp hi with z | z
    · rw [z]; exact h1
    · exact ih.2.1 i z
theorem RestsOk.len {rests : List (Ky × D)} {is : List Nat} (r : RestsOk rests is) : rests.length ≤ 64 := by
  obtain ⟨h1, h2, h3⟩ := r.facts
  rw [h3]
  exact short_of h1 h2
theorem beq_key {i j : Nat} : Ky.beq (.int (i : Int)) (.int (j : Int)) = decide (i = j) := by
  simp only [Ky.beq]
  by_cases h : i = j <;> simp [h]
  omega
theorem RestsOk.look {rests : List (Ky × D)} {is : List Nat} (r : RestsOk rests is) (j : Nat) : lookK rests (.int (j : Int)) = none ∨ ∃ v : Int, lookK rests (.int (j : Int)) = some (.int v) := by
  induction r with
  | nil => left; rfl
  | cons h1 h2 _ ih =>
    rename_i i v r is _
    unfold lookK at ih ⊢
    rw [List.find?_cons]
    simp only [beq_key]
    by_cases h : i = j
    · right
      exact ⟨v, by simp [h]⟩
    · simpa [h] using ih
theorem mem_put {is : List Nat} {i j : Nat} (h : i ∈ (if j ∈ is then is else is ++ [j])) : i ∈ is ∨ i = j := by
  split at h
  · exact .inl h
  · simpa using h
theorem RestsOk.put {rests : List (Ky × D)} {is : List Nat} (r : RestsOk rests is) {j : Nat} (hj : j < 64) (v : Int) : RestsOk (putKy rests (.int (j : Int)) (.int v)) (if j ∈ is then is else is ++ [j]) := by
  have hany : ∀ {rests : List (Ky × D)} {is : List Nat}, RestsOk rests is → (rests.any fun p => Ky.beq p.1 (.int (j : Int))) = decide (j ∈ is) := by
    intro rests is r
    induction r with
    | nil => simp
    | cons h1 h2 _ ih =>
      rename_i i v r is _
      simp only [List.any_cons, ih, beq_key]
      by_cases h : i = j
      · subst h; simp
      · have h' : ¬ j = i := fun z => h z.symm
        by_cases h3 : j ∈ is <;> simp [h, h', h3]
  have hmap : ∀ {rests : List (Ky × D)} {is : List Nat}, RestsOk rests is → RestsOk (rests.map fun p => if Ky.beq p.1 (.int (j : Int)) then (p.1, .int v) else p) is := by
    intro rests is r
    induction r with
    | nil => exact .nil
    | cons h1 h2 _ ih =>
      rename_i i v' r is _
      simp only [List.map_cons, beq_key]
      by_cases h : i = j
      · simp only [h, decide_true, if_true]
        subst h
        exact .cons h1 h2 ih
      · simp only [h, decide_false, Bool.false_eq_true, if_false]
        exact .cons h1 h2 ih
  have happ : ∀ {rests : List (Ky × D)} {is : List Nat}, RestsOk rests is → j ∉ is → RestsOk (rests ++ [(.int (j : Int), .int v)]) (is ++ [j]) := by
    intro rests is r
    induction r with
    | nil => intro _; exact .cons hj (by simp) .nil
    | cons h1 h2 _ ih =>
      rename_i i v' r is _
      intro hn
      simp only [List.mem_cons, not_or] at hn
      refine .cons h1 ?_ (ih hn.2)
      intro z
      rcases List.mem_append.mp z with z | z
      · exact h2 z
      · exact hn.1 (List.mem_singleton.mp z).symm
  unfold putKy
  rw [hany r]
  by_cases h : j ∈ is
  · simp only [h, decide_true, if_true]
    exact hmap r
  · simp only [h, decide_false, Bool.false_eq_true, if_false]
    exact happ r h
theorem RestsOk.low {rests : List (Ky × D)} {is : List Nat} {n : Nat} (r : RestsOk rests is) : D.lowP n rests = true := by
  induction r with
  | nil => rfl
  | cons h1 h2 _ ih => simp [D.lowP, D.low, ih]
theorem tw_low {rests : List (Ky × D)} {is : List Nat} {c : Int} {tl : MHeap} (r : RestsOk rests is) (ht : tl.all (MObj.low (tl.length + 2)) = true) : (tw rests c tl).all (MObj.low (tl.length + 2)) = true := by
  rw [tw, List.all_cons, List.all_cons, ht]
  simp [MObj.low, r.low, D.lowP, D.low]
section
variable {rests : List (Ky × D)} {c : Int} {tl : MHeap} {v : D} {is : List Nat}
theorem tw_count : getD (.loc 1) (.str kCount) (tw rests c tl) = some (.int c) := rfl
theorem tw_rests : getD (.loc 1) (.str kRests) (tw rests c tl) = some (.loc 0) := rfl
theorem tw_inc {d : Int} : putD (.loc 1) (.str kCount) (.int d) (tw rests c tl) = some (tw rests d tl) := rfl
theorem tw_get {i : Nat} : methD "get" (.loc 0) [.int i, v] (tw rests c tl) = .ok ((lookK rests (.int (i : Int))).getD v) (tw rests c tl) := rfl
theorem tw_put {i : Nat} (hl : rests.length ≤ 64) : putD (.loc 0) (.int i) v (tw rests c tl) = some (tw (putKy rests (.int (i : Int)) v) c tl) := by
  have : decide (rests.length < BIG) = true := decide_eq_true (Nat.lt_of_le_of_lt hl (by decide))
  simp [putD, tw, D.key, Ky.kind, this]
end
/-- a place of the script -/
def atOf (ns : List Int) (c : Int) : Nat := if ns.isEmpty then 0 else (c.fmod ns.length).toNat
theorem atOf_lt {ns : List Int} {c : Int} (h : ns.length ≤ 63) : atOf ns c < 64 := by
  unfold atOf
  split
  · omega
  · rename_i hn
    have h0 : 0 < ns.length := by cases ns <;> simp at hn ⊢
    have := Int.fmod_lt_of_pos c (show (0 : Int) < ns.length by omega)
    omega
theorem fn_draw {P : Prg} {k : Nat} (hP : P.tab.lookup "_law_draw" = some d__law_draw) {ns : List Int} {many : Int} {rests : List (Ky × D)} {is : List Nat} {c : Int} {tl : MHeap} (hns : ns.length ≤ 63) (hr : RestsOk rests is) (hm : 0 < many) (hm2 : many < 1073741824)
    (ht : tl.all (MObj.low (tl.length + 2)) = true) : ∃ v rests' is', (calls P (k + 1)).fn "_law_draw" [.scr ns, .loc 1, .int many] (tw rests c tl) = .ok (.int v) (tw rests' (c + 1) tl) ∧ 0 ≤ v ∧ v < many ∧ RestsOk rests' is' := by
  have hat := atOf_lt (c := c + 1) hns
  have hlen : ∀ r d, (tw r d tl).length = tl.length + 2 := fun r d => rfl
  -- the number at the place
  obtain ⟨rest, hrest⟩ : ∃ rest : Int, evE (calls P k) (.meth "get" (.ix (.var 1) (.str kRests)) (.cons (.var 3) (.cons (.ite (.var 0) (.ix (.var 0) (.var 3)) (.int 0)) .nil))) [some (.scr ns), some (.loc 1), some (.int many), some (.int (atOf ns (c + 1) : Nat)), none, none] (tw rests (c + 1) tl) = .ok (.int rest) (tw rests (c + 1) tl) := by
    have rc : recvD "get" (.loc 0) (tw rests (c + 1) tl) = true := rfl
    have hv : ∃ d : Int, (if ns.isEmpty then Out.ok (D.int 0) (tw rests (c + 1) tl) else Out.of (L2.atI (ns.map D.int) (atOf ns (c + 1) : Nat)) (tw rests (c + 1) tl)) = Out.ok (D.int d) (tw rests (c + 1) tl) := by
      cases he : ns.isEmpty with
      | true => exact ⟨0, rfl⟩
      | false =>
        rw [at_nat]
        have h0 : 0 < ns.length := by cases ns <;> simp at he ⊢
        have h1 := Int.fmod_lt_of_pos (c + 1) (show (0 : Int) < ns.length by omega)
        have h2 := Int.fmod_nonneg_of_pos (c + 1) (show (0 : Int) < ns.length by omega)
        have h3 : atOf ns (c + 1) < ns.length := by
          unfold atOf
          rw [he]
          simp only [Bool.false_eq_true, if_false]
          omega
        exact ⟨ns[atOf ns (c + 1)], by simp [h3]⟩
    obtain ⟨dd, hd⟩ := hv
    have hg : ∃ rest : Int, (lookK rests (.int ((atOf ns (c + 1) : Nat) : Int))).getD (.int dd) = .int rest := by
      rcases hr.look (atOf ns (c + 1)) with e | ⟨v, e⟩ <;> rw [e]
      · exact ⟨dd, rfl⟩
      · exact ⟨v, rfl⟩
    obtain ⟨rest, e⟩ := hg
    refine ⟨rest, ?_⟩
    cases he : ns.isEmpty with
    | true =>
      rw [he] at hd
      simp only [if_true, Out.ok.injEq, D.int.injEq, and_true] at hd
      subst hd
      simp [tw_rests, rc, he, tw_get, e]
    | false =>
      rw [he] at hd
      simp only [Bool.false_eq_true, if_false] at hd
      simp [tw_rests, rc, he, hd, tw_get, e]
  have s1 : evS (calls P k) (.put (.var 1) (.str kCount) (.bin false .Add (.ix (.var 1) (.str kCount)) (.int 1))) [some (.scr ns), some (.loc 1), some (.int many), none, none, none] (tw rests c tl) = .nx [some (.scr ns), some (.loc 1), some (.int many), none, none, none] (tw rests (c + 1) tl) := by
    simp [tw_count, tw_inc]
  have s2 : evS (calls P k) (.set 3 (.ite (.var 0) (.bin false .Mod (.ix (.var 1) (.str kCount)) (.blt false "len" (.cons (.var 0) .nil))) (.int 0))) [some (.scr ns), some (.loc 1), some (.int many), none, none, none] (tw rests (c + 1) tl) = .nx [some (.scr ns), some (.loc 1), some (.int many), some (.int (atOf ns (c + 1) : Nat)), none, none] (tw rests (c + 1) tl) := by
    cases he : ns.isEmpty with
    | true => simp [he, setE, atOf]
    | false =>
      have h0 : 0 < ns.length := by cases ns <;> simp at he ⊢
      have h2 := Int.fmod_nonneg_of_pos (c + 1) (show (0 : Int) < ns.length by omega)
      have h4 : ((atOf ns (c + 1) : Nat) : Int) = (c + 1).fmod ns.length := by
        unfold atOf
        rw [he]
        simp only [Bool.false_eq_true, if_false]
        omega
      have h5 : ¬ (ns.length : Int) = 0 := by omega
      have h6 : ¬ ns = [] := fun z => by rw [z] at h0; simp at h0
      simp [he, tw_count, setE, h4, h5, h6]
  have s3 : evS (calls P k) (.set 4 (.meth "get" (.ix (.var 1) (.str kRests)) (.cons (.var 3) (.cons (.ite (.var 0) (.ix (.var 0) (.var 3)) (.int 0)) .nil)))) [some (.scr ns), some (.loc 1), some (.int many), some (.int (atOf ns (c + 1) : Nat)), none, none] (tw rests (c + 1) tl) = .nx [some (.scr ns), some (.loc 1), some (.int many), some (.int (atOf ns (c + 1) : Nat)), some (.int rest), none] (tw rests (c + 1) tl) := by
    rw [evS.eq_1, hrest, flOk]
    simp [setE]
  have hdv : divOk many = true := by simp [divOk]; omega
  have hm0 : ¬ many = 0 := by omega
  have fin : ∀ v r' is', (evSs (calls P k) d__law_draw.body (Lt.start d__law_draw [.scr ns, .loc 1, .int many]) (tw rests c tl)).out = .ok (.int v) (tw r' (c + 1) tl) → 0 ≤ v → v < many → RestsOk r' is' →
      ∃ v rests' is', (calls P (k + 1)).fn "_law_draw" [.scr ns, .loc 1, .int many] (tw rests c tl) = .ok (.int v) (tw rests' (c + 1) tl) ∧ 0 ≤ v ∧ v < many ∧ RestsOk rests' is' := fun v r' is' e h1 h2 h3 => by
    refine ⟨v, r', is', ?_, h1, h2, h3⟩
    have := fnTrunc hP rfl rfl e (v' := .int v) (by rw [hlen, hlen]; exact Nat.le_refl _) (by rw [hlen, List.take_of_length_le (by rw [hlen]; exact Nat.le_refl _)]; exact tw_low h3 ht) rfl
    rw [this, hlen, List.take_of_length_le (by rw [hlen]; exact Nat.le_refl _)]
  have shape : d__law_draw.body = .cons (.put (.var 1) (.str kCount) (.bin false .Add (.ix (.var 1) (.str kCount)) (.int 1)))
      (.cons (.set 3 (.ite (.var 0) (.bin false .Mod (.ix (.var 1) (.str kCount)) (.blt false "len" (.cons (.var 0) .nil))) (.int 0)))
      (.cons (.set 4 (.meth "get" (.ix (.var 1) (.str kRests)) (.cons (.var 3) (.cons (.ite (.var 0) (.ix (.var 0) (.var 3)) (.int 0)) .nil))))
      (.cons (.ite (.cmp .GtE (.var 4) (.bin false .Pow (.int 10) (.int 18)))
        (.cons (.put (.ix (.var 1) (.str kRests)) (.var 3) (.bin false .FloorDiv (.var 4) (.var 2))) (.cons (.ret (.bin false .Mod (.var 4) (.var 2))) .nil)) .nil)
      (.cons (.set 5 (.bin false .Mod (.bin false .Add (.var 4) (.bin false .Mult (.int 104729) (.ix (.var 1) (.str kCount)))) (.int 4294967291)))
      (.cons (.set 5 (.bin false .Mod (.bin false .Pow (.var 5) (.int 5)) (.int 4294967279)))
      (.cons (.ret (.bin false .Mod (.bin false .FloorDiv (.bin false .Mod (.bin false .Add (.bin false .Mult (.bin false .FloorDiv (.var 5) (.int 64)) (.int 69621)) (.var 5)) (.int 4294967231)) (.int 8)) (.var 2))) .nil)))))) := rfl
  have st : Lt.start d__law_draw [.scr ns, .loc 1, .int many] = [some (.scr ns), some (.loc 1), some (.int many), none, none, none] := rfl
  by_cases hbig : (1000000000000000000 : Int) ≤ rest
  · refine fin (rest.fmod many) (putKy rests (.int ((atOf ns (c + 1) : Nat) : Int)) (.int (rest.fdiv many))) _ ?_ (Int.fmod_nonneg_of_pos _ hm) (Int.fmod_lt_of_pos _ hm) (hr.put hat _)
    rw [shape, st, seqNx s1, seqNx s2, seqNx s3]
    simp [hbig, tw_rests, tw_put hr.len, hdv, hm0]
  · obtain ⟨n1, hn1⟩ : ∃ n1, n1 = (rest + 104729 * (c + 1)).fmod 4294967291 := ⟨_, rfl⟩
    have b1 : 0 ≤ n1 := by rw [hn1]; exact Int.fmod_nonneg_of_pos _ (by decide)
    have b2 : n1 < 4294967291 := by rw [hn1]; exact Int.fmod_lt_of_pos _ (by decide)
    obtain ⟨n2, hn2⟩ : ∃ n2, n2 = (n1 ^ 5).fmod 4294967279 := ⟨_, rfl⟩
    have b3 : 0 ≤ n2 := by rw [hn2]; exact Int.fmod_nonneg_of_pos _ (by decide)
    have b4 : n2 < 4294967279 := by rw [hn2]; exact Int.fmod_lt_of_pos _ (by decide)
    have hs5 : evS (calls P k) (.set 5 (.bin false .Mod (.bin false .Add (.var 4) (.bin false .Mult (.int 104729) (.ix (.var 1) (.str kCount)))) (.int 4294967291))) [some (.scr ns), some (.loc 1), some (.int many), some (.int (atOf ns (c + 1) : Nat)), some (.int rest), none] (tw rests (c + 1) tl) = .nx [some (.scr ns), some (.loc 1), some (.int many), some (.int (atOf ns (c + 1) : Nat)), some (.int rest), some (.int n1)] (tw rests (c + 1) tl) := by
      have hmul : mulOk 104729 (c + 1) = true := by simp [mulOk]
      simp [tw_count, hmul, setE, ← hn1]
    have hs6 : evS (calls P k) (.set 5 (.bin false .Mod (.bin false .Pow (.var 5) (.int 5)) (.int 4294967279))) [some (.scr ns), some (.loc 1), some (.int many), some (.int (atOf ns (c + 1) : Nat)), some (.int rest), some (.int n1)] (tw rests (c + 1) tl) = .nx [some (.scr ns), some (.loc 1), some (.int many), some (.int (atOf ns (c + 1) : Nat)), some (.int rest), some (.int n2)] (tw rests (c + 1) tl) := by
      have hp : n1.natAbs < 18446744073709551616 := by omega
      simp [hp, setE, ← hn2]
    have hs4 : evS (calls P k) (.ite (.cmp .GtE (.var 4) (.bin false .Pow (.int 10) (.int 18)))
        (.cons (.put (.ix (.var 1) (.str kRests)) (.var 3) (.bin false .FloorDiv (.var 4) (.var 2))) (.cons (.ret (.bin false .Mod (.var 4) (.var 2))) .nil)) .nil) [some (.scr ns), some (.loc 1), some (.int many), some (.int (atOf ns (c + 1) : Nat)), some (.int rest), none] (tw rests (c + 1) tl) = .nx [some (.scr ns), some (.loc 1), some (.int many), some (.int (atOf ns (c + 1) : Nat)), some (.int rest), none] (tw rests (c + 1) tl) := by
      simp [hbig]
    refine fin (((((n2.fdiv 64 * 69621) + n2).fmod 4294967231).fdiv 8).fmod many) rests is ?_ (Int.fmod_nonneg_of_pos _ hm) (Int.fmod_lt_of_pos _ hm) hr
    rw [shape, st, seqNx s1, seqNx s2, seqNx s3, seqNx hs4, seqNx hs5, seqNx hs6]
    have hmul : mulOk (n2.fdiv 64) 69621 = true := by simp [mulOk]
    have d64 : divOk 64 = true := rfl
    have d8 : divOk 8 = true := rfl
    simp [hmul, d64, d8, hm0]
end Q

namespace Q
open Lt PySem
/-- all locations in the tail lie in the heap -/
def TlF (tl : MHeap) : Prop := ∀ o ∈ tl, ∀ n, tl.length + 2 ≤ n → MObj.low n o = true
mutual
theorem free_low {n : Nat} : ∀ {d : D}, d.free = true → D.low n d = true
  | .non, _ => rfl
  | .bl _, _ => rfl
  | .int _, _ => rfl
  | .str _, _ => rfl
  | .tup xs, h => by simp only [D.free] at h; simp only [D.low, free_lowL h]
  | .lst xs, h => by simp only [D.free] at h; simp only [D.low, free_lowL h]
  | .dic t kvs, h => by simp only [D.free] at h; simp only [D.low, free_lowP h]
  | .loc n, h => by simp [D.free] at h
  | .scr _, _ => rfl
  | .fn _, _ => rfl
  | .ty _, _ => rfl
  | .wt _, h => by simp [D.free] at h
  | .exc _, _ => rfl
  | .adr _, _ => rfl
theorem free_lowL {n : Nat} : ∀ {ds : List D}, D.freeL ds = true → D.lowL n ds = true
  | [], _ => rfl
  | x :: r, h => by
    simp only [D.freeL, Bool.and_eq_true] at h
    simp only [D.lowL, free_low h.1, free_lowL h.2, Bool.and_self]
theorem free_lowP {n : Nat} : ∀ {ds : List (Ky × D)}, D.freeP ds = true → D.lowP n ds = true
  | [], _ => rfl
  | (k, x) :: r, h => by
    simp only [D.freeP, Bool.and_eq_true] at h
    simp only [D.lowP, free_low h.1, free_lowP h.2, Bool.and_self]
end
theorem TlF.low {tl : MHeap} (h : TlF tl) {n : Nat} (hn : tl.length + 2 ≤ n) : tl.all (MObj.low n) = true := List.all_eq_true.mpr fun o ho => h o ho n hn
theorem TlF.app {tl : MHeap} (h : TlF tl) {xs : List D} (hf : D.freeL xs = true) : TlF (tl ++ [.lst xs]) := fun o ho n hn => by
  rw [List.length_append] at hn
  rcases List.mem_append.mp ho with z | z
  · exact h o z n (by omega)
  · rw [List.mem_singleton.mp z]
    exact free_lowL hf
/-- a draw -/
theorem draw {P : Prg} {k : Nat} (hP : P.tab.lookup "_law_draw" = some d__law_draw) {ns : List Int} (hns : ns.length ≤ 63) (many : Int) (hm : 0 < many) (hm2 : many < 1073741824) {rests : List (Ky × D)} {is : List Nat} {c : Int} {tl : MHeap} (hr : RestsOk rests is) (ht : TlF tl) :
    ∃ v rests' is', (calls P (k + 1)).fn "_law_draw" [.scr ns, .loc 1, .int many] (tw rests c tl) = .ok (.int v) (tw rests' (c + 1) tl) ∧ 0 ≤ v ∧ v < many ∧ RestsOk rests' is' := fn_draw hP hns hr hm hm2 (ht.low (Nat.le_refl _))
def CellOk (d : D) : Prop := ∃ a b : Int, d = .tup [.int a, .int b] ∧ -99 ≤ a ∧ a ≤ 99 ∧ -99 ≤ b ∧ b ≤ 99
def RowOk (m : Nat) (d : D) : Prop := ∃ cs, d = .tup cs ∧ cs.length = m ∧ ∀ c ∈ cs, CellOk c
theorem CellOk.free {d : D} (h : CellOk d) : d.free = true := by
  obtain ⟨a, b, rfl, _⟩ := h
  rfl
theorem RowOk.free {m : Nat} {d : D} (h : RowOk m d) : d.free = true := by
  obtain ⟨cs, rfl, _, h⟩ := h
  simp only [D.free]
  exact freeL_iff.mpr fun c hc => (h c hc).free
theorem tw_at {rests : List (Ky × D)} {c : Int} {tl : MHeap} {o : MObj} {rest : MHeap} : (tw rests c (tl ++ o :: rest))[2 + tl.length]? = some o := by
  show (_ :: _ :: (tl ++ o :: rest))[2 + tl.length]? = _
  rw [Nat.add_comm, List.getElem?_cons_succ, List.getElem?_cons_succ, List.getElem?_append_right (Nat.le_refl _)]
  simp
theorem tw_set {rests : List (Ky × D)} {c : Int} {tl : MHeap} {o o' : MObj} {rest : MHeap} : (tw rests c (tl ++ o :: rest)).set (2 + tl.length) o' = tw rests c (tl ++ o' :: rest) := by
  show (_ :: _ :: (tl ++ o :: rest)).set (2 + tl.length) o' = _
  rw [Nat.add_comm, List.set_cons_succ, List.set_cons_succ, List.set_append_right _ _ (Nat.le_refl _)]
  simp [tw]
theorem tw_new {rests : List (Ky × D)} {c : Int} {tl : MHeap} {xs : List D} (hl : xs.length ≤ BIG) : mkL true xs (tw rests c tl) = .ok (.loc (2 + tl.length)) (tw rests c (tl ++ [.lst xs])) := by
  rw [mkL_own hl]
  have : (tw rests c tl).length = 2 + tl.length := by simp [tw]; omega
  rw [this]
  rfl
def bodyP : MSs := .cons (.set 11 (.bin false .Add (.call "_law_draw" (.cons (.var 0) (.cons (.var 1) (.cons (.var 5) .nil)))) (.bin false .FloorDiv (.bin false .Mult (.var 8) (.ix (.var 6) (.int 0))) (.int 2))))
  (.cons (.set 12 (.bin false .Add (.call "_law_draw" (.cons (.var 0) (.cons (.var 1) (.cons (.var 5) .nil)))) (.bin false .FloorDiv (.bin false .Mult (.var 10) (.ix (.var 6) (.int 1))) (.int 2))))
  (.cons (.expr (.meth "append" (.var 9) (.cons (.tup (.cons (.var 11) (.cons (.var 12) .nil))) .nil))) .nil))
def bodyR : MSs := .cons (.set 9 (.lst true .nil)) (.cons (.for (.name 10) (.range1 (.blt false "len" (.cons (.var 4) .nil))) bodyP) (.cons (.expr (.meth "append" (.var 7) (.cons (.blt false "tuple" (.cons (.var 9) .nil)) .nil))) .nil))
theorem evRangeOf {C : Calls} {e : ME} {n : Nat} (hn : n ≤ 1000000) {σ : Lt.Env} {h : MHeap} (he : evE C e σ h = .ok (.int (n : Int)) h) : evI C (.range1 e) σ h = .ok ⟨(List.range n).map (fun (i : Nat) => D.int (i : Int)), none⟩ h := by
  rw [evI, he, bindOk]
  exact (congrArg (fun o => Out.of o h) (range0 hn)).trans ofSome
theorem evRange {C : Calls} {ts : List D} (hts : ts.length ≤ 4) {a0 a1 a2 a3 : Option D} {r : Lt.Env} {h : MHeap} : evI C (.range1 (.blt false "len" (.cons (.var 4) .nil))) (a0 :: a1 :: a2 :: a3 :: some (.tup ts) :: r) h = .ok ⟨(List.range ts.length).map (fun (i : Nat) => D.int (i : Int)), none⟩ h :=
  evRangeOf (Nat.le_trans hts (by decide)) (by simp)
section
variable {P : Prg} {k : Nat} (hP : P.tab.lookup "_law_draw" = some d__law_draw) {ns : List Int} (hns : ns.length ≤ 63) {most : Int} {os ts : List D} {high l0 l1 : Int} (hh : 2 ≤ high) (hh2 : high ≤ 6) (h0 : 0 ≤ l0) (h0' : l0 ≤ 3) (h1 : 0 ≤ l1) (h1' : l1 ≤ 3) {L : Nat}
include hP hns hh hh2 h0 h0' h1 h1'
theorem lineLoop {its : Items} (hgd : its.gd = none) {at' : Int} (ha : 0 ≤ at') (ha' : at' ≤ 3) {tl : MHeap} (ht : TlF tl) : ∀ (l line : List D) (p m y : Option D) (rests : List (Ky × D)) (is : List Nat) (c : Int), (∀ x ∈ l, ∃ p : Int, x = .int p ∧ 0 ≤ p ∧ p ≤ 3) → RestsOk rests is → (∀ d ∈ line, CellOk d) → line.length + l.length ≤ 8 →
    ∃ p' m' y' rests' is' c' line', forRun (bodyOf (calls P (k + 1)) (.name 10) bodyP) its l [some (.scr ns), some (.loc 1), some (.int most), some (.tup os), some (.tup ts), some (.int high), some (.tup [.int l0, .int l1]), some (.loc L), some (.int at'), some (.loc (2 + tl.length)), p, m, y] (tw rests c (tl ++ [.lst line]))
      = .nx [some (.scr ns), some (.loc 1), some (.int most), some (.tup os), some (.tup ts), some (.int high), some (.tup [.int l0, .int l1]), some (.loc L), some (.int at'), some (.loc (2 + tl.length)), p', m', y'] (tw rests' c' (tl ++ [.lst line'])) ∧ RestsOk rests' is' ∧ (∀ d ∈ line', CellOk d) ∧ line'.length = line.length + l.length
  | [], line, p, m, y, rests, is, c, _, hr, hc, _ => ⟨p, m, y, rests, is, c, line, forNil (okGd hgd), hr, hc, rfl⟩
  | x :: l, line, p, m, y, rests, is, c, hx, hr, hc, hl => by
    obtain ⟨pl, rfl, hp0, hp3⟩ := hx x List.mem_cons_self
    simp only [List.length_cons] at hl
    have hfl : D.freeL line = true := freeL_iff.mpr fun d hd => (hc d hd).free
    have htl := ht.app hfl
    obtain ⟨v1, r1, is1, e1, a1, b1, k1⟩ := draw (k := k) hP hns high (by omega) (by omega) (c := c) hr htl
    obtain ⟨v2, r2, is2, e2, a2, b2, k2⟩ := draw (k := k) hP hns high (by omega) (by omega) (c := c + 1) k1 htl
    have f1 : 0 ≤ (at' * l0).fdiv 2 ∧ (at' * l0).fdiv 2 ≤ 4 := by
      have q0 : 0 ≤ at' * l0 := Int.mul_nonneg ha h0
      have q1 : at' * l0 ≤ 3 * 3 := Int.mul_le_mul ha' h0' h0 (by decide)
      rw [Int.fdiv_eq_ediv_of_nonneg _ (by decide)]
      omega
    have f2 : 0 ≤ (pl * l1).fdiv 2 ∧ (pl * l1).fdiv 2 ≤ 4 := by
      have q0 : 0 ≤ pl * l1 := Int.mul_nonneg hp0 h1
      have q1 : pl * l1 ≤ 3 * 3 := Int.mul_le_mul hp3 h1' h1 (by decide)
      rw [Int.fdiv_eq_ediv_of_nonneg _ (by decide)]
      omega
    have hcell : CellOk (.tup [.int (v1 + (at' * l0).fdiv 2), .int (v2 + (pl * l1).fdiv 2)]) := ⟨_, _, rfl, by omega, by omega, by omega, by omega⟩
    obtain ⟨p', m', y', r', is', c', line', e3, k3, c3, n3⟩ := lineLoop hgd ha ha' ht l (line ++ [.tup [.int (v1 + (at' * l0).fdiv 2), .int (v2 + (pl * l1).fdiv 2)]]) (some (.int pl)) (some (.int (v1 + (at' * l0).fdiv 2))) (some (.int (v2 + (pl * l1).fdiv 2))) r2 is2 (c + 1 + 1)
      (fun x hx' => hx x (List.mem_cons_of_mem _ hx')) k2 (fun d hd => by
        rcases List.mem_append.mp hd with z | z
        · exact hc d z
        · rw [List.mem_singleton.mp z]; exact hcell) (by simp; omega)
    refine ⟨p', m', y', r', is', c', line', ?_, k3, c3, by rw [n3]; simp; omega⟩
    rw [forCons (okGd hgd) (bodyEq (σ' := [some (.scr ns), some (.loc 1), some (.int most), some (.tup os), some (.tup ts), some (.int high), some (.tup [.int l0, .int l1]), some (.loc L), some (.int at'), some (.loc (2 + tl.length)), some (.int pl), m, y]) (by simp [bindT]) ?_), e3]
    have mu1 : mulOk at' l0 = true := by simp [mulOk]; omega
    have mu2 : mulOk pl l1 = true := by simp [mulOk]; omega
    have d2 : divOk 2 = true := rfl
    have mt : ∀ h, mkT [.int (v1 + (at' * l0).fdiv 2), .int (v2 + (pl * l1).fdiv 2)] h = .ok (.tup [.int (v1 + (at' * l0).fdiv 2), .int (v2 + (pl * l1).fdiv 2)]) h := fun h => rfl
    have rc : recvD "append" (.loc (2 + tl.length)) (tw r2 (c + 1 + 1) (tl ++ [.lst line])) = true := rcvO tw_at
    have ap : ∀ x, methD "append" (.loc (2 + tl.length)) [x] (tw r2 (c + 1 + 1) (tl ++ [.lst line])) = .ok .non (tw r2 (c + 1 + 1) (tl ++ [.lst (line ++ [x])])) := fun x => by
      rw [appO tw_at (Nat.lt_of_le_of_lt (show line.length ≤ 8 by omega) (by decide)), tw_set]
    simp [bodyP, e1, e2, at0, at1, mu1, mu2, d2, setE, mt, rc, ap]
theorem rowLoop {its : Items} (hgd : its.gd = none) (hts : ts.length ≤ 4) {tl : MHeap} (ht : TlF tl) (hL : L = 2 + tl.length) : ∀ (l rows : List D) (a ln p m y : Option D) (rests : List (Ky × D)) (is : List Nat) (c : Int) (ex : MHeap), (∀ x ∈ l, ∃ p : Int, x = .int p ∧ 0 ≤ p ∧ p ≤ 3) → RestsOk rests is → (∀ d ∈ rows, RowOk ts.length d) → rows.length + l.length ≤ 8 → TlF ex →
    ∃ a' ln' p' m' y' rests' is' c' rows' ex', forRun (bodyOf (calls P (k + 1)) (.name 8) bodyR) its l [some (.scr ns), some (.loc 1), some (.int most), some (.tup os), some (.tup ts), some (.int high), some (.tup [.int l0, .int l1]), some (.loc L), a, ln, p, m, y] (tw rests c (tl ++ .lst rows :: ex))
      = .nx [some (.scr ns), some (.loc 1), some (.int most), some (.tup os), some (.tup ts), some (.int high), some (.tup [.int l0, .int l1]), some (.loc L), a', ln', p', m', y'] (tw rests' c' (tl ++ .lst rows' :: ex')) ∧ RestsOk rests' is' ∧ (∀ d ∈ rows', RowOk ts.length d) ∧ rows'.length = rows.length + l.length
  | [], rows, a, ln, p, m, y, rests, is, c, ex, _, hr, hc, _, _ => ⟨a, ln, p, m, y, rests, is, c, rows, ex, forNil (okGd hgd), hr, hc, rfl⟩
  | x :: l, rows, a, ln, p, m, y, rests, is, c, ex, hx, hr, hc, hl, hex => by
    obtain ⟨at', rfl, hp0, hp3⟩ := hx x List.mem_cons_self
    simp only [List.length_cons] at hl
    have hfl : D.freeL rows = true := freeL_iff.mpr fun d hd => (hc d hd).free
    have htl : TlF (tl ++ .lst rows :: ex) := fun o ho n hn => by
      rw [List.length_append, List.length_cons] at hn
      rcases List.mem_append.mp ho with z | z
      · exact ht o z n (by omega)
      · rcases List.mem_cons.mp z with z | z
        · rw [z]; exact free_lowL hfl
        · exact hex o z n (by omega)
    have hits : ∀ x ∈ (List.range ts.length).map (fun (i : Nat) => D.int (i : Int)), ∃ p : Int, x = .int p ∧ 0 ≤ p ∧ p ≤ 3 := fun x hx => by
      obtain ⟨i, hi, rfl⟩ := List.mem_map.mp hx
      rw [List.mem_range] at hi
      exact ⟨_, rfl, by omega, by omega⟩
    obtain ⟨p1, m1, y1, r1, is1, c1, line, e1, k1, cl1, n1⟩ := lineLoop (k := k) hP hns (most := most) (os := os) (ts := ts) hh hh2 h0 h0' h1 h1' (L := L) (its := ⟨(List.range ts.length).map (fun (i : Nat) => D.int (i : Int)), none⟩) rfl hp0 hp3 htl
      ((List.range ts.length).map (fun (i : Nat) => D.int (i : Int))) [] p m y rests is c hits hr (by simp) (by simp; omega)
    have hn1 : line.length = ts.length := by rw [n1]; simp
    have hrow : RowOk ts.length (.tup line) := ⟨line, rfl, hn1, cl1⟩
    have hlf : D.freeL line = true := freeL_iff.mpr fun d hd => (cl1 d hd).free
    obtain ⟨a', ln', p', m', y', r', is', c', rows', ex', e2, k2, c2, n2⟩ := rowLoop hgd hts ht hL l (rows ++ [.tup line]) (some (.int at')) (some (.loc (2 + (tl ++ .lst rows :: ex).length))) p1 m1 y1 r1 is1 c1 (ex ++ [.lst line])
      (fun x hx' => hx x (List.mem_cons_of_mem _ hx')) k1 (fun d hd => by
        rcases List.mem_append.mp hd with z | z
        · exact hc d z
        · rw [List.mem_singleton.mp z]; exact hrow) (by simp; omega) (hex.app hlf)
    refine ⟨a', ln', p', m', y', r', is', c', rows', ex', ?_, k2, c2, by rw [n2]; simp; omega⟩
    rw [forCons (okGd hgd) (bodyEq (σ' := [some (.scr ns), some (.loc 1), some (.int most), some (.tup os), some (.tup ts), some (.int high), some (.tup [.int l0, .int l1]), some (.loc L), some (.int at'), ln, p, m, y]) (by simp [bindT]) ?_), e2]
    rw [bodyR, seqNx (σ' := [some (.scr ns), some (.loc 1), some (.int most), some (.tup os), some (.tup ts), some (.int high), some (.tup [.int l0, .int l1]), some (.loc L), some (.int at'), some (.loc (2 + (tl ++ .lst rows :: ex).length)), p, m, y]) (h' := tw rests c ((tl ++ .lst rows :: ex) ++ [.lst []])) ?_, seqNx (evFor ?_ e1)]
    · refine seqOne ?_
      have hh1 : (tw r1 c1 (tl ++ .lst rows :: ex ++ [.lst line]))[2 + (tl ++ .lst rows :: ex).length]? = some (.lst line) := tw_at
      have rc : recvD "append" (.loc L) (tw r1 c1 (tl ++ .lst rows :: ex ++ [.lst line])) = true := by
        rw [hL]
        exact rcvO (by rw [List.append_assoc, List.cons_append]; exact tw_at)
      have ap : methD "append" (.loc L) [.tup line] (tw r1 c1 (tl ++ .lst rows :: ex ++ [.lst line])) = .ok .non (tw r1 c1 (tl ++ .lst (rows ++ [.tup line]) :: (ex ++ [.lst line]))) := by
        rw [hL, List.append_assoc, List.cons_append, appO tw_at (Nat.lt_of_le_of_lt (show rows.length ≤ 8 by omega) (by decide)), tw_set]
      simp only [evS.eq_6, evE.eq_21, evE.eq_1, evE.eq_20, evEs]
      simp [rc, blt_tupO hh1, ap, -List.append_assoc, -List.length_append]
    · exact evRange hts
    · simp [tw_new (show ([] : List D).length ≤ BIG by decide), setE, -List.append_assoc, -List.length_append]
end
end Q

namespace Q
open Lt PySem
def cats : List D := [.str (Str.ofString "cat"), .str (Str.ofString "dog"), .str (Str.ofString "elk"), .str (Str.ofString "fox")]
def reds : List D := [.str (Str.ofString "red"), .str (Str.ofString "sky"), .str (Str.ofString "tan"), .str (Str.ofString "umber")]
structure TableOk (most : Int) (os ts rows : List D) : Prop where
  o : ∃ i : Nat, (i : Int) < most ∧ os = cats.take (i + 1)
  t : ∃ i : Nat, (i : Int) < most ∧ ts = reds.take (i + 1)
  n : rows.length = os.length
  r : ∀ d ∈ rows, RowOk ts.length d
theorem take_str {l : List D} (h : l.all isStr = true) (n : Nat) : ∀ d ∈ l.take n, isStr d = true := fun d hd => List.all_eq_true.mp h d (List.mem_of_mem_take hd)
theorem str_free {l : List D} (h : ∀ d ∈ l, isStr d = true) : D.freeL l = true := freeL_iff.mpr fun d hd => by
  have := h d hd
  cases d <;> first | rfl | simp [isStr] at this
def eCats (s : Nat) (e : ME) : MS := .set s (.cut false e .none (.some (.bin false .Add (.int 1) (.call "_law_draw" (.cons (.var 0) (.cons (.var 1) (.cons (.var 2) .nil)))))))
def mCats : ME := .tup (.cons (.str (Str.ofString "cat")) (.cons (.str (Str.ofString "dog")) (.cons (.str (Str.ofString "elk")) (.cons (.str (Str.ofString "fox")) .nil))))
def mReds : ME := .tup (.cons (.str (Str.ofString "red")) (.cons (.str (Str.ofString "sky")) (.cons (.str (Str.ofString "tan")) (.cons (.str (Str.ofString "umber")) .nil))))
theorem evCats {C : Calls} {σ : Lt.Env} {h : MHeap} : evE C mCats σ h = .ok (.tup cats) h := by
  have : ∀ h, mkT cats h = .ok (.tup cats) h := fun h => rfl
  simp [mCats]
  exact this h
theorem evReds {C : Calls} {σ : Lt.Env} {h : MHeap} : evE C mReds σ h = .ok (.tup reds) h := by
  have : ∀ h, mkT reds h = .ok (.tup reds) h := fun h => rfl
  simp [mReds]
  exact this h
theorem fn_a_table {P : Prg} {k : Nat} (hP : P.tab.lookup "_law_draw" = some d__law_draw) (hT : P.tab.lookup "_law_a_table" = some d__law_a_table) {ns : List Int} (hns : ns.length ≤ 63) {most : Int} (hm : 1 ≤ most) (hm4 : most ≤ 4) {rests : List (Ky × D)} {is : List Nat} {c : Int} {tl : MHeap} (hr : RestsOk rests is) (ht : TlF tl) :
    ∃ os ts rows rests' is' c', (calls P (k + 2)).fn "_law_a_table" [.scr ns, .loc 1, .int most] (tw rests c tl) = .ok (.tup [.tup os, .tup ts, .tup rows]) (tw rests' c' tl) ∧ RestsOk rests' is' ∧ TableOk most os ts rows := by
  obtain ⟨v1, r1, i1, e1, a1, b1, k1⟩ := draw (k := k) hP hns most (by omega) (by omega) (c := c) hr ht
  obtain ⟨v2, r2, i2, e2, a2, b2, k2⟩ := draw (k := k) hP hns most (by omega) (by omega) (c := c + 1) k1 ht
  obtain ⟨v3, r3, i3, e3, a3, b3, k3⟩ := draw (k := k) hP hns 5 (by omega) (by omega) (c := c + 1 + 1) k2 ht
  obtain ⟨v4, r4, i4, e4, a4, b4, k4⟩ := draw (k := k) hP hns 4 (by omega) (by omega) (c := c + 1 + 1 + 1) k3 ht
  obtain ⟨v5, r5, i5, e5, a5, b5, k5⟩ := draw (k := k) hP hns 4 (by omega) (by omega) (c := c + 1 + 1 + 1 + 1) k4 ht
  have c1 : ∀ {l : List D} {v : Int}, 0 ≤ v → cutX l none (some (1 + v)) = l.take (v.toNat + 1) := fun {l v} hv => by
    have : 1 + v = ((v.toNat + 1 : Nat) : Int) := by omega
    rw [this, cut_to]
  have hos : (cats.take (v1.toNat + 1)).length = v1.toNat + 1 := by rw [List.length_take]; show min _ 4 = _; omega
  have hts : (reds.take (v2.toNat + 1)).length = v2.toNat + 1 := by rw [List.length_take]; show min _ 4 = _; omega
  generalize hos' : cats.take (v1.toNat + 1) = os at hos
  generalize hts' : reds.take (v2.toNat + 1) = ts at hts
  have fos : D.freeL os = true := by rw [← hos']; exact str_free (take_str rfl _)
  have fts : D.freeL ts = true := by rw [← hts']; exact str_free (take_str rfl _)
  have hits : ∀ x ∈ (List.range os.length).map (fun (i : Nat) => D.int (i : Int)), ∃ p : Int, x = .int p ∧ 0 ≤ p ∧ p ≤ 3 := fun x hx => by
    obtain ⟨i, hi, rfl⟩ := List.mem_map.mp hx
    rw [List.mem_range] at hi
    exact ⟨_, rfl, by omega, by omega⟩
  obtain ⟨aa, ln, p, m, y, r6, i6, c6, rows, ex, e6, k6, g6, n6⟩ := rowLoop (k := k) hP hns (most := most) (os := os) (ts := ts) (high := 2 + v3) (l0 := v4) (l1 := v5) (L := 2 + tl.length) (by omega) (by omega) (by omega) (by omega) (by omega) (by omega) (its := ⟨(List.range os.length).map (fun (i : Nat) => D.int (i : Int)), none⟩) rfl (by omega) ht rfl
    ((List.range os.length).map (fun (i : Nat) => D.int (i : Int))) [] none none none none none r5 i5 (c + 1 + 1 + 1 + 1 + 1) [] hits k5 (by simp) (by simp; omega) (fun o ho => by simp at ho)
  refine ⟨os, ts, rows, r6, i6, c6, ?_, k6, ⟨v1.toNat, by omega, hos'.symm⟩, ⟨v2.toNat, by omega, hts'.symm⟩, by rw [n6]; simp, g6⟩
  have fr : D.freeL rows = true := freeL_iff.mpr fun d hd => (g6 d hd).free
  have hlen : ∀ r d t, (tw r d t).length = t.length + 2 := fun r d t => rfl
  have htake : (tw r6 c6 (tl ++ .lst rows :: ex)).take (tl.length + 2) = tw r6 c6 tl := by
    show (_ :: _ :: (tl ++ .lst rows :: ex)).take (tl.length + 2) = _
    rw [List.take_succ_cons, List.take_succ_cons, List.take_append_of_le_length (Nat.le_refl _), List.take_length]
    rfl
  have body : (evSs (calls P (k + 1)) d__law_a_table.body (Lt.start d__law_a_table [.scr ns, .loc 1, .int most]) (tw rests c tl)).out = .ok (.tup [.tup os, .tup ts, .tup rows]) (tw r6 c6 (tl ++ .lst rows :: ex)) := by
    show (evSs (calls P (k + 1)) (.cons (eCats 3 mCats) (.cons (eCats 4 mReds)
      (.cons (.par [5, 6] (.cons (.bin false .Add (.int 2) (.call "_law_draw" (.cons (.var 0) (.cons (.var 1) (.cons (.int 5) .nil))))) (.cons (.tup (.cons (.call "_law_draw" (.cons (.var 0) (.cons (.var 1) (.cons (.int 4) .nil)))) (.cons (.call "_law_draw" (.cons (.var 0) (.cons (.var 1) (.cons (.int 4) .nil)))) .nil))) .nil)))
      (.cons (.set 7 (.lst true .nil)) (.cons (.for (.name 8) (.range1 (.blt false "len" (.cons (.var 3) .nil))) bodyR)
      (.cons (.ret (.tup (.cons (.var 3) (.cons (.var 4) (.cons (.blt false "tuple" (.cons (.var 7) .nil)) .nil))))) .nil)))))) [some (.scr ns), some (.loc 1), some (.int most), none, none, none, none, none, none, none, none, none, none] (tw rests c tl)).out = _
    have s1 : evS (calls P (k + 1)) (eCats 3 mCats) [some (.scr ns), some (.loc 1), some (.int most), none, none, none, none, none, none, none, none, none, none] (tw rests c tl) = .nx [some (.scr ns), some (.loc 1), some (.int most), some (.tup os), none, none, none, none, none, none, none, none, none] (tw r1 (c + 1) tl) := by
      simp [eCats, evCats, e1, c1 a1, hos', setE]
    have s2 : evS (calls P (k + 1)) (eCats 4 mReds) [some (.scr ns), some (.loc 1), some (.int most), some (.tup os), none, none, none, none, none, none, none, none, none] (tw r1 (c + 1) tl) = .nx [some (.scr ns), some (.loc 1), some (.int most), some (.tup os), some (.tup ts), none, none, none, none, none, none, none, none] (tw r2 (c + 1 + 1) tl) := by
      simp [eCats, evReds, e2, c1 a2, hts', setE]
    have mt : ∀ h, mkT [.int v4, .int v5] h = .ok (.tup [.int v4, .int v5]) h := fun h => rfl
    have s3 : evS (calls P (k + 1)) (.par [5, 6] (.cons (.bin false .Add (.int 2) (.call "_law_draw" (.cons (.var 0) (.cons (.var 1) (.cons (.int 5) .nil))))) (.cons (.tup (.cons (.call "_law_draw" (.cons (.var 0) (.cons (.var 1) (.cons (.int 4) .nil)))) (.cons (.call "_law_draw" (.cons (.var 0) (.cons (.var 1) (.cons (.int 4) .nil)))) .nil))) .nil))) [some (.scr ns), some (.loc 1), some (.int most), some (.tup os), some (.tup ts), none, none, none, none, none, none, none, none] (tw r2 (c + 1 + 1) tl)
        = .nx [some (.scr ns), some (.loc 1), some (.int most), some (.tup os), some (.tup ts), some (.int (2 + v3)), some (.tup [.int v4, .int v5]), none, none, none, none, none, none] (tw r5 (c + 1 + 1 + 1 + 1 + 1) tl) := by
      simp [e3, e4, e5, mt, setEs]
    have s4 : evS (calls P (k + 1)) (.set 7 (.lst true .nil)) [some (.scr ns), some (.loc 1), some (.int most), some (.tup os), some (.tup ts), some (.int (2 + v3)), some (.tup [.int v4, .int v5]), none, none, none, none, none, none] (tw r5 (c + 1 + 1 + 1 + 1 + 1) tl)
        = .nx [some (.scr ns), some (.loc 1), some (.int most), some (.tup os), some (.tup ts), some (.int (2 + v3)), some (.tup [.int v4, .int v5]), some (.loc (2 + tl.length)), none, none, none, none, none] (tw r5 (c + 1 + 1 + 1 + 1 + 1) (tl ++ [.lst []])) := by
      simp [tw_new (show ([] : List D).length ≤ BIG by decide), setE]
    rw [seqNx s1, seqNx s2, seqNx s3, seqNx s4, seqNx (evFor (evRangeOf (n := os.length) (Nat.le_trans (show os.length ≤ 4 by omega) (by decide)) (by simp)) e6)]
    have hh1 : (tw r6 c6 (tl ++ .lst rows :: ex))[2 + tl.length]? = some (.lst rows) := tw_at
    have mt2 : ∀ h, mkT [.tup os, .tup ts, .tup rows] h = .ok (.tup [.tup os, .tup ts, .tup rows]) h := fun h => rfl
    simp [blt_tupO hh1, mt2]
  have h2 : (tw r6 c6 tl).all (MObj.low (tl.length + 2)) = true := tw_low k6 (ht.low (Nat.le_refl _))
  have := fnTrunc hT rfl rfl body (v' := .tup [.tup os, .tup ts, .tup rows]) (by rw [hlen, hlen]; simp) (by rw [hlen, htake]; exact h2) (by rw [frz]; exact frz_free (by simp [fos, fts, fr]))
  rw [this, hlen, htake]
end Q

namespace Q
open Lt PySem
def compS : ME := .comp false (.var 6) (.name 6) (.val (.var 4)) (.cons (.cmp .Gt (.call "_law_draw" (.cons (.var 0) (.cons (.var 1) (.cons (.int 3) .nil)))) (.int 0)) .nil) [6]
def bodyD : MSs := .cons (.set 5 (.blt false "tuple" (.cons compS .nil))) (.cons (.expr (.meth "append" (.var 3) (.cons (.ite (.cmp .NotEq (.var 5) (.tup .nil)) (.var 5) (.cut false (.var 4) .none (.some (.int 1)))) .nil))) .nil)
section
variable {P : Prg} {k : Nat} (hP : P.tab.lookup "_law_draw" = some d__law_draw) {ns : List Int} (hns : ns.length ≤ 63) {tbl : D} {L : Nat} {names : List D} {tl : MHeap} (ht : TlF tl)
include hP hns ht
theorem someFold {its : Items} (hgd : its.gd = none) {s : Option D} : ∀ (l acc : List D) (rests : List (Ky × D)) (is : List Nat) (c : Int), RestsOk rests is → acc.length + l.length ≤ 8 → ∃ sub rests' is' c',
    compFold (fun x acc h => bindO (.name 6) x (wipeE [some (.scr ns), some (.loc 1), some tbl, some (.loc L), some (.tup names), s, none] [6]) fun σ2 => ((evAll (calls P (k + 1)) (.cons (.cmp .Gt (.call "_law_draw" (.cons (.var 0) (.cons (.var 1) (.cons (.int 3) .nil)))) (.int 0)) .nil) σ2 h).bind fun t h => if t then (evE (calls P (k + 1)) (.var 6) σ2 h).bind fun y h => pushA acc y h else .ok acc h).noex)
      its l acc (tw rests c tl) = .ok (acc ++ sub) (tw rests' c' tl) ∧ RestsOk rests' is' ∧ sub.Sublist l
  | [], acc, rests, is, c, hr, _ => ⟨[], rests, is, c, by simp [compFold, okGd hgd], hr, List.Sublist.refl _⟩
  | x :: l, acc, rests, is, c, hr, hl => by
    simp only [List.length_cons] at hl
    obtain ⟨v, r1, i1, e1, a1, b1, k1⟩ := draw (k := k) hP hns 3 (by omega) (by omega) (c := c) hr ht
    by_cases hv : 0 < v
    · obtain ⟨sub, r2, i2, c2, e2, k2, s2⟩ := someFold hgd l (acc ++ [x]) r1 i1 (c + 1) k1 (by simp; omega)
      refine ⟨x :: sub, r2, i2, c2, ?_, k2, s2.cons_cons x⟩
      rw [compFold, if_pos (okGd hgd)]
      have hb : acc.length < BIG := Nat.lt_of_le_of_lt (show acc.length ≤ 8 by omega) (by decide)
      have : bindO (.name 6) x (wipeE [some (.scr ns), some (.loc 1), some tbl, some (.loc L), some (.tup names), s, none] [6]) (fun σ2 => ((evAll (calls P (k + 1)) (.cons (.cmp .Gt (.call "_law_draw" (.cons (.var 0) (.cons (.var 1) (.cons (.int 3) .nil)))) (.int 0)) .nil) σ2 (tw rests c tl)).bind fun t h => if t then (evE (calls P (k + 1)) (.var 6) σ2 h).bind fun y h => pushA acc y h else .ok acc h).noex) = .ok (acc ++ [x]) (tw r1 (c + 1) tl) := by
        simp [bindO, bindT, wipeE, e1, hv, pushA, hb, Out.noex]
      rw [this]
      simpa using e2
    · obtain ⟨sub, r2, i2, c2, e2, k2, s2⟩ := someFold hgd l acc r1 i1 (c + 1) k1 (by omega)
      refine ⟨sub, r2, i2, c2, ?_, k2, s2.cons x⟩
      rw [compFold, if_pos (okGd hgd)]
      have : bindO (.name 6) x (wipeE [some (.scr ns), some (.loc 1), some tbl, some (.loc L), some (.tup names), s, none] [6]) (fun σ2 => ((evAll (calls P (k + 1)) (.cons (.cmp .Gt (.call "_law_draw" (.cons (.var 0) (.cons (.var 1) (.cons (.int 3) .nil)))) (.int 0)) .nil) σ2 (tw rests c tl)).bind fun t h => if t then (evE (calls P (k + 1)) (.var 6) σ2 h).bind fun y h => pushA acc y h else .ok acc h).noex) = .ok acc (tw r1 (c + 1) tl) := by
        simp [bindO, bindT, wipeE, e1, hv, Out.noex]
      rw [this]
      exact e2
theorem evCompS {s : Option D} {rests : List (Ky × D)} {is : List Nat} {c : Int} (hr : RestsOk rests is) (hl : names.length ≤ 8) : ∃ sub rests' is' c', evE (calls P (k + 1)) compS [some (.scr ns), some (.loc 1), some tbl, some (.loc L), some (.tup names), s, none] (tw rests c tl) = .ok (.lst sub) (tw rests' c' tl) ∧ RestsOk rests' is' ∧ sub.Sublist names := by
  obtain ⟨sub, r2, i2, c2, e2, k2, s2⟩ := someFold (k := k) hP hns (tbl := tbl) (L := L) (names := names) ht (its := ⟨names, none⟩) rfl (s := s) names [] rests is c hr (by simpa using hl)
  refine ⟨sub, r2, i2, c2, ?_, k2, s2⟩
  have hi : evI (calls P (k + 1)) (.val (.var 4)) [some (.scr ns), some (.loc 1), some tbl, some (.loc L), some (.tup names), s, none] (tw rests c tl) = .ok ⟨names, none⟩ (tw rests c tl) := by simp
  rw [compS, evE, hi, bindOk, e2, bindOk, List.nil_append]
  exact mkL_ok (Nat.le_trans s2.length_le (big8 hl))
end
/-- a side of what is left -/
def SideOk (names side : List D) : Prop := side ≠ [] ∧ side.Sublist names
theorem sm0_str {x : D} (h : sm 0 x = true) (hs : isStr x = true) : okD 0 x = true := sm_ok h
section
variable {P : Prg} {k : Nat} (hP : P.tab.lookup "_law_draw" = some d__law_draw) {ns : List Int} (hns : ns.length ≤ 63) {tbl : D} {names : List D} {tl : MHeap} (ht : TlF tl)
include hP hns ht
theorem sideTurn {s : Option D} {rests : List (Ky × D)} {is : List Nat} {c : Int} {sides : List D} (hr : RestsOk rests is) (hl : names.length ≤ 8) (hne : names ≠ []) (hn : ∀ x ∈ names, sm 0 x = true) (hsd : D.freeL sides = true) (hsl : sides.length ≤ 8) :
    ∃ s' side rests' is' c', evSs (calls P (k + 1)) bodyD [some (.scr ns), some (.loc 1), some tbl, some (.loc (2 + tl.length)), some (.tup names), s, none] (tw rests c (tl ++ [.lst sides])) = .nx [some (.scr ns), some (.loc 1), some tbl, some (.loc (2 + tl.length)), some (.tup names), s', none] (tw rests' c' (tl ++ [.lst (sides ++ [.tup side])])) ∧ RestsOk rests' is' ∧ SideOk names side := by
  obtain ⟨sub, r1, i1, c1, e1, k1, s1⟩ := evCompS (k := k) hP hns (tbl := tbl) (L := 2 + tl.length) (names := names) (ht.app hsd) (s := s) (c := c) hr hl
  have hso : okD 64 (.tup sub) = true := by
    simp only [okD, List.all_eq_true]
    exact fun x hx => okD_mono (by omega) (sm_ok (hn x (s1.subset hx)))
  have hq : ∀ h, eqD h (.tup sub) (.tup []) = some sub.isEmpty := fun h => by
    rw [eq_dd (x := .tup sub) (y := .tup []) hso rfl]
    cases sub <;> simp [res, deq, deqL]
  have rc : recvD "append" (.loc (2 + tl.length)) (tw r1 c1 (tl ++ [.lst sides])) = true := rcvO tw_at
  have ap : ∀ x, methD "append" (.loc (2 + tl.length)) [x] (tw r1 c1 (tl ++ [.lst sides])) = .ok .non (tw r1 c1 (tl ++ [.lst (sides ++ [x])])) := fun x => by
    rw [appO tw_at (Nat.lt_of_le_of_lt hsl (by decide)), tw_set]
  have mt : ∀ h, mkT [] h = .ok (.tup []) h := fun h => rfl
  have ct : cutX names none (some 1) = names.take 1 := cut_to 1
  have st1 : evS (calls P (k + 1)) (.set 5 (.blt false "tuple" (.cons compS .nil))) [some (.scr ns), some (.loc 1), some tbl, some (.loc (2 + tl.length)), some (.tup names), s, none] (tw rests c (tl ++ [.lst sides])) = .nx [some (.scr ns), some (.loc 1), some tbl, some (.loc (2 + tl.length)), some (.tup names), some (.tup sub), none] (tw r1 c1 (tl ++ [.lst sides])) := by
    rw [evS.eq_1, evE_blt, evEs, e1]
    simp [setE]
  cases he : sub.isEmpty with
  | true =>
    refine ⟨some (.tup sub), names.take 1, r1, i1, c1, ?_, k1, ?_, List.take_sublist _ _⟩
    · rw [bodyD, seqNx st1]
      refine seqOne ?_
      simp [rc, mt, hq, he, ct, ap]
    · cases names with
      | nil => exact absurd rfl hne
      | cons a r => simp
  | false =>
    refine ⟨some (.tup sub), sub, r1, i1, c1, ?_, k1, ?_, s1⟩
    · rw [bodyD, seqNx st1]
      refine seqOne ?_
      simp [rc, mt, hq, he, ap]
    · intro z
      rw [z] at he
      cases he
theorem fn_some {p1 p2 p3 : String} (hT : P.tab.lookup "_law_some" = some ⟨[p1, p2, p3], 7, .trunc, b__law_some⟩) {os ts : List D} {cells : D} {rests : List (Ky × D)} {is : List Nat} {c : Int} (hr : RestsOk rests is) (ho : os.length ≤ 8) (hto : ts.length ≤ 8) (hone : os ≠ []) (htne : ts ≠ []) (hon : ∀ x ∈ os, sm 0 x = true) (htn : ∀ x ∈ ts, sm 0 x = true) :
    ∃ a b rests' is' c', (calls P (k + 2)).fn "_law_some" [.scr ns, .loc 1, .tup [.tup os, .tup ts, cells]] (tw rests c tl) = .ok (.tup [.tup a, .tup b]) (tw rests' c' tl) ∧ RestsOk rests' is' ∧ SideOk os a ∧ SideOk ts b := by
  obtain ⟨s1, a, r1, i1, c1, e1, k1, q1⟩ := sideTurn (k := k) hP hns (tbl := .tup [.tup os, .tup ts, cells]) ht (s := none) (c := c) (sides := []) hr ho hone hon rfl (by simp)
  have hfa : D.freeL a = true := freeL_iff.mpr fun x hx => sm_free (hon x (q1.2.subset hx))
  obtain ⟨s2, b, r2, i2, c2, e2, k2, q2⟩ := sideTurn (k := k) hP hns (tbl := .tup [.tup os, .tup ts, cells]) ht (s := s1) (c := c1) (sides := [] ++ [.tup a]) k1 hto htne htn (by simp [hfa]) (by simp)
  have hfb : D.freeL b = true := freeL_iff.mpr fun x hx => sm_free (htn x (q2.2.subset hx))
  refine ⟨a, b, r2, i2, c2, ?_, k2, q1, q2⟩
  have hlen : ∀ r d t, (tw r d t).length = t.length + 2 := fun r d t => rfl
  have htake : (tw r2 c2 (tl ++ [.lst ([] ++ [.tup a] ++ [.tup b])])).take (tl.length + 2) = tw r2 c2 tl := by
    show (_ :: _ :: (tl ++ [.lst ([] ++ [.tup a] ++ [.tup b])])).take (tl.length + 2) = _
    rw [List.take_succ_cons, List.take_succ_cons, List.take_append_of_le_length (Nat.le_refl _), List.take_length]
    rfl
  have body : (evSs (calls P (k + 1)) b__law_some (Lt.start ⟨[p1, p2, p3], 7, .trunc, b__law_some⟩ [.scr ns, .loc 1, .tup [.tup os, .tup ts, cells]]) (tw rests c tl)).out = .ok (.tup [.tup a, .tup b]) (tw r2 c2 (tl ++ [.lst ([] ++ [.tup a] ++ [.tup b])])) := by
    show (evSs (calls P (k + 1)) (.cons (.set 3 (.lst true .nil)) (.cons (.for (.name 4) (.val (.cut false (.var 2) .none (.some (.int 2)))) bodyD) (.cons (.ret (.tup (.cons (.ix (.var 3) (.int 0)) (.cons (.ix (.var 3) (.int 1)) .nil)))) .nil))) [some (.scr ns), some (.loc 1), some (.tup [.tup os, .tup ts, cells]), none, none, none, none] (tw rests c tl)).out = _
    have st1 : evS (calls P (k + 1)) (.set 3 (.lst true .nil)) [some (.scr ns), some (.loc 1), some (.tup [.tup os, .tup ts, cells]), none, none, none, none] (tw rests c tl) = .nx [some (.scr ns), some (.loc 1), some (.tup [.tup os, .tup ts, cells]), some (.loc (2 + tl.length)), none, none, none] (tw rests c (tl ++ [.lst []])) := by
      simp [tw_new (show ([] : List D).length ≤ BIG by decide), setE]
    have ct : cutX [D.tup os, D.tup ts, cells] none (some 2) = [.tup os, .tup ts] := cut_to 2
    have st2 : evS (calls P (k + 1)) (.for (.name 4) (.val (.cut false (.var 2) .none (.some (.int 2)))) bodyD) [some (.scr ns), some (.loc 1), some (.tup [.tup os, .tup ts, cells]), some (.loc (2 + tl.length)), none, none, none] (tw rests c (tl ++ [.lst []])) = .nx [some (.scr ns), some (.loc 1), some (.tup [.tup os, .tup ts, cells]), some (.loc (2 + tl.length)), some (.tup ts), s2, none] (tw r2 c2 (tl ++ [.lst ([] ++ [.tup a] ++ [.tup b])])) := by
      refine evFor (its := ⟨[.tup os, .tup ts], none⟩) (h1 := tw rests c (tl ++ [.lst []])) (by simp [ct]) ?_
      show forRun _ _ [.tup os, .tup ts] _ _ = _
      rw [forCons rfl (bodyEq (by simp [bindT]) e1), forCons rfl (bodyEq (by simp [bindT]) e2), forNil rfl]
    rw [seqNx st1, seqNx st2]
    have g0 : getD (.loc (2 + tl.length)) (.int 0) (tw r2 c2 (tl ++ [.lst ([] ++ [.tup a] ++ [.tup b])])) = some (.tup a) := by
      simp only [getD, itemsOf, seqOf, tw_at]
      exact at_nat 0
    have g1 : getD (.loc (2 + tl.length)) (.int 1) (tw r2 c2 (tl ++ [.lst ([] ++ [.tup a] ++ [.tup b])])) = some (.tup b) := by
      simp only [getD, itemsOf, seqOf, tw_at]
      exact at_nat 1
    have mt : ∀ h, mkT [.tup a, .tup b] h = .ok (.tup [.tup a, .tup b]) h := fun h => rfl
    simp only [evSs, evS.eq_7, evE_tup, evEs, evE_ix, evE_var, evE_int]
    simp only [List.getElem?_cons_succ, List.getElem?_cons_zero, bindOk, g0, g1, ofSome, mt, flOk, Fl.out]
  have h2 : (tw r2 c2 tl).all (MObj.low (tl.length + 2)) = true := tw_low k2 (ht.low (Nat.le_refl _))
  have := fnTrunc hT rfl rfl body (v' := .tup [.tup a, .tup b]) (by rw [hlen, hlen]; simp) (by rw [hlen, htake]; exact h2) (by rw [frz]; exact frz_free (by simp [hfa, hfb]))
  rw [this, hlen, htake]
end
end Q

/-! Tables as plain data; gained, gain, look_side, look_choice. -/
namespace Q
open Lt PySem

/-! ### tables -/
abbrev Cell := Int × Int
def cD (c : Cell) : D := .tup [.int c.1, .int c.2]
def rD (r : List Cell) : D := .tup (r.map cD)
def sD (l : List Str) : D := .tup (l.map .str)
structure Tb where
  os : List Str
  ts : List Str
  cs : List (List Cell)
def Tb.d (T : Tb) : D := .tup [sD T.os, sD T.ts, .tup (T.cs.map rD)]
def okS (s : Str) : Bool := s.cps.all (· < 0x110000) && decide (s.length ≤ BIG)
structure Tb.Ok (T : Tb) : Prop where
  o1 : 1 ≤ T.os.length
  o4 : T.os.length ≤ 4
  t1 : 1 ≤ T.ts.length
  t4 : T.ts.length ≤ 4
  on : T.os.Nodup
  tn : T.ts.Nodup
  os : ∀ s ∈ T.os, okS s = true
  ts : ∀ s ∈ T.ts, okS s = true
  cl : T.cs.length = T.os.length
  rl : ∀ r ∈ T.cs, r.length = T.ts.length
  b : ∀ r ∈ T.cs, ∀ c ∈ r, -99 ≤ c.1 ∧ c.1 ≤ 99 ∧ -99 ≤ c.2 ∧ c.2 ≤ 99
/-- a side's number -/
def sI (s : Bool) : Int := if s then 1 else 0
def Tb.nm (T : Tb) (s : Bool) : List Str := if s then T.ts else T.os
def Tb.cell (T : Tb) (a b : Str) : Cell := ((T.cs[T.os.idxOf a]?).getD [])[T.ts.idxOf b]?.getD (0, 0)
/-- what a side gains -/
def Tb.gn (T : Tb) (s : Bool) (m t : Str) : Int := if s then (T.cell t m).2 else (T.cell m t).1

theorem strsD_map (l : List Str) : strsD (l.map .str) = some l := by
  induction l with
  | nil => rfl
  | cons a r ih => simp [strsD, ih]
theorem free_strs (l : List Str) : D.freeL (l.map .str) = true := freeL_iff.mpr fun d hd => by
  obtain ⟨s, _, rfl⟩ := List.mem_map.mp hd
  rfl
@[simp] theorem sD_free (l : List Str) : (sD l).free = true := by simp only [sD, free_tup, free_strs]
@[simp] theorem cD_free (c : Cell) : (cD c).free = true := rfl
@[simp] theorem rD_free (r : List Cell) : (rD r).free = true := by
  simp only [rD, free_tup]
  exact freeL_iff.mpr fun d hd => by obtain ⟨c, _, rfl⟩ := List.mem_map.mp hd; rfl
@[simp] theorem Tb.free (T : Tb) : T.d.free = true := by
  simp only [Tb.d, free_tup, freeL_cons, sD_free, freeL_nil, Bool.true_and, Bool.and_true]
  exact freeL_iff.mpr fun d hd => by obtain ⟨c, _, rfl⟩ := List.mem_map.mp hd; exact rD_free c
theorem idx_ok {l : List Str} {x : Str} {h : MHeap} (hx : x ∈ l) : methD "index" (sD l) [.str x] h = .ok (.int ((l.idxOf x : Nat) : Int)) h := by
  simp only [sD, methD, idxD, strsD_map, List.contains_iff_mem.mpr hx, if_true]
theorem recv_idx {l : List Str} {h : MHeap} : recvD "index" (sD l) h = true := rfl
theorem Tb.Ok.row {T : Tb} (O : T.Ok) {a : Str} (ha : a ∈ T.os) : ∃ r, T.cs[T.os.idxOf a]? = some r ∧ r ∈ T.cs ∧ r.length = T.ts.length := by
  have h : T.os.idxOf a < T.cs.length := by rw [O.cl]; exact List.idxOf_lt_length_iff.mpr ha
  exact ⟨_, List.getElem?_eq_getElem h, List.getElem_mem h, O.rl _ (List.getElem_mem h)⟩
theorem Tb.Ok.at {T : Tb} (O : T.Ok) {a b : Str} (ha : a ∈ T.os) (hb : b ∈ T.ts) : ∃ r, T.cs[T.os.idxOf a]? = some r ∧ r ∈ T.cs ∧ r[T.ts.idxOf b]? = some (T.cell a b) ∧ T.cell a b ∈ r := by
  obtain ⟨r, e, hm, hl⟩ := O.row ha
  have h : T.ts.idxOf b < r.length := by rw [hl]; exact List.idxOf_lt_length_iff.mpr hb
  have ec : T.cell a b = r[T.ts.idxOf b] := by simp only [Tb.cell, e, Option.getD_some, List.getElem?_eq_getElem h]
  exact ⟨r, e, hm, by rw [ec, List.getElem?_eq_getElem h], by rw [ec]; exact List.getElem_mem h⟩
theorem Tb.Ok.bound {T : Tb} (O : T.Ok) {s : Bool} {m t : Str} (hm : m ∈ T.nm s) (ht : t ∈ T.nm !s) : -99 ≤ T.gn s m t ∧ T.gn s m t ≤ 99 := by
  cases s with
  | false =>
    obtain ⟨r, _, h1, _, h2⟩ := O.at (a := m) (b := t) hm ht
    have := O.b r h1 _ h2
    simp only [Tb.gn]
    exact ⟨this.1, this.2.1⟩
  | true =>
    obtain ⟨r, _, h1, _, h2⟩ := O.at (a := t) (b := m) ht hm
    have := O.b r h1 _ h2
    simp only [Tb.gn]
    exact ⟨this.2.2.1, this.2.2.2⟩
@[simp] theorem sI_false : sI false = 0 := rfl
@[simp] theorem sI_true : sI true = 1 := rfl
theorem ev_gained {C : Calls} {T : Tb} (O : T.Ok) {s : Bool} {m t : Str} (hm : m ∈ T.nm s) (ht : t ∈ T.nm !s) {a b : Option D} : (evSs C b_gained [some T.d, some (.int (sI s)), some (.str m), some (.str t), a, b] []).out = .ok (.int (T.gn s m t)) [] := by
  have two : ∀ (x y : D) (h : MHeap), mkT [x, y] h = .ok (.tup [x, y]) h := fun _ _ _ => rfl
  have a2 : ∀ x y z : D, L2.atI [x, y, z] 2 = some z := fun _ _ _ => rfl
  have a1 : ∀ (x y : D) (r : List D), L2.atI (x :: y :: r) 1 = some y := fun _ _ _ => at1
  have a0 : ∀ (x : D) (r : List D), L2.atI (x :: r) 0 = some x := fun _ _ => at0
  cases s with
  | false =>
    obtain ⟨r, e1, _, e2, _⟩ := O.at (a := m) (b := t) hm ht
    simp [Tb.d, two, bindT, bindTs, idx_ok (show m ∈ T.os from hm), idx_ok (show t ∈ T.ts from ht), recv_idx, a0, a1, a2, at_nat, e1, rD, e2, cD, Tb.gn]
  | true =>
    obtain ⟨r, e1, _, e2, _⟩ := O.at (a := t) (b := m) ht hm
    simp [Tb.d, two, bindT, bindTs, idx_ok (show t ∈ T.os from ht), idx_ok (show m ∈ T.ts from hm), recv_idx, a0, a1, a2, at_nat, e1, rD, e2, cD, Tb.gn]
theorem fn_gained {P : Prg} [Hf P "gained" d_gained] {k : Nat} {T : Tb} (O : T.Ok) {s : Bool} {m t : Str} {h : MHeap} (hm : m ∈ T.nm s) (ht : t ∈ T.nm !s) : (calls P (k + 1)).fn "gained" [T.d, .int (sI s), .str m, .str t] h = .ok (.int (T.gn s m t)) h :=
  fnPure (h' := []) (d := d_gained) Hf.look rfl rfl (by simp) (ev_gained O hm ht) rfl
/-- _law_gain: the same text under other names -/
theorem fn_law_gain {P : Prg} [hd : Hd P "_law_gain" 4 6 .pure b_gained] {k : Nat} {T : Tb} (O : T.Ok) {s : Bool} {m t : Str} {h : MHeap} (hm : m ∈ T.nm s) (ht : t ∈ T.nm !s) : (calls P (k + 1)).fn "_law_gain" [T.d, .int (sI s), .str m, .str t] h = .ok (.int (T.gn s m t)) h :=
  let ⟨ps, hp, hl⟩ := hd.look
  fnPure (h' := []) (d := ⟨ps, 6, .pure, b_gained⟩) hl rfl (by simp [hp]) (by simp) (ev_gained O hm ht) rfl
/-! ### looks that may refuse -/
theorem fnPureX {P : Prg} {k : Nat} {f : String} {d : MDef} {xs : List D} {h h' : MHeap} {x : String} {σ : Lt.Env} (e : P.tab.lookup f = some d) (hp : d.pol = .pure) (hl : xs.length = d.ps.length) (hf : D.freeL xs = true)
    (hb : evSs (calls P k) d.body (Lt.start d xs) [] = .ex x σ h') : (calls P (k + 1)).fn f xs h = .ex x h := by
  rw [callsFn e]
  simp only [runDef, hl, if_true, hp, hf, hb, Fl.out]
theorem fn_look_side {P : Prg} [Hf P "look_side" d_look_side] [Hf P "is_number" d_is_number] {k n : Nat} {x : D} {h : MHeap} (hx : sm n x = true) : (calls P (k + 2)).fn "look_side" [x] h = if isNum 0 1 x then .ok .non h else .ex "NoSide" h := by
  by_cases q : isNum 0 1 x = true
  · rw [if_pos q]
    exact fnPure (h' := []) (d := d_look_side) Hf.look rfl rfl (by simp [sm_free hx]) (by simp [d_look_side, Lt.start, fn_is_number hx, q]) rfl
  · rw [if_neg q]
    exact fnPureX (h' := []) (σ := [some x]) (d := d_look_side) Hf.look rfl rfl (by simp [sm_free hx]) (by simp [d_look_side, Lt.start, fn_is_number hx, q])
end Q

/-! look_choice, gain, turned; drawn tables as plain data. -/
namespace Q
open Lt PySem

def hasS (l : List Str) : D → Bool
  | .str c => decide (c ∈ l)
  | _ => false
theorem okD_str {n : Nat} {s : Str} (h : okS s = true) : okD n (.str s) = true := by
  simp only [okS, Bool.and_eq_true] at h
  cases n <;> exact h.1
theorem okD_strs {n : Nat} {l : List Str} (hl : ∀ s ∈ l, okS s = true) : (l.map D.str).all (okD n) = true := List.all_eq_true.mpr fun d hd => by
  obtain ⟨s, hs, rfl⟩ := List.mem_map.mp hd
  exact okD_str (hl s hs)
theorem any_strs {l : List Str} {c : Str} : ((l.map D.str).any fun y => deq y (.str c)) = decide (c ∈ l) := by
  induction l with
  | nil => rfl
  | cons a r ih =>
    simp only [List.map_cons, List.any_cons, ih, deq, List.mem_cons]
    by_cases e : a = c
    · subst e; simp
    · simp [e, Ne.symm e]
theorem in_strs {l : List Str} {c : Str} {h : MHeap} (hl : ∀ s ∈ l, okS s = true) (hc : okD 60 (.str c) = true) : inD h (.str c) (sD l) = some (decide (c ∈ l)) := by
  simp only [inD, sD, itemsOf, res, hc, okD_strs hl, Bool.and_self, if_true, any_strs]
theorem fn_look_choice {P : Prg} [Hf P "look_choice" d_look_choice] {k n : Nat} {l : List Str} {x : D} {h : MHeap} (hl : ∀ s ∈ l, okS s = true) (hx : sm n x = true) (hn : n ≤ 60) : (calls P (k + 1)).fn "look_choice" [sD l, x] h = if hasS l x then .ok .non h else .ex "NoChoice" h := by
  have hf := sm_free hx
  have o60 : okD 60 x = true := okD_mono hn (sm_ok hx)
  cases x with
  | str c =>
    by_cases q : c ∈ l
    · rw [if_pos (by simp [hasS, q])]
      exact fnPure (h' := []) (d := d_look_choice) Hf.look rfl rfl (by simp) (by simp [d_look_choice, Lt.start, in_strs hl o60, q]) rfl
    · rw [if_neg (by simp [hasS, q])]
      exact fnPureX (h' := []) (σ := [some (sD l), some (.str c)]) (d := d_look_choice) Hf.look rfl rfl (by simp) (by simp [d_look_choice, Lt.start, in_strs hl o60, q])
  | non =>
    rw [if_neg (by simp [hasS])]
    exact fnPureX (h' := []) (σ := [some (sD l), some .non]) (d := d_look_choice) Hf.look rfl rfl (by simp) (by simp [d_look_choice, Lt.start])
  | bl b =>
    rw [if_neg (by simp [hasS])]
    exact fnPureX (h' := []) (σ := [some (sD l), some (.bl b)]) (d := d_look_choice) Hf.look rfl rfl (by simp) (by simp [d_look_choice, Lt.start])
  | int b =>
    rw [if_neg (by simp [hasS])]
    exact fnPureX (h' := []) (σ := [some (sD l), some (.int b)]) (d := d_look_choice) Hf.look rfl rfl (by simp) (by simp [d_look_choice, Lt.start])
  | tup b =>
    rw [if_neg (by simp [hasS])]
    exact fnPureX (h' := []) (σ := [some (sD l), some (.tup b)]) (d := d_look_choice) Hf.look rfl rfl (by simp only [freeL_cons, sD_free, hf]; rfl) (by simp [d_look_choice, Lt.start])
  | lst b =>
    rw [if_neg (by simp [hasS])]
    exact fnPureX (h' := []) (σ := [some (sD l), some (.lst b)]) (d := d_look_choice) Hf.look rfl rfl (by simp only [freeL_cons, sD_free, hf]; rfl) (by simp [d_look_choice, Lt.start])
  | _ => cases n <;> simp [sm] at hx
/-! ### gain -/
theorem Tb.ix (T : Tb) (s : Bool) (h : MHeap) : getD T.d (.int (sI s)) h = some (sD (T.nm s)) := by
  cases s <;> rfl
theorem Tb.ix' (T : Tb) (s : Bool) (h : MHeap) : getD T.d (.int (1 - sI s)) h = some (sD (T.nm !s)) := by
  cases s <;> rfl
theorem Tb.Ok.nms {T : Tb} (O : T.Ok) (s : Bool) : ∀ x ∈ T.nm s, okS x = true := by
  cases s
  · exact O.os
  · exact O.ts
theorem okS_sm {s : Str} {n : Nat} (h : okS s = true) : sm n (.str s) = true := by
  cases n <;> exact h
theorem isNum_sI (s : Bool) : isNum 0 1 (.int (sI s)) = true := by cases s <;> rfl
section
variable {P : Prg} [Hf P "gain" d_gain] [Hf P "gained" d_gained] [Hf P "look_side" d_look_side] [Hf P "look_choice" d_look_choice] [Hf P "is_number" d_is_number] {k n : Nat} {T : Tb} {s : Bool} {h : MHeap}
theorem fn_gain (O : T.Ok) {m t : Str} (hm : m ∈ T.nm s) (ht : t ∈ T.nm !s) : (calls P (k + 3)).fn "gain" [T.d, .int (sI s), .str m, .str t] h = .ok (.int (T.gn s m t)) h := by
  refine fnPure (h' := []) (d := d_gain) Hf.look rfl rfl (by simp) ?_ rfl
  have e1 := fn_look_side (P := P) (k := k) (n := 0) (x := .int (sI s)) (h := []) rfl
  rw [if_pos (isNum_sI s)] at e1
  have e2 := fn_look_choice (P := P) (k := k + 1) (n := 0) (x := .str m) (h := []) (O.nms s) (okS_sm (O.nms s m hm)) (by decide)
  rw [if_pos (by simp [hasS, hm])] at e2
  have e3 := fn_look_choice (P := P) (k := k + 1) (n := 0) (x := .str t) (h := []) (O.nms (!s)) (okS_sm (O.nms (!s) t ht)) (by decide)
  rw [if_pos (by simp [hasS, ht])] at e3
  simp [d_gain, Lt.start, e1, e2, e3, Tb.ix, Tb.ix', fn_gained O hm ht]
theorem fn_gain_side {x y z : D} (hx : sm n x = true) (nx : isNum 0 1 x = false) (hy : y.free = true) (hz : z.free = true) : (calls P (k + 3)).fn "gain" [T.d, x, y, z] h = .ex "NoSide" h := by
  refine fnPureX (h' := []) (σ := [some T.d, some x, some y, some z]) (d := d_gain) Hf.look rfl rfl (by simp [sm_free hx, hy, hz]) ?_
  have e1 := fn_look_side (P := P) (k := k) (h := []) hx
  rw [if_neg (by simp [nx])] at e1
  simp [d_gain, Lt.start, e1]
theorem fn_gain_mine (O : T.Ok) {y z : D} (hy : sm n y = true) (hn : n ≤ 60) (ny : hasS (T.nm s) y = false) (hz : z.free = true) : (calls P (k + 3)).fn "gain" [T.d, .int (sI s), y, z] h = .ex "NoChoice" h := by
  refine fnPureX (h' := []) (σ := [some T.d, some (.int (sI s)), some y, some z]) (d := d_gain) Hf.look rfl rfl (by simp [sm_free hy, hz]) ?_
  have e1 := fn_look_side (P := P) (k := k) (n := 0) (x := .int (sI s)) (h := []) rfl
  rw [if_pos (isNum_sI s)] at e1
  have e2 := fn_look_choice (P := P) (k := k + 1) (h := []) (O.nms s) hy hn
  rw [if_neg (by simp [ny])] at e2
  simp [d_gain, Lt.start, e1, e2, Tb.ix]
theorem fn_gain_theirs (O : T.Ok) {m : Str} {z : D} (hm : m ∈ T.nm s) (hz : sm n z = true) (hn : n ≤ 60) (nz : hasS (T.nm !s) z = false) : (calls P (k + 3)).fn "gain" [T.d, .int (sI s), .str m, z] h = .ex "NoChoice" h := by
  refine fnPureX (h' := []) (σ := [some T.d, some (.int (sI s)), some (.str m), some z]) (d := d_gain) Hf.look rfl rfl (by simp [sm_free hz]) ?_
  have e1 := fn_look_side (P := P) (k := k) (n := 0) (x := .int (sI s)) (h := []) rfl
  rw [if_pos (isNum_sI s)] at e1
  have e2 := fn_look_choice (P := P) (k := k + 1) (n := 0) (x := .str m) (h := []) (O.nms s) (okS_sm (O.nms s m hm)) (by decide)
  rw [if_pos (by simp [hasS, hm])] at e2
  have e3 := fn_look_choice (P := P) (k := k + 1) (h := []) (O.nms (!s)) hz hn
  rw [if_neg (by simp [nz])] at e3
  simp [d_gain, Lt.start, e1, e2, e3, Tb.ix, Tb.ix']
end
/-! ### drawn tables -/
def catS : List Str := [Str.ofString "cat", Str.ofString "dog", Str.ofString "elk", Str.ofString "fox"]
def redS : List Str := [Str.ofString "red", Str.ofString "sky", Str.ofString "tan", Str.ofString "umber"]
theorem cats_eq : cats = catS.map .str := rfl
theorem reds_eq : reds = redS.map .str := rfl
/-- a drawn table -/
structure Tb.Dr (T : Tb) (most : Int) : Prop where
  ok : T.Ok
  o : ∃ i : Nat, (i : Int) < most ∧ T.os = catS.take (i + 1)
  t : ∃ i : Nat, (i : Int) < most ∧ T.ts = redS.take (i + 1)
theorem rows_of {m : Nat} : ∀ {rows : List D}, (∀ d ∈ rows, RowOk m d) → ∃ cs : List (List Cell), rows = cs.map rD ∧ (∀ r ∈ cs, r.length = m) ∧ ∀ r ∈ cs, ∀ c ∈ r, -99 ≤ c.1 ∧ c.1 ≤ 99 ∧ -99 ≤ c.2 ∧ c.2 ≤ 99
  | [], _ => ⟨[], rfl, by simp, by simp⟩
  | d :: r, h => by
    obtain ⟨cs, e, h1, h2⟩ := rows_of (rows := r) fun x hx => h x (List.mem_cons_of_mem _ hx)
    obtain ⟨xs, e1, e2, e3⟩ := h d List.mem_cons_self
    have cells : ∀ {ys : List D}, (∀ c ∈ ys, CellOk c) → ∃ zs : List Cell, ys = zs.map cD ∧ ∀ c ∈ zs, -99 ≤ c.1 ∧ c.1 ≤ 99 ∧ -99 ≤ c.2 ∧ c.2 ≤ 99 := by
      intro ys
      induction ys with
      | nil => exact fun _ => ⟨[], rfl, by simp⟩
      | cons y ys ih =>
        intro hy
        obtain ⟨zs, f1, f2⟩ := ih fun c hc => hy c (List.mem_cons_of_mem _ hc)
        obtain ⟨a, b, f3, f4⟩ := hy y List.mem_cons_self
        exact ⟨(a, b) :: zs, by rw [f1, f3]; rfl, fun c hc => (List.mem_cons.mp hc).elim (fun z => by rw [z]; exact f4) (f2 c)⟩
    obtain ⟨zs, f1, f2⟩ := cells e3
    refine ⟨zs :: cs, by rw [e, e1, f1]; rfl, fun x hx => ?_, fun x hx => ?_⟩
    · rcases List.mem_cons.mp hx with z | z
      · rw [z, ← e2, f1]; simp
      · exact h1 x z
    · rcases List.mem_cons.mp hx with z | z
      · rw [z]; exact f2
      · exact h2 x z
theorem take_map {l : List Str} {n : Nat} : (l.map D.str).take n = (l.take n).map D.str := by rw [List.map_take]
theorem Tb.of {most : Int} {os ts rows : List D} (h : TableOk most os ts rows) (h4 : most ≤ 4) : ∃ T : Tb, T.Dr most ∧ D.tup [.tup os, .tup ts, .tup rows] = T.d := by
  obtain ⟨i, hi, eo⟩ := h.o
  obtain ⟨j, hj, et⟩ := h.t
  rw [cats_eq, take_map] at eo
  rw [reds_eq, take_map] at et
  obtain ⟨cs, e, h1, h2⟩ := rows_of h.r
  have nc : catS.Nodup := by decide +kernel
  have nr : redS.Nodup := by decide +kernel
  have oc : ∀ s ∈ catS, okS s = true := by decide +kernel
  have or' : ∀ s ∈ redS, okS s = true := by decide +kernel
  have l1 : (catS.take (i + 1)).length = min (i + 1) 4 := by rw [List.length_take]; rfl
  have l2 : (redS.take (j + 1)).length = min (j + 1) 4 := by rw [List.length_take]; rfl
  have hl : ts.length = (redS.take (j + 1)).length := by rw [et]; simp
  have ho : os.length = (catS.take (i + 1)).length := by rw [eo]; simp
  refine ⟨⟨catS.take (i + 1), redS.take (j + 1), cs⟩, ⟨⟨by rw [l1]; omega, by rw [l1]; omega, by rw [l2]; omega, by rw [l2]; omega, nc.sublist (List.take_sublist _ _), nr.sublist (List.take_sublist _ _), fun s hs => oc s (List.mem_of_mem_take hs), fun s hs => or' s (List.mem_of_mem_take hs), ?_, fun r hr => by rw [← hl]; exact h1 r hr, h2⟩, ⟨i, hi, rfl⟩, ⟨j, hj, rfl⟩⟩, ?_⟩
  · have := h.n
    rw [e, List.length_map, ho] at this
    exact this
  · rw [eo, et, e]
    rfl
end Q

/-! Comprehensions and loops over typed lists; turned. -/
namespace Q
open Lt PySem

/-! ### comprehensions over typed lists -/
theorem foldT {α : Type} {g : D → List D → MHeap → Out (List D)} {its : Items} {h : MHeap} (emb : α → D) (f : α → List D) (hok : its.okIn h = true) : ∀ (xs : List α) (acc : List D), (∀ x ∈ xs, ∀ acc : List D, acc.length + (f x).length ≤ BIG → g (emb x) acc h = .ok (acc ++ f x) h) →
    acc.length + (xs.flatMap f).length ≤ BIG → compFold g its (xs.map emb) acc h = .ok (acc ++ xs.flatMap f) h
  | [], acc, _, _ => by simp [compFold, hok]
  | x :: r, acc, hg, hl => by
    rw [List.flatMap_cons, List.length_append] at hl
    simp only [List.map_cons, compFold, hok, if_true, hg x List.mem_cons_self acc (by omega)]
    rw [foldT emb f hok r (acc ++ f x) (fun y hy => hg y (List.mem_cons_of_mem _ hy)) (by simp only [List.length_append]; omega)]
    simp
theorem flat_if {α : Type} {p : α → Bool} {f : α → D} (xs : List α) : (xs.flatMap fun x => if p x = true then [f x] else []) = (xs.filter p).map f := by
  induction xs with
  | nil => rfl
  | cons a r ih =>
    rw [List.flatMap_cons, ih, List.filter_cons]
    split <;> simp
theorem evCompT {α : Type} {C : Calls} {own : Bool} {elt : ME} {tg : MT} {it : MI} {ifs : MEs} {vs : List Nat} {σ : Lt.Env} {h : MHeap} {gd : Option (Nat × List D)} (emb : α → D) (p : α → Bool) (f : α → D) (xs : List α) (hi : evI C it σ h = .ok ⟨xs.map emb, gd⟩ h) (hok : Items.okIn ⟨xs.map emb, gd⟩ h = true)
    (hb : ∀ x ∈ xs, ∃ σ2, bindT tg (emb x) (wipeE σ vs) = some σ2 ∧ evAll C ifs σ2 h = .ok (p x) h ∧ (p x = true → evE C elt σ2 h = .ok (f x) h)) (hl : xs.length ≤ BIG) :
    evE C (.comp own elt tg it ifs vs) σ h = mkL own ((xs.filter p).map f) h := by
  have hlen : ((xs.filter p).map f).length ≤ BIG := by
    rw [List.length_map]
    exact Nat.le_trans (List.length_filter_le _ _) hl
  rw [evE, hi, bindOk, foldT emb (fun x => if p x = true then [f x] else []) hok xs [] ?_ (by rw [flat_if]; simpa using hlen), bindOk, List.nil_append, flat_if]
  intro x hx acc ha
  obtain ⟨σ2, e1, e2, e3⟩ := hb x hx
  simp only [bindO, e1, e2, bindOk]
  by_cases q : p x = true
  · rw [if_pos q] at ha ⊢
    simp only [List.length_singleton] at ha
    rw [if_pos q]
    simp [e3 q, pushA, show acc.length < BIG by omega, Out.noex]
  · rw [if_neg q, if_neg q]
    simp [Out.noex]
theorem evMapT {α : Type} {C : Calls} {own : Bool} {elt : ME} {tg : MT} {it : MI} {vs : List Nat} {σ : Lt.Env} {h : MHeap} {gd : Option (Nat × List D)} (emb f : α → D) (xs : List α) (hi : evI C it σ h = .ok ⟨xs.map emb, gd⟩ h) (hok : Items.okIn ⟨xs.map emb, gd⟩ h = true)
    (hb : ∀ x ∈ xs, ∃ σ2, bindT tg (emb x) (wipeE σ vs) = some σ2 ∧ evE C elt σ2 h = .ok (f x) h) (hl : xs.length ≤ BIG) : evE C (.comp own elt tg it .nil vs) σ h = mkL own (xs.map f) h := by
  rw [evCompT emb (fun _ => true) f xs hi hok (fun x hx => let ⟨σ2, e1, e2⟩ := hb x hx; ⟨σ2, e1, by simp, fun _ => e2⟩) hl]
  congr 2
  exact List.filter_eq_self.mpr fun _ _ => rfl
/-! ### loops over typed lists -/
/-- each turn ends in the next state -/
theorem forT {α τ : Type} {f : D → Lt.Env → MHeap → Fl} {its : Items} (emb : α → D) (env : τ → Lt.Env) (hp : τ → MHeap) (hok : ∀ t, its.okIn (hp t) = true) (step : τ → α → τ) : ∀ (xs : List α) (t : τ), (∀ (as : List α) (x : α) (bs : List α), xs = as ++ x :: bs → f (emb x) (env (as.foldl step t)) (hp (as.foldl step t)) = .nx (env (step (as.foldl step t) x)) (hp (step (as.foldl step t) x))) →
    forRun f its (xs.map emb) (env t) (hp t) = .nx (env (xs.foldl step t)) (hp (xs.foldl step t))
  | [], t, _ => by simp [forRun, hok]
  | x :: r, t, h => by
    have h0 := h [] x r rfl
    simp only [List.foldl_nil] at h0
    simp only [List.map_cons, forRun, hok, if_true, h0]
    exact forT emb env hp hok step r (step t x) fun as y bs e => h (x :: as) y bs (by rw [e]; rfl)
/-! ### equality -/
mutual
theorem deq_self : ∀ (d : D) (n : Nat), okD n d = true → deq d d = true
  | .non, _, _ => by simp [deq]
  | .bl _, _, _ => by simp [deq]
  | .int _, _, _ => by simp [deq]
  | .str _, _, _ => by simp [deq]
  | .tup xs, n, h => by
    cases n with
    | zero => simp [okD] at h
    | succ m => rw [deq]; exact deqL_self xs m (by simpa [okD] using h)
  | .lst xs, n, h => by
    cases n with
    | zero => simp [okD] at h
    | succ m => rw [deq]; exact deqL_self xs m (by simpa [okD] using h)
  | .dic _ _, n, h => by cases n <;> simp [okD] at h
  | .loc _, n, h => by cases n <;> simp [okD] at h
  | .scr _, n, h => by cases n <;> simp [okD] at h
  | .fn _, n, h => by cases n <;> simp [okD] at h
  | .ty _, n, h => by cases n <;> simp [okD] at h
  | .wt _, n, h => by cases n <;> simp [okD] at h
  | .exc _, n, h => by cases n <;> simp [okD] at h
  | .adr _, n, h => by cases n <;> simp [okD] at h
theorem deqL_self : ∀ (xs : List D) (n : Nat), (∀ x ∈ xs, okD n x = true) → deqL xs xs = true
  | [], _, _ => by simp [deqL]
  | x :: r, n, h => by
    rw [deqL, deq_self x n (h x List.mem_cons_self), deqL_self r n fun y hy => h y (List.mem_cons_of_mem _ hy)]
    rfl
end
theorem eq_self {d : D} {h : MHeap} (hr : res h d = d) (ho : okD 64 d = true) : eqD h d d = some true := by
  simp only [eqD, hr, ho, Bool.and_self, if_true, deq_self d 64 ho]
theorem okD_sD {n : Nat} {l : List Str} (hl : ∀ s ∈ l, okS s = true) : okD (n + 1) (sD l) = true := by
  simp only [sD, okD]
  exact okD_strs hl
theorem okD_rD {n : Nat} {r : List Cell} : okD (n + 2) (rD r) = true := by
  simp only [rD, okD, List.all_eq_true]
  intro d hd
  obtain ⟨c, _, rfl⟩ := List.mem_map.mp hd
  cases n <;> rfl
theorem Tb.Ok.okD {T : Tb} (O : T.Ok) {n : Nat} : Lt.okD (n + 4) T.d = true := by
  simp only [Tb.d, Lt.okD, List.all_cons, List.all_nil, Bool.and_true, Bool.and_eq_true, List.all_eq_true]
  refine ⟨okD_sD O.os, okD_sD O.ts, fun d hd => ?_⟩
  obtain ⟨r, _, rfl⟩ := List.mem_map.mp hd
  exact okD_rD
/-! ### turned -/
def swapC (c : Cell) : Cell := (c.2, c.1)
def colOf (T : Tb) (j : Nat) : List Cell := T.cs.map fun r => swapC (r[j]?.getD (0, 0))
def Tb.tu (T : Tb) : Tb := ⟨T.ts, T.os, (List.range T.ts.length).map (colOf T)⟩
theorem Tb.Ok.tu {T : Tb} (O : T.Ok) : T.tu.Ok where
  o1 := O.t1
  o4 := O.t4
  t1 := O.o1
  t4 := O.o4
  on := O.tn
  tn := O.on
  os := O.ts
  ts := O.os
  cl := by simp [Tb.tu]
  rl := fun r hr => by
    obtain ⟨j, _, rfl⟩ := List.mem_map.mp hr
    simp [colOf, O.cl, Tb.tu]
  b := fun r hr c hc => by
    obtain ⟨j, hj, rfl⟩ := List.mem_map.mp hr
    obtain ⟨r', hr', rfl⟩ := List.mem_map.mp hc
    have hj' : j < r'.length := by rw [O.rl r' hr']; simpa using hj
    have := O.b r' hr' _ (List.getElem_mem hj')
    rw [List.getElem?_eq_getElem hj']
    exact ⟨this.2.2.1, this.2.2.2, this.1, this.2.1⟩
theorem Tb.Ok.tu_cell {T : Tb} (O : T.Ok) {a b : Str} (ha : a ∈ T.os) (hb : b ∈ T.ts) : T.tu.cell b a = swapC (T.cell a b) := by
  obtain ⟨r, e, _, e2, _⟩ := O.at ha hb
  have hj : T.ts.idxOf b < T.ts.length := List.idxOf_lt_length_iff.mpr hb
  have h1 : T.tu.cs[T.tu.os.idxOf b]? = some (colOf T (T.ts.idxOf b)) := by
    show ((List.range T.ts.length).map (colOf T))[T.ts.idxOf b]? = _
    rw [List.getElem?_map, List.getElem?_range hj]
    rfl
  have h2 : (colOf T (T.ts.idxOf b))[T.tu.ts.idxOf a]? = some (swapC (T.cell a b)) := by
    show (T.cs.map fun r => swapC (r[T.ts.idxOf b]?.getD (0, 0)))[T.os.idxOf a]? = _
    rw [List.getElem?_map, e, Option.map_some, e2]
    rfl
  simp only [Tb.cell, h1, Option.getD_some, h2]
theorem Tb.Ok.tu_gn {T : Tb} (O : T.Ok) {s : Bool} {m t : Str} (hm : m ∈ T.nm s) (ht : t ∈ T.nm !s) : T.tu.gn (!s) m t = T.gn s m t := by
  cases s with
  | false =>
    show (T.tu.cell t m).2 = (T.cell m t).1
    rw [O.tu_cell (a := m) (b := t) hm ht]
    rfl
  | true =>
    show (T.tu.cell m t).1 = (T.cell t m).2
    rw [O.tu_cell (a := t) (b := m) ht hm]
    rfl
theorem Tb.tu_nm {T : Tb} (s : Bool) : T.tu.nm (!s) = T.nm s := by cases s <;> rfl
theorem Tb.Ok.tu_tu {T : Tb} (O : T.Ok) : T.tu.tu = T := by
  have : (List.range T.os.length).map (colOf T.tu) = T.cs := by
    refine List.ext_getElem? fun i => ?_
    rw [List.getElem?_map]
    by_cases hi : i < T.os.length
    · have hi' : i < T.cs.length := by rw [O.cl]; exact hi
      rw [List.getElem?_range hi, List.getElem?_eq_getElem hi', Option.map_some]
      congr 1
      have hrl := O.rl _ (List.getElem_mem hi')
      refine List.ext_getElem? fun j => ?_
      show (((List.range T.ts.length).map (colOf T)).map fun r => swapC (r[i]?.getD (0, 0)))[j]? = _
      rw [List.getElem?_map, List.getElem?_map]
      by_cases hj : j < T.ts.length
      · have hj' : j < T.cs[i].length := by rw [hrl]; exact hj
        rw [List.getElem?_range hj, Option.map_some, Option.map_some]
        simp only [colOf, List.getElem?_map, List.getElem?_eq_getElem hi', Option.map_some, Option.getD_some, List.getElem?_eq_getElem hj']
        rfl
      · rw [List.getElem?_eq_none (by simpa using hj), List.getElem?_eq_none (by rw [hrl]; omega)]
        rfl
    · rw [List.getElem?_eq_none (by simpa using hi), List.getElem?_eq_none (by rw [O.cl]; omega)]
      rfl
  cases T
  simp only [Tb.tu] at this ⊢
  rw [this]
end Q

/-! turned; is_table of plain tables. -/
namespace Q
open Lt PySem

def bodyTu : MSs := .cons (.expr (.meth "append" (.var 1) (.cons (.blt false "tuple" (.cons (.comp false (.rev false (.ix (.var 3) (.var 2))) (.name 3) (.val (.ix (.var 0) (.int 2))) .nil [3]) .nil)) .nil))) .nil
theorem big4 {n : Nat} (h : n ≤ 4) : n ≤ BIG := Nat.le_trans h (by decide)
theorem colComp {C : Calls} {T : Tb} (O : T.Ok) {j : Nat} (hj : j < T.ts.length) {b : Option D} {h : MHeap} : evE C (.comp false (.rev false (.ix (.var 3) (.var 2))) (.name 3) (.val (.ix (.var 0) (.int 2))) .nil [3]) [some T.d, b, some (.int (j : Int)), none] h = .ok (.lst ((colOf T j).map cD)) h := by
  have a2 : ∀ x y z : D, L2.atI [x, y, z] 2 = some z := fun _ _ _ => rfl
  rw [evMapT rD (fun r => cD (swapC (r[j]?.getD (0, 0)))) T.cs (gd := none) (by simp [Tb.d, a2]) rfl ?_ (big4 (by rw [O.cl]; exact O.o4)), mkL_ok (by rw [List.length_map]; exact big4 (by rw [O.cl]; exact O.o4))]
  · simp only [colOf, List.map_map]
    rfl
  · intro r hr
    have hj' : j < r.length := by rw [O.rl r hr]; exact hj
    refine ⟨[some T.d, b, some (.int (j : Int)), some (rD r)], by simp [bindT, wipeE], ?_⟩
    simp [rD, at_nat, List.getElem?_eq_getElem hj', cD, revD, swapC]
theorem turnLoop {C : Calls} {T : Tb} (O : T.Ok) {its : Items} (hgd : its.gd = none) : ∀ (js : List Nat) (a : Option D) (acc : List D), (∀ j ∈ js, j < T.ts.length) → acc.length + js.length ≤ 100 → ∃ a', forRun (bodyOf C (.name 2) bodyTu) its (js.map fun (j : Nat) => D.int (j : Int)) [some T.d, some (.loc 0), a, none] [.lst acc] = .nx [some T.d, some (.loc 0), a', none] [.lst (acc ++ js.map fun j => rD (colOf T j))]
  | [], a, acc, _, _ => ⟨a, by simp [forRun, okGd hgd]⟩
  | j :: r, a, acc, hj, hl => by
    simp only [List.length_cons] at hl
    obtain ⟨a', e⟩ := turnLoop O hgd r (some (.int (j : Int))) (acc ++ [rD (colOf T j)]) (fun i hi => hj i (List.mem_cons_of_mem _ hi)) (by simp only [List.length_append, List.length_singleton]; omega)
    refine ⟨a', ?_⟩
    rw [List.map_cons, forCons (okGd hgd) (bodyEq (σ' := [some T.d, some (.loc 0), some (.int (j : Int)), none]) (by simp [bindT]) (h := [.lst acc]) (r := .nx [some T.d, some (.loc 0), some (.int (j : Int)), none] [.lst (acc ++ [rD (colOf T j)])]) ?_), e]
    · simp
    · have ap := appO (n := 0) (x := rD (colOf T j)) (ys := acc) (h := [.lst acc]) rfl (Nat.lt_of_lt_of_le (show acc.length < 101 by omega) (by decide))
      have rc := rcvO (n := 0) (ys := acc) (h := [.lst acc]) rfl
      simp only [bodyTu]
      refine seqOne ?_
      simp only [rD] at ap ⊢
      simp [colComp O (hj j List.mem_cons_self), rc, ap]
theorem Tb.len1 (T : Tb) : T.tu.d = .tup [sD T.ts, sD T.os, .tup ((List.range T.ts.length).map fun j => rD (colOf T j))] := by
  simp only [Tb.d, Tb.tu, List.map_map]
  rfl
theorem fn_turned {P : Prg} [Hf P "turned" d_turned] {k : Nat} {T : Tb} (O : T.Ok) {h : MHeap} : (calls P (k + 1)).fn "turned" [T.d] h = .ok T.tu.d h := by
  have a1 : ∀ (x y : D) (r : List D), L2.atI (x :: y :: r) 1 = some y := fun _ _ _ => at1
  have a0 : ∀ (x : D) (r : List D), L2.atI (x :: r) 0 = some x := fun _ _ => at0
  obtain ⟨a', e⟩ := turnLoop (C := calls P k) O (its := ⟨(List.range T.ts.length).map fun (j : Nat) => D.int (j : Int), none⟩) rfl (List.range T.ts.length) none [] (fun j hj => by simpa using hj) (by have := O.t4; simp; omega)
  refine fnPure (h' := [.lst ((List.range T.ts.length).map fun j => rD (colOf T j))]) (d := d_turned) Hf.look rfl rfl (by simp) ?_ (T.tu.free)
  show (evSs (calls P k) (.cons (.set 1 (.lst true .nil)) (.cons (.for (.name 2) (.range1 (.blt false "len" (.cons (.ix (.var 0) (.int 1)) .nil))) bodyTu) (.cons (.ret (.tup (.cons (.ix (.var 0) (.int 1)) (.cons (.ix (.var 0) (.int 0)) (.cons (.blt false "tuple" (.cons (.var 1) .nil)) .nil))))) .nil))) [some T.d, none, none, none] []).out = _
  have s1 : evS (calls P k) (.set 1 (.lst true .nil)) [some T.d, none, none, none] [] = .nx [some T.d, some (.loc 0), none, none] [.lst []] := by
    simp [mkL_own (xs := []) (by decide), setE]
  have s2 : evS (calls P k) (.for (.name 2) (.range1 (.blt false "len" (.cons (.ix (.var 0) (.int 1)) .nil))) bodyTu) [some T.d, some (.loc 0), none, none] [.lst []] = _ :=
    evFor (evRangeOf (n := T.ts.length) (Nat.le_trans O.t4 (by decide)) (by simp [Tb.d, a1, sD])) e
  rw [seqNx s1, seqNx s2]
  have t3 : ∀ (x y z : D) (h : MHeap), mkT [x, y, z] h = .ok (.tup [x, y, z]) h := fun _ _ _ _ => rfl
  rw [Tb.len1]
  simp [Tb.d, a0, a1, t3, blt_tupO]
/-! ### is_table -/
theorem sm_strs {l : List Str} {n : Nat} (hl : l.length ≤ 8) (h : ∀ s ∈ l, okS s = true) : sm (n + 1) (sD l) = true := by
  simp only [sD, sm, List.length_map, hl, decide_true, Bool.true_and, List.all_eq_true]
  intro d hd
  obtain ⟨s, hs, rfl⟩ := List.mem_map.mp hd
  exact okS_sm (h s hs)
theorem Tb.Ok.sm {T : Tb} (O : T.Ok) : Q.sm 4 T.d = true := by
  have e1 := sm_strs (n := 2) (Nat.le_trans O.o4 (by decide)) O.os
  have e2 := sm_strs (n := 2) (Nat.le_trans O.t4 (by decide)) O.ts
  have e3 : Q.sm 3 (.tup (T.cs.map rD)) = true := by
    simp only [Q.sm, List.length_map, O.cl, show T.os.length ≤ 8 from Nat.le_trans O.o4 (by decide), decide_true, Bool.true_and, List.all_eq_true]
    intro d hd
    obtain ⟨r, hr, rfl⟩ := List.mem_map.mp hd
    simp only [rD, Q.sm, List.length_map, O.rl r hr, show T.ts.length ≤ 8 from Nat.le_trans O.t4 (by decide), decide_true, Bool.true_and, List.all_eq_true]
    intro c hc
    obtain ⟨c, _, rfl⟩ := List.mem_map.mp hc
    rfl
  simp only [Tb.d, Q.sm, List.length_cons, List.length_nil, List.all_cons, List.all_nil, e1, e2, Bool.and_true, Bool.true_and]
  simpa [Q.sm] using e3
theorem isTable_of {T : Tb} (O : T.Ok) (ho : areChoices (sD T.os) = true) (ht : areChoices (sD T.ts) = true) : isTable T.d = true := by
  have c2 : ∀ r ∈ T.cs, ((r.map cD).all isCell) = true := fun r hr => List.all_eq_true.mpr fun d hd => by
    obtain ⟨c, hc, rfl⟩ := List.mem_map.mp hd
    have := O.b r hr c hc
    simp only [cD, isCell, List.length_cons, List.length_nil, List.all_cons, List.all_nil, isNum, Bool.and_true, Bool.and_eq_true, decide_eq_true_eq]
    exact ⟨trivial, ⟨this.1, this.2.1⟩, this.2.2⟩
  simp only [Tb.d, isTable, ho, ht, Bool.true_and, Bool.and_eq_true, decide_eq_true_eq, List.length_map, List.all_eq_true]
  refine ⟨⟨?_, fun d hd => ?_⟩, fun d hd => ?_⟩
  · simp only [cellsOf, sD, List.length_map]
    exact O.cl
  · obtain ⟨r, hr, rfl⟩ := List.mem_map.mp hd
    simp only [rD, isLine, cellsOf, sD, List.length_map, decide_eq_true_eq]
    exact O.rl r hr
  · obtain ⟨r, hr, rfl⟩ := List.mem_map.mp hd
    exact List.all_eq_true.mp (c2 r hr)
theorem choices_take {l : List Str} (h : ∀ i : Fin 4, areChoices (sD (l.take (i.val + 1))) = true) {i : Nat} (hi : i < 4) : areChoices (sD (l.take (i + 1))) = true := h ⟨i, hi⟩
theorem choices_cat : ∀ i : Fin 4, areChoices (sD (catS.take (i.val + 1))) = true := by decide +kernel
theorem choices_red : ∀ i : Fin 4, areChoices (sD (redS.take (i.val + 1))) = true := by decide +kernel
theorem Tb.Dr.chO {T : Tb} {most : Int} (h : T.Dr most) (h4 : most ≤ 4) : areChoices (sD T.os) = true := by
  obtain ⟨i, hi, e⟩ := h.o
  rw [e]
  exact choices_take choices_cat (by omega)
theorem Tb.Dr.chT {T : Tb} {most : Int} (h : T.Dr most) (h4 : most ≤ 4) : areChoices (sD T.ts) = true := by
  obtain ⟨i, hi, e⟩ := h.t
  rw [e]
  exact choices_take choices_red (by omega)
end Q

/-! Loops that go through; the beginning of draws. -/
namespace Q
open Lt PySem
/-- each turn goes through and keeps I -/
theorem forAll {f : D → Lt.Env → MHeap → Fl} {its : Items} (I : Lt.Env → MHeap → Prop) (hok : ∀ σ h, I σ h → its.okIn h = true) : ∀ (xs : List D), (∀ x ∈ xs, ∀ σ h, I σ h → ∃ σ' h', f x σ h = .nx σ' h' ∧ I σ' h') → ∀ σ h, I σ h → ∃ σ' h', forRun f its xs σ h = .nx σ' h' ∧ I σ' h'
  | [], _, σ, h, i => ⟨σ, h, forNil (hok σ h i), i⟩
  | x :: r, hs, σ, h, i => by
    obtain ⟨σ1, h1, e1, i1⟩ := hs x List.mem_cons_self σ h i
    obtain ⟨σ2, h2, e2, i2⟩ := forAll I hok r (fun y hy => hs y (List.mem_cons_of_mem _ hy)) σ1 h1 i1
    exact ⟨σ2, h2, by rw [forCons (hok σ h i) e1, e2], i2⟩
/-- a for statement whose turns go through -/
theorem evForAll {C : Calls} {tg : MT} {it : MI} {body : MSs} {σ : Lt.Env} {h h1 : MHeap} {its : Items} (I : Lt.Env → MHeap → Prop) (hi : evI C it σ h = .ok its h1) (hok : ∀ σ h, I σ h → its.okIn h = true)
    (hs : ∀ x ∈ its.xs, ∀ σ h, I σ h → ∃ σ0 σ' h', bindT tg x σ = some σ0 ∧ evSs C body σ0 h = .nx σ' h' ∧ I σ' h') (i : I σ h1) : ∃ σ' h', evS C (.for tg it body) σ h = .nx σ' h' ∧ I σ' h' := by
  obtain ⟨σ', h', e, i'⟩ := forAll (f := bodyOf C tg body) (its := its) I hok its.xs (fun x hx σ h i => let ⟨σ0, σ', h', e1, e2, i'⟩ := hs x hx σ h i; ⟨σ', h', bodyEq e1 e2, i'⟩) σ h1 i
  exact ⟨σ', h', evFor hi e, i'⟩
theorem fn_begun {P : Prg} [Hf P "_law_begun" d__law_begun] {k : Nat} : (calls P (k + 1)).fn "_law_begun" [] [] = .ok (.loc 1) (tw [] 0 []) := by
  have : (calls P (k + 1)).fn "_law_begun" [] [] = (evSs (calls P k) d__law_begun.body (Lt.start d__law_begun []) []).out := fnRaw (d := d__law_begun) Hf.look rfl rfl
  rw [this]
  rfl
/-- a drawn table -/
theorem fn_table {P : Prg} [Hf P "_law_draw" d__law_draw] [Hf P "_law_a_table" d__law_a_table] {k : Nat} {ns : List Int} (hns : ns.length ≤ 63) {most : Int} (hm : 1 ≤ most) (hm4 : most ≤ 4) {rests : List (Ky × D)} {is : List Nat} {c : Int} {tl : MHeap} (hr : RestsOk rests is) (ht : TlF tl) :
    ∃ (T : Tb) (rests' : List (Ky × D)) (is' : List Nat) (c' : Int), (calls P (k + 2)).fn "_law_a_table" [.scr ns, .loc 1, .int most] (tw rests c tl) = .ok T.d (tw rests' c' tl) ∧ RestsOk rests' is' ∧ T.Dr most := by
  obtain ⟨os, ts, rows, r', i', c', e, hr', ok⟩ := fn_a_table (P := P) (k := k) Hf.look Hf.look hns hm hm4 (c := c) hr ht
  obtain ⟨T, hT, eT⟩ := Tb.of ok hm4
  exact ⟨T, r', i', c', by rw [e, eT], hr', hT⟩
theorem one_sub (s : Bool) : (1 : Int) - sI s = sI (!s) := by cases s <;> rfl
theorem side_cases {x : D} (h : x ∈ [D.int 0, D.int 1]) : ∃ s : Bool, x = .int (sI s) := by
  simp only [List.mem_cons, List.not_mem_nil, or_false] at h
  rcases h with rfl | rfl
  · exact ⟨false, rfl⟩
  · exact ⟨true, rfl⟩
theorem str_cases {l : List Str} {x : D} (h : x ∈ l.map D.str) : ∃ s ∈ l, x = .str s := by
  obtain ⟨s, hs, e⟩ := List.mem_map.mp h
  exact ⟨s, hs, e.symm⟩
end Q

/-! What is left; look_left, look_rule, look_all; betters. -/
namespace Q
open Lt PySem

/-! ### what is left -/
structure Lf where
  a : List Str
  b : List Str
def Lf.d (L : Lf) : D := .tup [sD L.a, sD L.b]
def Lf.nm (L : Lf) (s : Bool) : List Str := if s then L.b else L.a
/-- texts in rising order -/
def risS (l : List Str) : Bool := rising (l.map .str)
structure Lf.Of (L : Lf) (T : Tb) : Prop where
  sub : ∀ s, (L.nm s).Sublist (T.nm s)
  ne : ∀ s, L.nm s ≠ []
  ris : ∀ s, risS (L.nm s) = true
@[simp] theorem Lf.free (L : Lf) : L.d.free = true := by simp only [Lf.d, free_tup, freeL_cons, sD_free, freeL_nil, Bool.and_self]
theorem Lf.ix (L : Lf) (s : Bool) (h : MHeap) : getD L.d (.int (sI s)) h = some (sD (L.nm s)) := by cases s <;> rfl
theorem Lf.ix' (L : Lf) (s : Bool) (h : MHeap) : getD L.d (.int (1 - sI s)) h = some (sD (L.nm !s)) := by cases s <;> rfl
section
variable {T : Tb} {L : Lf} (O : T.Ok) (F : L.Of T)
include O F
theorem Lf.Of.okS {s : Bool} : ∀ x ∈ L.nm s, okS x = true := fun x hx => O.nms s x ((F.sub s).subset hx)
theorem Lf.Of.le4 (s : Bool) : (L.nm s).length ≤ 4 := Nat.le_trans (F.sub s).length_le (by cases s; exact O.o4; exact O.t4)
theorem Lf.Of.nd (s : Bool) : (L.nm s).Nodup := (show (T.nm s).Nodup by cases s; exact O.on; exact O.tn).sublist (F.sub s)
theorem Lf.Of.sm : Q.sm 4 L.d = true := by
  have e1 := sm_strs (n := 2) (l := L.a) (Nat.le_trans (F.le4 O false) (by decide)) (F.okS O (s := false))
  have e2 := sm_strs (n := 2) (l := L.b) (Nat.le_trans (F.le4 O true) (by decide)) (F.okS O (s := true))
  simp [Lf.d, Q.sm, e1, e2]
theorem Lf.Of.okD {n : Nat} : Lt.okD (n + 2) L.d = true := by
  simp only [Lf.d, Lt.okD, List.all_cons, List.all_nil, Bool.and_true, Bool.and_eq_true]
  exact ⟨okD_sD (F.okS O (s := false)), okD_sD (F.okS O (s := true))⟩
end
theorem areSome_of {l m : List Str} (hs : l.Sublist m) (hn : l ≠ []) (hr : risS l = true) : areSome (m.map .str) (sD l) = true := by
  have e : (l.map D.str).isEmpty = false := by
    cases l with
    | nil => exact absurd rfl hn
    | cons => rfl
  simp only [areSome, sD, e, Bool.not_false, Bool.true_and, Bool.and_eq_true]
  refine ⟨List.all_eq_true.mpr fun d hd => ?_, hr⟩
  obtain ⟨s, h, rfl⟩ := List.mem_map.mp hd
  rw [any_strs]
  simp [isStr, hs.subset h]
theorem isLeft_of {T : Tb} {L : Lf} (F : L.Of T) : isLeft (T.os.map .str) (T.ts.map .str) L.d = true := by
  simp only [isLeft, Lf.d, Bool.and_eq_true]
  exact ⟨areSome_of (F.sub false) (F.ne false) (F.ris false), areSome_of (F.sub true) (F.ne true) (F.ris true)⟩
/-! ### looks -/
def leftB (T : Tb) (x : D) : Bool := isLeft (T.os.map .str) (T.ts.map .str) x
section
variable {P : Prg} [Hf P "look_left" d_look_left] [Hf P "is_left" d_is_left] [Hf P "are_some" d_are_some] [Hf P "is_rising" d_is_rising] {k n : Nat} {T : Tb} {h : MHeap}
theorem fn_isLeft (O : T.Ok) {x : D} (hx : sm n x = true) (hn : n ≤ 60) : (calls P (k + 3)).fn "is_left" [T.d, x] h = .ok (.bl (leftB T x)) h := by
  have e1 := sm_strs (n := 2) (Nat.le_trans O.o4 (by decide)) O.os
  have e2 := sm_strs (n := 2) (Nat.le_trans O.t4 (by decide)) O.ts
  have hc : (D.tup (T.cs.map rD)).free = true := by
    have := T.free
    simp only [Tb.d, free_tup, freeL_cons, Bool.and_eq_true] at this
    simpa using this.2.2.1
  exact fn_is_left e1 e2 hc hx hn
theorem fn_look_left (O : T.Ok) {x : D} (hx : sm n x = true) (hn : n ≤ 60) : (calls P (k + 4)).fn "look_left" [T.d, x] h = if leftB T x then .ok .non h else .ex "NoLeft" h := by
  have e := fn_isLeft (P := P) (k := k) (h := []) O hx hn
  by_cases q : leftB T x = true
  · rw [if_pos q]
    exact fnPure (h' := []) (d := d_look_left) Hf.look rfl rfl (by simp [sm_free hx]) (by simp [d_look_left, Lt.start, e, q]) rfl
  · rw [if_neg q]
    exact fnPureX (h' := []) (σ := [some T.d, some x]) (d := d_look_left) Hf.look rfl rfl (by simp [sm_free hx]) (by simp [d_look_left, Lt.start, e, q])
end
def rulesS : List Str := [Str.ofString "even", Str.ofString "plain", Str.ofString "wide"]
theorem fn_look_rule {P : Prg} [Hf P "look_rule" d_look_rule] (ht : P.tcs.lookup "RULES" = some rulesS) {k n : Nat} {x : D} {h : MHeap} (hx : sm n x = true) (hn : n ≤ 60) : (calls P (k + 1)).fn "look_rule" [x] h = if hasS rulesS x then .ok .non h else .ex "NoRule" h := by
  have hf := sm_free hx
  have o60 : okD 60 x = true := okD_mono hn (sm_ok hx)
  have ec : (calls P k).tcs "RULES" = some rulesS := by cases k <;> exact ht
  have okr : ∀ s ∈ rulesS, okS s = true := by decide +kernel
  cases x with
  | str c =>
    have e : inD [] (.str c) (.tup (rulesS.map D.str)) = some (decide (c ∈ rulesS)) := in_strs (l := rulesS) okr o60
    by_cases q : c ∈ rulesS
    · rw [if_pos (by simp [hasS, q])]
      exact fnPure (h' := []) (d := d_look_rule) Hf.look rfl rfl (by simp) (by simp [d_look_rule, Lt.start, ec, e, q]) rfl
    · rw [if_neg (by simp [hasS, q])]
      exact fnPureX (h' := []) (σ := [some (.str c)]) (d := d_look_rule) Hf.look rfl rfl (by simp) (by simp [d_look_rule, Lt.start, ec, e, q])
  | non =>
    rw [if_neg (by simp [hasS])]
    exact fnPureX (h' := []) (σ := [some .non]) (d := d_look_rule) Hf.look rfl rfl (by simp) (by simp [d_look_rule, Lt.start])
  | bl b =>
    rw [if_neg (by simp [hasS])]
    exact fnPureX (h' := []) (σ := [some (.bl b)]) (d := d_look_rule) Hf.look rfl rfl (by simp) (by simp [d_look_rule, Lt.start])
  | int b =>
    rw [if_neg (by simp [hasS])]
    exact fnPureX (h' := []) (σ := [some (.int b)]) (d := d_look_rule) Hf.look rfl rfl (by simp) (by simp [d_look_rule, Lt.start])
  | tup b =>
    rw [if_neg (by simp [hasS])]
    exact fnPureX (h' := []) (σ := [some (.tup b)]) (d := d_look_rule) Hf.look rfl rfl (by simp only [freeL_cons, hf]; rfl) (by simp [d_look_rule, Lt.start])
  | lst b =>
    rw [if_neg (by simp [hasS])]
    exact fnPureX (h' := []) (σ := [some (.lst b)]) (d := d_look_rule) Hf.look rfl rfl (by simp only [freeL_cons, hf]; rfl) (by simp [d_look_rule, Lt.start])
  | _ => cases n <;> simp [sm] at hx
/-! ### look_all -/
section
variable {P : Prg} [Hf P "look_all" d_look_all] [Hf P "look_left" d_look_left] [Hf P "is_left" d_is_left] [Hf P "are_some" d_are_some] [Hf P "is_rising" d_is_rising] [Hf P "look_side" d_look_side] [Hf P "is_number" d_is_number] [Hf P "look_choice" d_look_choice] {k n : Nat} {T : Tb} {L : Lf} {h : MHeap}
theorem fn_look_all_left (O : T.Ok) {l x y : D} (hl : sm n l = true) (hn : n ≤ 60) (nl : leftB T l = false) (hx : x.free = true) (hy : y.free = true) : (calls P (k + 5)).fn "look_all" [T.d, l, x, y] h = .ex "NoLeft" h := by
  have e := fn_look_left (P := P) (k := k) (h := []) O hl hn
  rw [if_neg (by simp [nl])] at e
  exact fnPureX (h' := []) (σ := [some T.d, some l, some x, some y]) (d := d_look_all) Hf.look rfl rfl (by simp [sm_free hl, hx, hy]) (by simp [d_look_all, Lt.start, e])
theorem fn_look_all_side (O : T.Ok) (F : L.Of T) {x y : D} (hx : sm n x = true) (nx : isNum 0 1 x = false) (hy : y.free = true) : (calls P (k + 5)).fn "look_all" [T.d, L.d, x, y] h = .ex "NoSide" h := by
  have e := fn_look_left (P := P) (k := k) (h := []) O (F.sm O) (by decide)
  rw [if_pos (show leftB T L.d = true from isLeft_of F)] at e
  have e1 := fn_look_side (P := P) (k := k + 2) (h := []) hx
  rw [if_neg (by simp [nx])] at e1
  exact fnPureX (h' := []) (σ := [some T.d, some L.d, some x, some y]) (d := d_look_all) Hf.look rfl rfl (by simp [sm_free hx, hy]) (by simp [d_look_all, Lt.start, e, e1])
theorem fn_look_all (O : T.Ok) (F : L.Of T) {s : Bool} {y : D} (hy : sm n y = true) (hn : n ≤ 60) : (calls P (k + 5)).fn "look_all" [T.d, L.d, .int (sI s), y] h = if hasS (L.nm s) y then .ok .non h else .ex "NoChoice" h := by
  have e := fn_look_left (P := P) (k := k) (h := []) O (F.sm O) (by decide)
  rw [if_pos (show leftB T L.d = true from isLeft_of F)] at e
  have e1 := fn_look_side (P := P) (k := k + 2) (n := 0) (x := .int (sI s)) (h := []) rfl
  rw [if_pos (isNum_sI s)] at e1
  have e2 := fn_look_choice (P := P) (k := k + 3) (h := []) (F.okS O (s := s)) hy hn
  by_cases q : hasS (L.nm s) y = true
  · rw [if_pos q] at e2 ⊢
    exact fnPure (h' := []) (d := d_look_all) Hf.look rfl rfl (by simp [sm_free hy]) (by simp [d_look_all, Lt.start, e, e1, e2, Lf.ix]) rfl
  · rw [if_neg q] at e2 ⊢
    exact fnPureX (h' := []) (σ := [some T.d, some L.d, some (.int (sI s)), some y]) (d := d_look_all) Hf.look rfl rfl (by simp [sm_free hy]) (by simp [d_look_all, Lt.start, e, e1, e2, Lf.ix])
end
/-! ### is_more, is_even -/
def moreB (T : Tb) (L : Lf) (s : Bool) (one other : Str) : Bool := (L.nm !s).all fun t => decide (T.gn s other t < T.gn s one t)
def evenB (T : Tb) (L : Lf) (s : Bool) (one other : Str) : Bool := ((L.nm !s).all fun t => decide (T.gn s other t ≤ T.gn s one t)) && ((L.nm !s).any fun t => decide (T.gn s other t < T.gn s one t))
section
variable {P : Prg} [Hf P "gained" d_gained] {k : Nat} {T : Tb} {L : Lf} {s : Bool} {one other : Str} {h : MHeap}
theorem fn_is_more [Hf P "is_more" d_is_more] (O : T.Ok) (F : L.Of T) (h1 : one ∈ L.nm s) (h2 : other ∈ L.nm s) : (calls P (k + 2)).fn "is_more" [T.d, L.d, .int (sI s), .str one, .str other] h = .ok (.bl (moreB T L s one other)) h := by
  refine fnPure (h' := []) (d := d_is_more) Hf.look rfl rfl (by simp) ?_ rfl
  have m1 := (F.sub s).subset h1
  have m2 := (F.sub s).subset h2
  have ec : ∀ v, evE (calls P (k + 1)) (.comp false (.cmp .Gt (.call "gained" (.cons (.var 0) (.cons (.var 2) (.cons (.var 3) (.cons (.var 5) .nil))))) (.call "gained" (.cons (.var 0) (.cons (.var 2) (.cons (.var 4) (.cons (.var 5) .nil)))))) (.name 5) (.val (.ix (.var 1) (.bin false .Sub (.int 1) (.var 2)))) .nil [5]) [some T.d, some L.d, some (.int (sI s)), some (.str one), some (.str other), v] [] = .ok (.lst ((L.nm !s).map fun t => .bl (decide (T.gn s other t < T.gn s one t)))) [] := fun v => by
    rw [evMapT D.str (fun t => .bl (decide (T.gn s other t < T.gn s one t))) (L.nm !s) (gd := none) (by simp [Lf.ix', sD]) rfl ?_ (big4 (F.le4 O _)), mkL_ok (by rw [List.length_map]; exact big4 (F.le4 O _))]
    intro t ht
    have m3 := (F.sub (!s)).subset ht
    refine ⟨[some T.d, some L.d, some (.int (sI s)), some (.str one), some (.str other), some (.str t)], by simp [bindT, wipeE], ?_⟩
    simp [fn_gained O m1 m3, fn_gained O m2 m3]
  show (evSs (calls P (k + 1)) (.cons (.ret (.blt false "all" (.cons _ .nil))) .nil) [some T.d, some L.d, some (.int (sI s)), some (.str one), some (.str other), none] []).out = _
  rw [evSs, evS_ret, evE_blt, evEs, ec]
  simp [all_ok, moreB]
theorem fn_is_even [Hf P "is_even" d_is_even] (O : T.Ok) (F : L.Of T) (h1 : one ∈ L.nm s) (h2 : other ∈ L.nm s) : (calls P (k + 2)).fn "is_even" [T.d, L.d, .int (sI s), .str one, .str other] h = .ok (.bl (evenB T L s one other)) h := by
  refine fnPure (h' := []) (d := d_is_even) Hf.look rfl rfl (by simp) ?_ rfl
  have m1 := (F.sub s).subset h1
  have m2 := (F.sub s).subset h2
  let pr : Str → D := fun t => .tup [.int (T.gn s one t), .int (T.gn s other t)]
  have two : ∀ (x y : D) (h : MHeap), mkT [x, y] h = .ok (.tup [x, y]) h := fun _ _ _ => rfl
  have ec : evE (calls P (k + 1)) (.comp false (.tup (.cons (.call "gained" (.cons (.var 0) (.cons (.var 2) (.cons (.var 3) (.cons (.var 6) .nil))))) (.cons (.call "gained" (.cons (.var 0) (.cons (.var 2) (.cons (.var 4) (.cons (.var 6) .nil))))) .nil))) (.name 6) (.val (.ix (.var 1) (.bin false .Sub (.int 1) (.var 2)))) .nil [6]) [some T.d, some L.d, some (.int (sI s)), some (.str one), some (.str other), none, none, none, none] [] = .ok (.lst ((L.nm !s).map pr)) [] := by
    rw [evMapT D.str pr (L.nm !s) (gd := none) (by simp [Lf.ix', sD]) rfl ?_ (big4 (F.le4 O _)), mkL_ok (by rw [List.length_map]; exact big4 (F.le4 O _))]
    intro t ht
    have m3 := (F.sub (!s)).subset ht
    refine ⟨[some T.d, some L.d, some (.int (sI s)), some (.str one), some (.str other), none, some (.str t), none, none], by simp [bindT, wipeE], ?_⟩
    simp [fn_gained O m1 m3, fn_gained O m2 m3, two, pr]
  have e1 : ∀ op (f : Str → Bool), (∀ t, cmpD op (.int (T.gn s one t)) (.int (T.gn s other t)) [] = some (f t)) → evE (calls P (k + 1)) (.comp false (.cmp op (.var 7) (.var 8)) (.tup [(.name 7), (.name 8)]) (.val (.var 5)) .nil [7, 8]) [some T.d, some L.d, some (.int (sI s)), some (.str one), some (.str other), some (.lst ((L.nm !s).map pr)), none, none, none] [] = .ok (.lst ((L.nm !s).map fun t => .bl (f t))) [] := fun op f hf => by
    rw [evMapT pr (fun t => .bl (f t)) (L.nm !s) (gd := none) (by simp) rfl ?_ (big4 (F.le4 O _)), mkL_ok (by rw [List.length_map]; exact big4 (F.le4 O _))]
    intro t ht
    refine ⟨[some T.d, some L.d, some (.int (sI s)), some (.str one), some (.str other), some (.lst ((L.nm !s).map pr)), none, some (.int (T.gn s one t)), some (.int (T.gn s other t))], by simp [bindT, bindTs, wipeE, pr], ?_⟩
    simp [hf t]
  show (evSs (calls P (k + 1)) (.cons (.set 5 _) (.cons (.ret (.and (.cons (.blt false "all" (.cons _ .nil)) (.cons (.blt false "any" (.cons _ .nil)) .nil)))) .nil)) [some T.d, some L.d, some (.int (sI s)), some (.str one), some (.str other), none, none, none, none] []).out = _
  have s1 : evS (calls P (k + 1)) (.set 5 (.comp false (.tup (.cons (.call "gained" (.cons (.var 0) (.cons (.var 2) (.cons (.var 3) (.cons (.var 6) .nil))))) (.cons (.call "gained" (.cons (.var 0) (.cons (.var 2) (.cons (.var 4) (.cons (.var 6) .nil))))) .nil))) (.name 6) (.val (.ix (.var 1) (.bin false .Sub (.int 1) (.var 2)))) .nil [6])) [some T.d, some L.d, some (.int (sI s)), some (.str one), some (.str other), none, none, none, none] [] = .nx [some T.d, some L.d, some (.int (sI s)), some (.str one), some (.str other), some (.lst ((L.nm !s).map pr)), none, none, none] [] := by
    rw [evS_set, ec]
    simp [setE]
  rw [seqNx s1]
  have b1 := e1 .GtE (fun t => decide (T.gn s other t ≤ T.gn s one t)) fun t => by simp
  have b2 := e1 .Gt (fun t => decide (T.gn s other t < T.gn s one t)) fun t => by simp
  have c1 : evE (calls P (k + 1)) (.blt false "all" (.cons (.comp false (.cmp .GtE (.var 7) (.var 8)) (.tup [(.name 7), (.name 8)]) (.val (.var 5)) .nil [7, 8]) .nil)) [some T.d, some L.d, some (.int (sI s)), some (.str one), some (.str other), some (.lst ((L.nm !s).map pr)), none, none, none] [] = .ok (.bl ((L.nm !s).all fun t => decide (T.gn s other t ≤ T.gn s one t))) [] := by
    rw [evE_blt, evEs, b1]
    simp [all_ok]
  have c2 : evE (calls P (k + 1)) (.blt false "any" (.cons (.comp false (.cmp .Gt (.var 7) (.var 8)) (.tup [(.name 7), (.name 8)]) (.val (.var 5)) .nil [7, 8]) .nil)) [some T.d, some L.d, some (.int (sI s)), some (.str one), some (.str other), some (.lst ((L.nm !s).map pr)), none, none, none] [] = .ok (.bl ((L.nm !s).any fun t => decide (T.gn s other t < T.gn s one t))) [] := by
    rw [evE_blt, evEs, b2]
    simp [any_ok]
  rw [evSs, evS_ret, evE_and, evAnd_cons, c1, bindOk, tru_bl, ofSome, bindOk, evAnd_one, c2]
  cases q : (L.nm !s).all fun t => decide (T.gn s other t ≤ T.gn s one t) <;> simp [evenB, q]
end
/-! ### betters -/
section
variable {P : Prg} [Hf P "gained" d_gained] [Hf P "is_more" d_is_more] [Hf P "all_betters" d_all_betters] {k : Nat} {T : Tb} {L : Lf} {s : Bool} {c : Str} {h : MHeap}
/-- the choices that are more -/
def bets (T : Tb) (L : Lf) (s : Bool) (c : Str) : List Str := (L.nm s).filter fun one => moreB T L s one c
theorem fn_all_betters (O : T.Ok) (F : L.Of T) (hc : c ∈ L.nm s) : (calls P (k + 3)).fn "all_betters" [T.d, L.d, .int (sI s), .str c] h = .ok (.lst ((bets T L s c).map .str)) h := by
  refine fnPure (h' := []) (d := d_all_betters) Hf.look rfl rfl (by simp) ?_ (by rw [free_lst]; exact free_strs _)
  have ec : evE (calls P (k + 2)) (.comp false (.var 4) (.name 4) (.val (.ix (.var 1) (.var 2))) (.cons (.call "is_more" (.cons (.var 0) (.cons (.var 1) (.cons (.var 2) (.cons (.var 4) (.cons (.var 3) .nil)))))) .nil) [4]) [some T.d, some L.d, some (.int (sI s)), some (.str c), none] [] = .ok (.lst ((bets T L s c).map .str)) [] := by
    rw [evCompT D.str (fun one => moreB T L s one c) D.str (L.nm s) (gd := none) (by simp [Lf.ix, sD]) rfl ?_ (big4 (F.le4 O _))]
    · exact mkL_ok (by rw [List.length_map]; exact Nat.le_trans (List.length_filter_le _ _) (big4 (F.le4 O _)))
    · intro one h1
      exact ⟨[some T.d, some L.d, some (.int (sI s)), some (.str c), some (.str one)], by simp [bindT, wipeE], by simp [fn_is_more O F h1 hc], fun _ => by simp⟩
  show (evSs (calls P (k + 2)) (.cons (.ret _) .nil) [some T.d, some L.d, some (.int (sI s)), some (.str c), none] []).out = _
  rw [evSs, evS_ret, ec]
  simp
end
section
variable {P : Prg} [Hf P "betters" d_betters] [Hf P "gained" d_gained] [Hf P "is_more" d_is_more] [Hf P "all_betters" d_all_betters] [Hf P "look_all" d_look_all] [Hf P "look_left" d_look_left] [Hf P "is_left" d_is_left] [Hf P "are_some" d_are_some] [Hf P "is_rising" d_is_rising] [Hf P "look_side" d_look_side] [Hf P "is_number" d_is_number] [Hf P "look_choice" d_look_choice] {k n : Nat} {T : Tb} {L : Lf} {s : Bool} {c : Str} {h : MHeap}
theorem fn_betters (O : T.Ok) (F : L.Of T) (hc : c ∈ L.nm s) : (calls P (k + 6)).fn "betters" [T.d, L.d, .int (sI s), .str c] h = .ok (sD (bets T L s c)) h := by
  have e1 := fn_look_all (P := P) (k := k) (h := []) O F (s := s) (n := 0) (y := .str c) (okS_sm (F.okS O c hc)) (by decide)
  rw [if_pos (by simp [hasS, hc])] at e1
  have e2 := fn_all_betters (P := P) (k := k + 2) (h := []) O F hc
  exact fnPure (h' := []) (d := d_betters) Hf.look rfl rfl (by simp) (by simp [d_betters, Lt.start, e1, e2, sD]) (sD_free _)
theorem fn_betters_left (O : T.Ok) {l x y : D} (hl : sm n l = true) (hn : n ≤ 60) (nl : leftB T l = false) (hx : x.free = true) (hy : y.free = true) : (calls P (k + 6)).fn "betters" [T.d, l, x, y] h = .ex "NoLeft" h := by
  have e1 := fn_look_all_left (P := P) (k := k) (h := []) O hl hn nl hx hy
  exact fnPureX (h' := []) (σ := [some T.d, some l, some x, some y]) (d := d_betters) Hf.look rfl rfl (by simp [sm_free hl, hx, hy]) (by simp [d_betters, Lt.start, e1])
theorem fn_betters_side (O : T.Ok) (F : L.Of T) {x y : D} (hx : sm n x = true) (nx : isNum 0 1 x = false) (hy : y.free = true) : (calls P (k + 6)).fn "betters" [T.d, L.d, x, y] h = .ex "NoSide" h := by
  have e1 := fn_look_all_side (P := P) (k := k) (h := []) O F hx nx hy
  exact fnPureX (h' := []) (σ := [some T.d, some L.d, some x, some y]) (d := d_betters) Hf.look rfl rfl (by simp [sm_free hx, hy]) (by simp [d_betters, Lt.start, e1])
theorem fn_betters_choice (O : T.Ok) (F : L.Of T) {y : D} (hy : sm n y = true) (hn : n ≤ 60) (ny : hasS (L.nm s) y = false) : (calls P (k + 6)).fn "betters" [T.d, L.d, .int (sI s), y] h = .ex "NoChoice" h := by
  have e1 := fn_look_all (P := P) (k := k) (h := []) O F (s := s) hy hn
  rw [if_neg (by simp [ny])] at e1
  exact fnPureX (h' := []) (σ := [some T.d, some L.d, some (.int (sI s)), some y]) (d := d_betters) Hf.look rfl rfl (by simp [sm_free hy]) (by simp [d_betters, Lt.start, e1])
end
end Q

/-! may_strike, all_strikes, strikes, without, struck (rules plain and even). -/
namespace Q
open Lt PySem
/-- the rules plain and even -/
def ruS (e : Bool) : Str := if e then Str.ofString "even" else Str.ofString "plain"
theorem eq_ss {a b : Str} {h : MHeap} (ha : okS a = true) (hb : okS b = true) : eqD h (.str a) (.str b) = some (a == b) := by
  rw [eq_dd (x := .str a) (y := .str b) (okD_str ha) (okD_str hb)]
  rfl
theorem ruS_ok (e : Bool) : okS (ruS e) = true := by cases e <;> decide +kernel
theorem ruS_in (e : Bool) : hasS rulesS (.str (ruS e)) = true := by cases e <;> decide +kernel
def mayB (T : Tb) (L : Lf) (e s : Bool) (c : Str) : Bool := if e then (L.nm s).any fun one => evenB T L s one c else !(bets T L s c).isEmpty
def stD (s : Bool) (c : Str) : D := .tup [.int (sI s), .str c]
def stsS (T : Tb) (L : Lf) (e s : Bool) : List D := ((L.nm s).filter (mayB T L e s)).map (stD s)
def sts (T : Tb) (L : Lf) (e : Bool) : List D := stsS T L e false ++ stsS T L e true
def Lf.wo (L : Lf) (s : Bool) (c : Str) : Lf := if s then ⟨L.a, L.b.filter (· != c)⟩ else ⟨L.a.filter (· != c), L.b⟩
theorem okD_lstS {n : Nat} {l : List Str} (hl : ∀ s ∈ l, okS s = true) : okD (n + 1) (.lst (l.map .str)) = true := by
  simp only [okD]
  exact okD_strs hl
section
variable {P : Prg} [Hf P "gained" d_gained] [Hf P "is_more" d_is_more] [Hf P "is_even" d_is_even] [Hf P "all_betters" d_all_betters] [Hf P "may_strike" d_may_strike] {k n : Nat} {T : Tb} {L : Lf} {e s : Bool} {c : Str} {h : MHeap}
theorem bets_ok (O : T.Ok) (F : L.Of T) : ∀ x ∈ bets T L s c, okS x = true := fun x hx => F.okS O x (List.mem_filter.mp hx).1
theorem fn_may_strike (O : T.Ok) (F : L.Of T) (hc : c ∈ L.nm s) : (calls P (k + 4)).fn "may_strike" [T.d, L.d, .str (ruS e), .int (sI s), .str c] h = .ok (.bl (mayB T L e s c)) h := by
  refine fnPure (h' := []) (d := d_may_strike) Hf.look rfl rfl (by simp) ?_ rfl
  cases e with
  | false =>
    have e1 := fn_all_betters (P := P) (k := k) (h := []) O F hc
    have mk0 : ∀ h, mkL false [] h = .ok (.lst []) h := fun h => rfl
    have q0 : ∀ h, eqD h (.str (ruS false)) (.str (Str.ofString "plain")) = some true := fun h => eq_self rfl (by decide +kernel)
    have q : eqD [] (.lst ((bets T L s c).map .str)) (.lst []) = some (bets T L s c).isEmpty := by
      rw [eq_dd (x := .lst ((bets T L s c).map .str)) (y := .lst []) (okD_lstS (bets_ok O F)) rfl]
      cases bets T L s c <;> simp [res, deq, deqL]
    simp [d_may_strike, Lt.start, q0, e1, mk0, q, mayB]
  | true =>
    have q0 : ∀ h, eqD h (.str (ruS true)) (.str (Str.ofString "plain")) = some false := fun h => by
      rw [eq_ss (ruS_ok true) (by decide +kernel)]
      exact congrArg some (by decide +kernel)
    have q1 : ∀ h, eqD h (.str (ruS true)) (.str (Str.ofString "even")) = some true := fun h => eq_self rfl (by decide +kernel)
    have ec : evE (calls P (k + 3)) (.comp false (.call "is_even" (.cons (.var 0) (.cons (.var 1) (.cons (.var 3) (.cons (.var 5) (.cons (.var 4) .nil)))))) (.name 5) (.val (.ix (.var 1) (.var 3))) .nil [5]) [some T.d, some L.d, some (.str (ruS true)), some (.int (sI s)), some (.str c), none] [] = .ok (.lst ((L.nm s).map fun one => .bl (evenB T L s one c))) [] := by
      rw [evMapT D.str (fun one => .bl (evenB T L s one c)) (L.nm s) (gd := none) (by simp [Lf.ix, sD]) rfl ?_ (big4 (F.le4 O _)), mkL_ok (by rw [List.length_map]; exact big4 (F.le4 O _))]
      intro one h1
      exact ⟨[some T.d, some L.d, some (.str (ruS true)), some (.int (sI s)), some (.str c), some (.str one)], by simp [bindT, wipeE], by simp [fn_is_even O F h1 hc]⟩
    show (evSs (calls P (k + 3)) (.cons (.ite (.cmp .Eq (.var 2) (.str (Str.ofString "plain"))) _ .nil) (.cons (.ite (.cmp .Eq (.var 2) (.str (Str.ofString "even"))) (.cons (.ret (.blt false "any" (.cons _ .nil))) .nil) .nil) _)) [some T.d, some L.d, some (.str (ruS true)), some (.int (sI s)), some (.str c), none] []).out = _
    have s1 : evS (calls P (k + 3)) (.ite (.cmp .Eq (.var 2) (.str (Str.ofString "plain"))) (.cons (.ret (.cmp .NotEq (.call "all_betters" (.cons (.var 0) (.cons (.var 1) (.cons (.var 3) (.cons (.var 4) .nil))))) (.lst false .nil))) .nil) .nil) [some T.d, some L.d, some (.str (ruS true)), some (.int (sI s)), some (.str c), none] [] = .nx [some T.d, some L.d, some (.str (ruS true)), some (.int (sI s)), some (.str c), none] [] := by
      simp [q0]
    rw [seqNx s1]
    have s2 : evSs (calls P (k + 3)) (.cons (.ret (.blt false "any" (.cons (.comp false (.call "is_even" (.cons (.var 0) (.cons (.var 1) (.cons (.var 3) (.cons (.var 5) (.cons (.var 4) .nil)))))) (.name 5) (.val (.ix (.var 1) (.var 3))) .nil [5]) .nil))) .nil) [some T.d, some L.d, some (.str (ruS true)), some (.int (sI s)), some (.str c), none] [] = .rt (.bl (mayB T L true s c)) [] := by
      rw [evSs, evS_ret, evE_blt, evEs, ec]
      simp [any_ok, mayB]
    rw [evSs, evS_ite]
    simp only [evE_cmp, evE_var, evE_str, List.getElem?_cons_succ, List.getElem?_cons_zero, bindOk, cmp_eq, q1, ofSome, tru_bl, flOk, if_true, s2]
    rfl
theorem fn_all_strikes [Hf P "all_strikes" d_all_strikes] (O : T.Ok) (F : L.Of T) : (calls P (k + 5)).fn "all_strikes" [T.d, L.d, .str (ruS e)] h = .ok (.lst (sts T L e)) h := by
  have two : ∀ (x y : D) (h : MHeap), mkT [x, y] h = .ok (.tup [x, y]) h := fun _ _ _ => rfl
  have ec : ∀ (s : Bool) (a : Option D) (h : MHeap), evE (calls P (k + 4)) (.comp false (.tup (.cons (.var 4) (.cons (.var 5) .nil))) (.name 5) (.val (.ix (.var 1) (.var 4))) (.cons (.call "may_strike" (.cons (.var 0) (.cons (.var 1) (.cons (.var 2) (.cons (.var 4) (.cons (.var 5) .nil)))))) .nil) [5]) [some T.d, some L.d, some (.str (ruS e)), some (.loc 0), some (.int (sI s)), a] h = .ok (.lst (stsS T L e s)) h := fun s a h => by
    rw [evCompT D.str (mayB T L e s) (stD s) (L.nm s) (gd := none) (by simp [Lf.ix, sD]) rfl ?_ (big4 (F.le4 O _))]
    · exact mkL_ok (by rw [List.length_map]; exact Nat.le_trans (List.length_filter_le _ _) (big4 (F.le4 O _)))
    · intro c hc
      exact ⟨[some T.d, some L.d, some (.str (ruS e)), some (.loc 0), some (.int (sI s)), some (.str c)], by simp [bindT, wipeE], by simp [fn_may_strike O F hc], fun _ => by simp [two, stD]⟩
  have sl : ∀ s, (stsS T L e s).length ≤ 4 := fun s => by rw [stsS, List.length_map]; exact Nat.le_trans (List.length_filter_le _ _) (F.le4 O s)
  have rc : ∀ xs : List D, recvD "extend" (.loc 0) [.lst xs] = true := fun xs => rfl
  have ex : ∀ xs ys : List D, xs.length ≤ 8 → ys.length ≤ 8 → methD "extend" (.loc 0) [.lst ys] [.lst xs] = .ok .non [.lst (xs ++ ys)] := fun xs ys hx hy => by
    have : xs.length + ys.length ≤ BIG := Nat.le_trans (show xs.length + ys.length ≤ 16 by omega) (by decide)
    simp [methD, extD, seqOf, this]
  let B : MSs := .cons (.expr (.meth "extend" (.var 3) (.cons (.comp false (.tup (.cons (.var 4) (.cons (.var 5) .nil))) (.name 5) (.val (.ix (.var 1) (.var 4))) (.cons (.call "may_strike" (.cons (.var 0) (.cons (.var 1) (.cons (.var 2) (.cons (.var 4) (.cons (.var 5) .nil)))))) .nil) [5]) .nil))) .nil
  have tn : ∀ (s : Bool) (a b : Option D) (xs : List D), xs.length ≤ 8 → bodyOf (calls P (k + 4)) (.name 4) B (.int (sI s)) [some T.d, some L.d, some (.str (ruS e)), some (.loc 0), a, b] [.lst xs] = .nx [some T.d, some L.d, some (.str (ruS e)), some (.loc 0), some (.int (sI s)), b] [.lst (xs ++ stsS T L e s)] := fun s a b xs hx => by
    refine bodyEq (σ' := [some T.d, some L.d, some (.str (ruS e)), some (.loc 0), some (.int (sI s)), b]) (by simp [bindT]) ?_
    refine seqOne ?_
    have := ex xs (stsS T L e s) hx (Nat.le_trans (sl s) (by decide))
    simp [ec, rc, this]
  refine fnPureL (n := 0) (h' := [.lst (sts T L e)]) (d := d_all_strikes) Hf.look rfl rfl (by simp) ?_ rfl ?_
  · show (evSs (calls P (k + 4)) (.cons (.set 3 (.lst true .nil)) (.cons (.for (.name 4) (.val (.tup (.cons (.int 0) (.cons (.int 1) .nil)))) B) (.cons (.ret (.var 3)) .nil))) [some T.d, some L.d, some (.str (ruS e)), none, none, none] []).out = _
    have s1 : evS (calls P (k + 4)) (.set 3 (.lst true .nil)) [some T.d, some L.d, some (.str (ruS e)), none, none, none] [] = .nx [some T.d, some L.d, some (.str (ruS e)), some (.loc 0), none, none] [.lst []] := by
      simp [mkL_own (xs := []) (by decide), setE]
    have s2 : evS (calls P (k + 4)) (.for (.name 4) (.val (.tup (.cons (.int 0) (.cons (.int 1) .nil)))) B) [some T.d, some L.d, some (.str (ruS e)), some (.loc 0), none, none] [.lst []] = .nx [some T.d, some L.d, some (.str (ruS e)), some (.loc 0), some (.int (sI true)), none] [.lst (sts T L e)] := by
      refine evFor (its := ⟨[.int (sI false), .int (sI true)], none⟩) (h1 := [.lst []]) (by simp [two]) ?_
      show forRun _ _ [.int (sI false), .int (sI true)] _ _ = _
      rw [forCons rfl (tn false none none [] (by simp)), forCons rfl (tn true _ none _ (by have := sl false; simp; omega)), forNil rfl]
      rfl
    rw [seqNx s1, seqNx s2]
    simp
  · refine freeL_iff.mpr fun d hd => ?_
    simp only [sts, stsS, List.mem_append, List.mem_map] at hd
    rcases hd with ⟨c, _, rfl⟩ | ⟨c, _, rfl⟩ <;> rfl
end
/-! ### without -/
section
variable {P : Prg} {k n : Nat} {T : Tb} {L : Lf} {e s : Bool} {c : Str} {h : MHeap}
theorem fn_without [Hf P "without" d_without] (O : T.Ok) (F : L.Of T) (hc : c ∈ L.nm s) : (calls P (k + 1)).fn "without" [L.d, .int (sI s), .str c] h = .ok (L.wo s c).d h := by
  have two : ∀ (x y : D) (h : MHeap), mkT [x, y] h = .ok (.tup [x, y]) h := fun _ _ _ => rfl
  refine fnPure (h' := []) (d := d_without) Hf.look rfl rfl (by simp) ?_ (Lf.free _)
  have ec : evE (calls P k) (.comp false (.var 4) (.name 4) (.val (.ix (.var 0) (.var 1))) (.cons (.cmp .NotEq (.var 4) (.var 2)) .nil) [4]) [some L.d, some (.int (sI s)), some (.str c), none, none] [] = .ok (.lst (((L.nm s).filter (· != c)).map .str)) [] := by
    rw [evCompT D.str (fun one => one != c) D.str (L.nm s) (gd := none) (by simp [Lf.ix, sD]) rfl ?_ (big4 (F.le4 O _))]
    · exact mkL_ok (by rw [List.length_map]; exact Nat.le_trans (List.length_filter_le _ _) (big4 (F.le4 O _)))
    · intro one h1
      exact ⟨[some L.d, some (.int (sI s)), some (.str c), none, some (.str one)], by simp [bindT, wipeE], by simp [eq_ss (F.okS O one h1) (F.okS O c hc), bne], fun _ => by simp⟩
  have s1 : evS (calls P k) (.set 3 (.blt false "tuple" (.cons (.comp false (.var 4) (.name 4) (.val (.ix (.var 0) (.var 1))) (.cons (.cmp .NotEq (.var 4) (.var 2)) .nil) [4]) .nil))) [some L.d, some (.int (sI s)), some (.str c), none, none] [] = .nx [some L.d, some (.int (sI s)), some (.str c), some (sD ((L.nm s).filter (· != c))), none] [] := by
    rw [evS_set, evE_blt, evEs, ec]
    simp [setE, sD]
  show (evSs (calls P k) (.cons (.set 3 _) (.cons (.ret (.ite (.cmp .Eq (.var 1) (.int 0)) (.tup (.cons (.var 3) (.cons (.ix (.var 0) (.int 1)) .nil))) (.tup (.cons (.ix (.var 0) (.int 0)) (.cons (.var 3) .nil))))) .nil)) [some L.d, some (.int (sI s)), some (.str c), none, none] []).out = _
  rw [seqNx s1]
  have i1 : ∀ h, getD L.d (.int 1) h = some (sD L.b) := fun h => L.ix true h
  have i0 : ∀ h, getD L.d (.int 0) h = some (sD L.a) := fun h => L.ix false h
  have x1 : ∀ (x y : D) (r : List D), L2.atI (x :: y :: r) 1 = some y := fun _ _ _ => at1
  have x0 : ∀ (x : D) (r : List D), L2.atI (x :: r) 0 = some x := fun _ _ => at0
  cases s <;> simp [x0, x1, two, Lf.wo, Lf.nm, Lf.d]
theorem fn_less [hd : Hd P "_law_less" 2 4 .pure b__law_less] (O : T.Ok) (F : L.Of T) (hc : c ∈ L.nm s) : (calls P (k + 1)).fn "_law_less" [L.d, stD s c] h = .ok (L.wo s c).d h := by
  have two : ∀ (x y : D) (h : MHeap), mkT [x, y] h = .ok (.tup [x, y]) h := fun _ _ _ => rfl
  obtain ⟨ps, hp, hl⟩ := hd.look
  refine fnPure (h' := []) (d := ⟨ps, 4, .pure, b__law_less⟩) hl rfl (by simp [hp]) (by simp [stD]) ?_ (Lf.free _)
  have a0 : ∀ h, getD (stD s c) (.int 0) h = some (.int (sI s)) := fun h => rfl
  have a1 : ∀ h, getD (stD s c) (.int 1) h = some (.str c) := fun h => rfl
  have ec : evE (calls P k) (.comp false (.var 3) (.name 3) (.val (.ix (.var 0) (.ix (.var 1) (.int 0)))) (.cons (.cmp .NotEq (.var 3) (.ix (.var 1) (.int 1))) .nil) [3]) [some L.d, some (stD s c), none, none] [] = .ok (.lst (((L.nm s).filter (· != c)).map .str)) [] := by
    rw [evCompT D.str (fun one => one != c) D.str (L.nm s) (gd := none) (by simp [Lf.ix, sD, a0]) rfl ?_ (big4 (F.le4 O _))]
    · exact mkL_ok (by rw [List.length_map]; exact Nat.le_trans (List.length_filter_le _ _) (big4 (F.le4 O _)))
    · intro one h1
      exact ⟨[some L.d, some (stD s c), none, some (.str one)], by simp [bindT, wipeE], by simp [a1, eq_ss (F.okS O one h1) (F.okS O c hc), bne], fun _ => by simp⟩
  have s1 : evS (calls P k) (.set 2 (.blt false "tuple" (.cons (.comp false (.var 3) (.name 3) (.val (.ix (.var 0) (.ix (.var 1) (.int 0)))) (.cons (.cmp .NotEq (.var 3) (.ix (.var 1) (.int 1))) .nil) [3]) .nil))) [some L.d, some (stD s c), none, none] [] = .nx [some L.d, some (stD s c), some (sD ((L.nm s).filter (· != c))), none] [] := by
    rw [evS_set, evE_blt, evEs, ec]
    simp [setE, sD]
  show (evSs (calls P k) (.cons (.set 2 _) (.cons (.ret (.ite (.cmp .Eq (.ix (.var 1) (.int 0)) (.int 0)) (.tup (.cons (.var 2) (.cons (.ix (.var 0) (.int 1)) .nil))) (.tup (.cons (.ix (.var 0) (.int 0)) (.cons (.var 2) .nil))))) .nil)) [some L.d, some (stD s c), none, none] []).out = _
  rw [seqNx s1]
  have i1 : ∀ h, getD L.d (.int 1) h = some (sD L.b) := fun h => L.ix true h
  have i0 : ∀ h, getD L.d (.int 0) h = some (sD L.a) := fun h => L.ix false h
  have x1 : ∀ (x y : D) (r : List D), L2.atI (x :: y :: r) 1 = some y := fun _ _ _ => at1
  have x0 : ∀ (x : D) (r : List D), L2.atI (x :: r) 0 = some x := fun _ _ => at0
  cases s <;> simp [x0, x1, stD, two, Lf.wo, Lf.nm, Lf.d]
end
/-! ### strikes, struck -/
section
variable {P : Prg} [Hf P "gained" d_gained] [Hf P "is_more" d_is_more] [Hf P "is_even" d_is_even] [Hf P "all_betters" d_all_betters] [Hf P "may_strike" d_may_strike] [Hf P "all_strikes" d_all_strikes] [Hf P "strikes" d_strikes] [Hf P "struck" d_struck] [Hf P "without" d_without] [Hf P "look_rule" d_look_rule] [Hf P "look_all" d_look_all] [Hf P "look_left" d_look_left] [Hf P "is_left" d_is_left] [Hf P "are_some" d_are_some] [Hf P "is_rising" d_is_rising] [Hf P "look_side" d_look_side] [Hf P "is_number" d_is_number] [Hf P "look_choice" d_look_choice] (ht : P.tcs.lookup "RULES" = some rulesS) {k n : Nat} {T : Tb} {L : Lf} {e s : Bool} {c : Str} {h : MHeap}
include ht in
theorem fn_strikes (O : T.Ok) (F : L.Of T) : (calls P (k + 6)).fn "strikes" [T.d, L.d, .str (ruS e)] h = .ok (.tup (sts T L e)) h := by
  have e1 := fn_look_left (P := P) (k := k + 1) (h := []) O (F.sm O) (by decide)
  rw [if_pos (show leftB T L.d = true from isLeft_of F)] at e1
  have e2 := fn_look_rule (P := P) (k := k + 4) (h := []) ht (n := 0) (x := .str (ruS e)) (okS_sm (ruS_ok e)) (by decide)
  rw [if_pos (ruS_in e)] at e2
  have e3 := fn_all_strikes (P := P) (k := k) (h := []) (e := e) O F
  refine fnPure (h' := []) (d := d_strikes) Hf.look rfl rfl (by simp) (by simp [d_strikes, Lt.start, e1, e2, e3]) ?_
  rw [free_tup]
  refine freeL_iff.mpr fun d hd => ?_
  simp only [sts, stsS, List.mem_append, List.mem_map] at hd
  rcases hd with ⟨c, _, rfl⟩ | ⟨c, _, rfl⟩ <;> rfl
theorem fn_strikes_left (O : T.Ok) {l r : D} (hl : sm n l = true) (hn : n ≤ 60) (nl : leftB T l = false) (hr : r.free = true) : (calls P (k + 6)).fn "strikes" [T.d, l, r] h = .ex "NoLeft" h := by
  have e1 := fn_look_left (P := P) (k := k + 1) (h := []) O hl hn
  rw [if_neg (by simp [nl])] at e1
  exact fnPureX (h' := []) (σ := [some T.d, some l, some r]) (d := d_strikes) Hf.look rfl rfl (by simp [sm_free hl, hr]) (by simp [d_strikes, Lt.start, e1])
include ht in
theorem fn_strikes_rule (O : T.Ok) (F : L.Of T) {r : D} (hr : sm n r = true) (hn : n ≤ 60) (nr : hasS rulesS r = false) : (calls P (k + 6)).fn "strikes" [T.d, L.d, r] h = .ex "NoRule" h := by
  have e1 := fn_look_left (P := P) (k := k + 1) (h := []) O (F.sm O) (by decide)
  rw [if_pos (show leftB T L.d = true from isLeft_of F)] at e1
  have e2 := fn_look_rule (P := P) (k := k + 4) (h := []) ht hr hn
  rw [if_neg (by simp [nr])] at e2
  exact fnPureX (h' := []) (σ := [some T.d, some L.d, some r]) (d := d_strikes) Hf.look rfl rfl (by simp [sm_free hr]) (by simp [d_strikes, Lt.start, e1, e2])
include ht in
theorem fn_struck (O : T.Ok) (F : L.Of T) (hc : c ∈ L.nm s) : (calls P (k + 7)).fn "struck" [T.d, L.d, .str (ruS e), .int (sI s), .str c] h = if mayB T L e s c then .ok (L.wo s c).d h else .ex "NoStrike" h := by
  have e1 := fn_look_left (P := P) (k := k + 2) (h := []) O (F.sm O) (by decide)
  rw [if_pos (show leftB T L.d = true from isLeft_of F)] at e1
  have e2 := fn_look_rule (P := P) (k := k + 5) (h := []) ht (n := 0) (x := .str (ruS e)) (okS_sm (ruS_ok e)) (by decide)
  rw [if_pos (ruS_in e)] at e2
  have e3 := fn_look_all (P := P) (k := k + 1) (h := []) O F (s := s) (n := 0) (y := .str c) (okS_sm (F.okS O c hc)) (by decide)
  rw [if_pos (by simp [hasS, hc])] at e3
  have e4 := fn_may_strike (P := P) (k := k + 2) (h := []) (e := e) O F hc
  have e5 := fn_without (P := P) (k := k + 5) (h := []) O F hc
  by_cases q : mayB T L e s c = true
  · rw [if_pos q]
    exact fnPure (h' := []) (d := d_struck) Hf.look rfl rfl (by simp) (by simp [d_struck, Lt.start, e1, e2, e3, e4, e5, q]) (Lf.free _)
  · rw [if_neg q]
    exact fnPureX (h' := []) (σ := [some T.d, some L.d, some (.str (ruS e)), some (.int (sI s)), some (.str c)]) (d := d_struck) Hf.look rfl rfl (by simp) (by simp [d_struck, Lt.start, e1, e2, e3, e4, q])
theorem fn_struck_left (O : T.Ok) {l r x y : D} (hl : sm n l = true) (hn : n ≤ 60) (nl : leftB T l = false) (hr : r.free = true) (hx : x.free = true) (hy : y.free = true) : (calls P (k + 7)).fn "struck" [T.d, l, r, x, y] h = .ex "NoLeft" h := by
  have e1 := fn_look_left (P := P) (k := k + 2) (h := []) O hl hn
  rw [if_neg (by simp [nl])] at e1
  exact fnPureX (h' := []) (σ := [some T.d, some l, some r, some x, some y]) (d := d_struck) Hf.look rfl rfl (by simp [sm_free hl, hr, hx, hy]) (by simp [d_struck, Lt.start, e1])
include ht in
theorem fn_struck_rule (O : T.Ok) (F : L.Of T) {r x y : D} (hr : sm n r = true) (hn : n ≤ 60) (nr : hasS rulesS r = false) (hx : x.free = true) (hy : y.free = true) : (calls P (k + 7)).fn "struck" [T.d, L.d, r, x, y] h = .ex "NoRule" h := by
  have e1 := fn_look_left (P := P) (k := k + 2) (h := []) O (F.sm O) (by decide)
  rw [if_pos (show leftB T L.d = true from isLeft_of F)] at e1
  have e2 := fn_look_rule (P := P) (k := k + 5) (h := []) ht hr hn
  rw [if_neg (by simp [nr])] at e2
  exact fnPureX (h' := []) (σ := [some T.d, some L.d, some r, some x, some y]) (d := d_struck) Hf.look rfl rfl (by simp [sm_free hr, hx, hy]) (by simp [d_struck, Lt.start, e1, e2])
include ht in
theorem fn_struck_side (O : T.Ok) (F : L.Of T) {x y : D} (hx : sm n x = true) (nx : isNum 0 1 x = false) (hy : y.free = true) : (calls P (k + 7)).fn "struck" [T.d, L.d, .str (ruS e), x, y] h = .ex "NoSide" h := by
  have e1 := fn_look_left (P := P) (k := k + 2) (h := []) O (F.sm O) (by decide)
  rw [if_pos (show leftB T L.d = true from isLeft_of F)] at e1
  have e2 := fn_look_rule (P := P) (k := k + 5) (h := []) ht (n := 0) (x := .str (ruS e)) (okS_sm (ruS_ok e)) (by decide)
  rw [if_pos (ruS_in e)] at e2
  have e3 := fn_look_all_side (P := P) (k := k + 1) (h := []) O F hx nx hy
  exact fnPureX (h' := []) (σ := [some T.d, some L.d, some (.str (ruS e)), some x, some y]) (d := d_struck) Hf.look rfl rfl (by simp [sm_free hx, hy]) (by simp [d_struck, Lt.start, e1, e2, e3])
include ht in
theorem fn_struck_choice (O : T.Ok) (F : L.Of T) {y : D} (hy : sm n y = true) (hn : n ≤ 60) (ny : hasS (L.nm s) y = false) : (calls P (k + 7)).fn "struck" [T.d, L.d, .str (ruS e), .int (sI s), y] h = .ex "NoChoice" h := by
  have e1 := fn_look_left (P := P) (k := k + 2) (h := []) O (F.sm O) (by decide)
  rw [if_pos (show leftB T L.d = true from isLeft_of F)] at e1
  have e2 := fn_look_rule (P := P) (k := k + 5) (h := []) ht (n := 0) (x := .str (ruS e)) (okS_sm (ruS_ok e)) (by decide)
  rw [if_pos (ruS_in e)] at e2
  have e3 := fn_look_all (P := P) (k := k + 1) (h := []) O F (s := s) hy hn
  rw [if_neg (by simp [ny])] at e3
  exact fnPureX (h' := []) (σ := [some T.d, some L.d, some (.str (ruS e)), some (.int (sI s)), some y]) (d := d_struck) Hf.look rfl rfl (by simp [sm_free hy]) (by simp [d_struck, Lt.start, e1, e2, e3])
end
end Q

/-! _law_lines: a dict of lists made in the def. -/
namespace Q
open Lt PySem
theorem fnPureF {P : Prg} {k : Nat} {f : String} {d : MDef} {xs : List D} {h h' : MHeap} {v v' : D} (e : P.tab.lookup f = some d) (hp : d.pol = .pure) (hl : xs.length = d.ps.length) (hf : D.freeL xs = true)
    (hb : (evSs (calls P k) d.body (Lt.start d xs) []).out = .ok v h') (hv : frz h' 0 v = some v') : (calls P (k + 1)).fn f xs h = .ok v' h := by
  rw [callsFn e]
  simp only [runDef, hl, if_true, hp, hf, hb, hv]
def kvL : Nat → List Str → List (Ky × D)
  | _, [] => []
  | i, m :: r => (.str m, .loc i) :: kvL (i + 1) r
theorem kvL_app {m : Str} : ∀ (acc : List Str) (i : Nat), kvL i (acc ++ [m]) = kvL i acc ++ [(.str m, .loc (i + acc.length))]
  | [], i => rfl
  | a :: r, i => by
    simp only [List.cons_append, kvL, kvL_app r (i + 1), List.length_cons]
    rw [show i + 1 + r.length = i + (r.length + 1) by omega]
theorem kvL_len : ∀ (acc : List Str) (i : Nat), (kvL i acc).length = acc.length
  | [], _ => rfl
  | a :: r, i => by simp [kvL, kvL_len r (i + 1)]
theorem ky_beq {a b : Str} : Ky.beq (.str a) (.str b) = decide (a = b) := by simp [Ky.beq]
theorem kvL_any {m : Str} : ∀ (acc : List Str) (i : Nat), m ∉ acc → (kvL i acc).any (fun p => Ky.beq p.1 (.str m)) = false
  | [], _, _ => rfl
  | a :: r, i, h => by
    simp only [List.mem_cons, not_or] at h
    simp only [kvL, List.any_cons, ky_beq, kvL_any r (i + 1) h.2, Bool.or_false]
    exact decide_eq_false fun z => h.1 z.symm
theorem kvL_put {m : Str} {acc : List Str} {i : Nat} {v : D} (h : m ∉ acc) : putKy (kvL i acc) (.str m) v = kvL i acc ++ [(.str m, v)] := by
  rw [putKy, kvL_any acc i h]
  rfl
theorem look_app {m : Str} {kvs : List (Ky × D)} {v : D} (h : kvs.any (fun p => Ky.beq p.1 (.str m)) = false) : lookK (kvs ++ [(.str m, v)]) (.str m) = some v := by
  have : kvs.find? (fun p => Ky.beq p.1 (.str m)) = none := List.find?_eq_none.mpr fun p hp => by
    have := List.any_eq_false.mp h p hp
    exact this
  rw [lookK, List.find?_append, this]
  simp [ky_beq]
/-- what one gains over c, against each choice of the other side -/
def rowI (T : Tb) (L : Lf) (s : Bool) (c m : Str) : List Int := (L.nm !s).map fun t => T.gn s m t - T.gn s c t
def rowD (T : Tb) (L : Lf) (s : Bool) (c m : Str) : List D := (rowI T L s c m).map .int
def oth (L : Lf) (s : Bool) (c : Str) : List Str := (L.nm s).filter (· != c)
def linD (T : Tb) (L : Lf) (s : Bool) (c : Str) : D := .dic 0 ((oth L s c).map fun m => (.str m, .lst (rowD T L s c m)))
def hpL (T : Tb) (L : Lf) (s : Bool) (c : Str) (acc : List Str) : MHeap := .dic 0 (kvL 1 acc) :: acc.map fun m => .lst (rowD T L s c m)
theorem free_ints (l : List Int) : D.freeL (l.map .int) = true := freeL_iff.mpr fun d hd => by
  obtain ⟨s, _, rfl⟩ := List.mem_map.mp hd
  rfl
theorem frzP_kvL {g : Nat → Option D} {row : Str → D} : ∀ (acc : List Str) (i : Nat), (∀ (j : Nat) (m : Str), acc[j]? = some m → g (i + j) = some (row m)) → D.frzP g 0 (kvL i acc) = some (acc.map fun m => (.str m, row m))
  | [], _, _ => rfl
  | a :: r, i, h => by
    have h0 := h 0 a rfl
    have ih := frzP_kvL (g := g) (row := row) r (i + 1) fun j m hj => by
      have := h (j + 1) m (by simpa using hj)
      rw [show i + (j + 1) = i + 1 + j by omega] at this
      exact this
    simp only [kvL, D.frzP, D.frz, Nat.not_lt_zero, if_false, List.map_cons, ih]
    rw [Nat.add_zero] at h0
    rw [h0]
theorem frz_hpL {T : Tb} {L : Lf} {s : Bool} {c : Str} {acc : List Str} : frz (hpL T L s c acc) 0 (.loc 0) = some (.dic 0 (acc.map fun m => (.str m, .lst (rowD T L s c m)))) := by
  have key : D.frzP (frzAt (hpL T L s c acc) 0 3) 0 (kvL 1 acc) = some (acc.map fun m => (.str m, .lst (rowD T L s c m))) := frzP_kvL acc 1 fun j m hj => by
    have : (hpL T L s c acc)[1 + j]? = some (.lst (rowD T L s c m)) := by
      rw [Nat.add_comm, hpL, List.getElem?_cons_succ, List.getElem?_map, hj]
      rfl
    rw [frzAt, this]
    simp only [rowD, frz_freeL (free_ints _)]
  have h0 : (hpL T L s c acc)[0]? = some (.dic 0 (kvL 1 acc)) := rfl
  simp only [frz, D.frz, Nat.not_lt_zero, if_false]
  rw [frzAt, h0]
  simp only [key]
def lnB2 : MSs := .cons (.set 7 (.call "_law_gain" (.cons (.var 0) (.cons (.var 2) (.cons (.var 5) (.cons (.var 6) .nil)))))) (.cons (.expr (.meth "append" (.ix (.var 4) (.var 5)) (.cons (.bin false .Sub (.var 7) (.call "_law_gain" (.cons (.var 0) (.cons (.var 2) (.cons (.var 3) (.cons (.var 6) .nil)))))) .nil))) .nil)
def lnB1 : MSs := .cons (.ite (.cmp .NotEq (.var 5) (.var 3)) (.cons (.put (.var 4) (.var 5) (.lst true .nil)) (.cons (.for (.name 6) (.val (.ix (.var 1) (.bin false .Sub (.int 1) (.var 2)))) lnB2) .nil)) .nil) .nil
section
variable {P : Prg} [Hd P "_law_gain" 4 6 .pure b_gained] {k : Nat} {T : Tb} {L : Lf} {s : Bool} {c : Str} (O : T.Ok) (F : L.Of T) (hc : c ∈ L.nm s)
include O F hc
theorem lnLoop2 {one : Str} (h1 : one ∈ L.nm s) {acc : List Str} (hn : one ∉ acc) {its : Items} (hgd : its.gd = none) : ∀ (ts : List Str) (a b : Option D) (cur : List D), (∀ t ∈ ts, t ∈ L.nm !s) → cur.length + ts.length ≤ 100 → ∃ a' b', forRun (bodyOf (calls P (k + 1)) (.name 6) lnB2) its (ts.map D.str) [some T.d, some L.d, some (.int (sI s)), some (.str c), some (.loc 0), some (.str one), a, b] (.dic 0 (kvL 1 (acc ++ [one])) :: (acc.map (fun m => MObj.lst (rowD T L s c m)) ++ [.lst cur])) = .nx [some T.d, some L.d, some (.int (sI s)), some (.str c), some (.loc 0), some (.str one), a', b'] (.dic 0 (kvL 1 (acc ++ [one])) :: (acc.map (fun m => MObj.lst (rowD T L s c m)) ++ [.lst (cur ++ ts.map fun t => .int (T.gn s one t - T.gn s c t))]))
  | [], a, b, cur, _, _ => ⟨a, b, by simp [forRun, okGd hgd]⟩
  | t :: r, a, b, cur, ht, hl => by
    simp only [List.length_cons] at hl
    obtain ⟨a', b', e⟩ := lnLoop2 h1 hn hgd r (some (.str t)) (some (.int (T.gn s one t))) (cur ++ [.int (T.gn s one t - T.gn s c t)]) (fun x hx => ht x (List.mem_cons_of_mem _ hx)) (by simp only [List.length_append, List.length_singleton]; omega)
    refine ⟨a', b', ?_⟩
    have m1 := (F.sub s).subset h1
    have m2 := (F.sub s).subset hc
    have m3 := (F.sub (!s)).subset (ht t List.mem_cons_self)
    have at0 : ∀ cur : List D, ((MObj.dic 0 (kvL 1 (acc ++ [one])) :: (acc.map (fun m => MObj.lst (rowD T L s c m)) ++ [.lst cur])) : MHeap)[1 + acc.length]? = some (.lst cur) := fun cur => by
      rw [Nat.add_comm, List.getElem?_cons_succ, List.getElem?_append_right (by simp)]
      simp
    have gx : ∀ cur : List D, getD (.loc 0) (.str one) (MObj.dic 0 (kvL 1 (acc ++ [one])) :: (acc.map (fun m => MObj.lst (rowD T L s c m)) ++ [.lst cur])) = some (.loc (1 + acc.length)) := fun cur => by
      have : lookK (kvL 1 (acc ++ [one])) (.str one) = some (.loc (1 + acc.length)) := by
        rw [kvL_app]
        exact look_app (kvL_any acc 1 hn)
      simp [getD, itemsOf, seqOf, dicOf, D.key, Ky.kind, this]
    have ap : methD "append" (.loc (1 + acc.length)) [.int (T.gn s one t - T.gn s c t)] (MObj.dic 0 (kvL 1 (acc ++ [one])) :: (acc.map (fun m => MObj.lst (rowD T L s c m)) ++ [.lst cur])) = .ok .non (MObj.dic 0 (kvL 1 (acc ++ [one])) :: (acc.map (fun m => MObj.lst (rowD T L s c m)) ++ [.lst (cur ++ [.int (T.gn s one t - T.gn s c t)])])) := by
      rw [appO (at0 cur) (Nat.lt_of_lt_of_le (show cur.length < 101 by omega) (by decide)), Nat.add_comm, List.set_cons_succ, List.set_append, if_neg (by simp)]
      simp
    have rc := rcvO (at0 cur)
    have g1 := fun h => fn_law_gain (P := P) (k := k) (h := h) O m1 m3
    have g2 := fun h => fn_law_gain (P := P) (k := k) (h := h) O m2 m3
    rw [List.map_cons, forCons (okGd hgd) (bodyEq (σ' := [some T.d, some L.d, some (.int (sI s)), some (.str c), some (.loc 0), some (.str one), some (.str t), b]) (by simp [bindT]) (r := .nx [some T.d, some L.d, some (.int (sI s)), some (.str c), some (.loc 0), some (.str one), some (.str t), some (.int (T.gn s one t))] (.dic 0 (kvL 1 (acc ++ [one])) :: (acc.map (fun m => MObj.lst (rowD T L s c m)) ++ [.lst (cur ++ [.int (T.gn s one t - T.gn s c t)])]))) ?_), e]
    · simp
    · simp [lnB2, g1, g2, gx, ap, rc, setE]
theorem lnLoop1 {its : Items} (hgd : its.gd = none) : ∀ (xs : List Str) (v5 a b : Option D) (acc : List Str), (∀ x ∈ xs, x ∈ L.nm s) → xs.Nodup → (∀ x ∈ xs, x ∉ acc) → acc.length + xs.length ≤ 100 → ∃ v5' a' b', forRun (bodyOf (calls P (k + 1)) (.name 5) lnB1) its (xs.map D.str) [some T.d, some L.d, some (.int (sI s)), some (.str c), some (.loc 0), v5, a, b] (hpL T L s c acc) = .nx [some T.d, some L.d, some (.int (sI s)), some (.str c), some (.loc 0), v5', a', b'] (hpL T L s c (acc ++ xs.filter (· != c)))
  | [], v5, a, b, acc, _, _, _, _ => ⟨v5, a, b, by simp [forRun, okGd hgd]⟩
  | x :: r, v5, a, b, acc, hx, hd, hn, hl => by
    simp only [List.length_cons] at hl
    have x1 := hx x List.mem_cons_self
    have hq : ∀ h, eqD h (.str x) (.str c) = some (x == c) := fun h => eq_ss (F.okS O x x1) (F.okS O c hc)
    rw [List.nodup_cons] at hd
    by_cases q : x = c
    · obtain ⟨v5', a', b', e⟩ := lnLoop1 hgd r (some (.str x)) a b acc (fun y hy => hx y (List.mem_cons_of_mem _ hy)) hd.2 (fun y hy => hn y (List.mem_cons_of_mem _ hy)) (by omega)
      refine ⟨v5', a', b', ?_⟩
      rw [List.map_cons, forCons (okGd hgd) (bodyEq (σ' := [some T.d, some L.d, some (.int (sI s)), some (.str c), some (.loc 0), some (.str x), a, b]) (by simp [bindT]) (r := .nx [some T.d, some L.d, some (.int (sI s)), some (.str c), some (.loc 0), some (.str x), a, b] (hpL T L s c acc)) ?_), e]
      · rw [List.filter_cons_of_neg (by simp [q])]
      · rw [lnB1]
        refine seqOne ?_
        rw [evS_ite]
        simp only [evE_cmp, evE_var, List.getElem?_cons_succ, List.getElem?_cons_zero, bindOk, cmp_ne, hq, Option.map_some, ofSome, tru_bl, flOk, beq_iff_eq.mpr q, Bool.not_true, Bool.false_eq_true, if_false, evSs_nil]
    · have hxn : x ∉ acc := hn x List.mem_cons_self
      obtain ⟨a1, b1, e2⟩ := lnLoop2 (P := P) (k := k) O F hc x1 hxn (its := ⟨(L.nm !s).map .str, none⟩) rfl (L.nm !s) a b [] (fun _ h => h) (by have := F.le4 O (!s); simp; omega)
      obtain ⟨v5', a', b', e⟩ := lnLoop1 hgd r (some (.str x)) a1 b1 (acc ++ [x]) (fun y hy => hx y (List.mem_cons_of_mem _ hy)) hd.2 (fun y hy => by
        have z := hn y (List.mem_cons_of_mem _ hy)
        simp only [List.mem_append, List.mem_singleton, not_or]
        exact ⟨z, fun w => hd.1 (w ▸ hy)⟩) (by simp only [List.length_append, List.length_singleton]; omega)
      refine ⟨v5', a', b', ?_⟩
      have hl1 : (hpL T L s c acc).length = 1 + acc.length := by simp [hpL]; omega
      have s1 : evS (calls P (k + 1)) (.put (.var 4) (.var 5) (.lst true .nil)) [some T.d, some L.d, some (.int (sI s)), some (.str c), some (.loc 0), some (.str x), a, b] (hpL T L s c acc) = .nx [some T.d, some L.d, some (.int (sI s)), some (.str c), some (.loc 0), some (.str x), a, b] (.dic 0 (kvL 1 (acc ++ [x])) :: (acc.map (fun m => MObj.lst (rowD T L s c m)) ++ [.lst []])) := by
        have mk := mkL_own (xs := []) (h := hpL T L s c acc) (by decide)
        rw [hl1] at mk
        have pt : putD (.loc 0) (.str x) (.loc (1 + acc.length)) (hpL T L s c acc ++ [.lst []]) = some (.dic 0 (kvL 1 (acc ++ [x])) :: (acc.map (fun m => MObj.lst (rowD T L s c m)) ++ [.lst []])) := by
          have hb : acc.length < BIG := Nat.lt_of_lt_of_le (show acc.length < 101 by omega) (by decide)
          simp [putD, hpL, D.key, Ky.kind, kvL_put hxn, kvL_app, kvL_len, hb]
        simp [mk, pt]
      have s2 : evS (calls P (k + 1)) (.for (.name 6) (.val (.ix (.var 1) (.bin false .Sub (.int 1) (.var 2)))) lnB2) [some T.d, some L.d, some (.int (sI s)), some (.str c), some (.loc 0), some (.str x), a, b] (.dic 0 (kvL 1 (acc ++ [x])) :: (acc.map (fun m => MObj.lst (rowD T L s c m)) ++ [.lst []])) = _ := evFor (by simp [Lf.ix', sD]) e2
      have hh : (MObj.dic 0 (kvL 1 (acc ++ [x])) :: (acc.map (fun m => MObj.lst (rowD T L s c m)) ++ [.lst ([] ++ (L.nm !s).map fun t => .int (T.gn s x t - T.gn s c t))])) = hpL T L s c (acc ++ [x]) := by
        simp [hpL, rowD, rowI, Function.comp_def]
      rw [List.map_cons, forCons (okGd hgd) (bodyEq (σ' := [some T.d, some L.d, some (.int (sI s)), some (.str c), some (.loc 0), some (.str x), a, b]) (by simp [bindT]) (r := .nx [some T.d, some L.d, some (.int (sI s)), some (.str c), some (.loc 0), some (.str x), a1, b1] (hpL T L s c (acc ++ [x]))) ?_), e]
      · rw [List.filter_cons_of_pos (by simp [q])]
        simp
      · rw [lnB1]
        refine seqOne ?_
        have s12 : evSs (calls P (k + 1)) (.cons (.put (.var 4) (.var 5) (.lst true .nil)) (.cons (.for (.name 6) (.val (.ix (.var 1) (.bin false .Sub (.int 1) (.var 2)))) lnB2) .nil)) [some T.d, some L.d, some (.int (sI s)), some (.str c), some (.loc 0), some (.str x), a, b] (hpL T L s c acc) = .nx [some T.d, some L.d, some (.int (sI s)), some (.str c), some (.loc 0), some (.str x), a1, b1] (hpL T L s c (acc ++ [x])) := by
          rw [seqNx s1, seqOne s2, hh]
        rw [evS_ite]
        simp only [evE_cmp, evE_var, List.getElem?_cons_succ, List.getElem?_cons_zero, bindOk, cmp_ne, hq, Option.map_some, ofSome, tru_bl, flOk, beq_eq_false_iff_ne.mpr q, Bool.not_false, if_true, s12]
theorem fn_lines [hd : Hd P "_law_lines" 4 8 .pure b__law_lines] {h : MHeap} : (calls P (k + 2)).fn "_law_lines" [T.d, L.d, .int (sI s), .str c] h = .ok (linD T L s c) h := by
  obtain ⟨v5, a, b, e⟩ := lnLoop1 (P := P) (k := k) O F hc (its := ⟨(L.nm s).map .str, none⟩) rfl (L.nm s) none none none [] (fun _ h => h) (F.nd O s) (fun _ _ z => by cases z) (by have := F.le4 O s; simp; omega)
  obtain ⟨ps, hp, hl⟩ := hd.look
  refine fnPureF (h' := hpL T L s c (oth L s c)) (v := .loc 0) (d := ⟨ps, 8, .pure, b__law_lines⟩) hl rfl (by simp [hp]) (by simp) ?_ frz_hpL
  show (evSs (calls P (k + 1)) (.cons (.set 4 (.dic true 0 .nil)) (.cons (.for (.name 5) (.val (.ix (.var 1) (.var 2))) lnB1) (.cons (.ret (.var 4)) .nil))) [some T.d, some L.d, some (.int (sI s)), some (.str c), none, none, none, none] []).out = _
  have s1 : evS (calls P (k + 1)) (.set 4 (.dic true 0 .nil)) [some T.d, some L.d, some (.int (sI s)), some (.str c), none, none, none, none] [] = .nx [some T.d, some L.d, some (.int (sI s)), some (.str c), some (.loc 0), none, none, none] (hpL T L s c []) := by
    simp [dispD, pairUp, mkD, setE, hpL, kvL]
  have s2 : evS (calls P (k + 1)) (.for (.name 5) (.val (.ix (.var 1) (.var 2))) lnB1) [some T.d, some L.d, some (.int (sI s)), some (.str c), some (.loc 0), none, none, none] (hpL T L s c []) = _ := evFor (by simp [Lf.ix, sD]) e
  rw [seqNx s1, seqNx s2]
  simp [oth]
end
end Q

/-! _law_strikes. -/
namespace Q
open Lt PySem
def mnI : List Int → Int
  | [] => 0
  | i :: r => minI i r
def mxI : List Int → Int
  | [] => 0
  | i :: r => maxI i r
theorem minI_lt : ∀ (r : List Int) (i b : Int), (b < minI i r) ↔ (b < i ∧ ∀ x ∈ r, b < x)
  | [], i, b => by simp [minI]
  | j :: r, i, b => by
    rw [minI, minI_lt r]
    simp only [List.mem_cons, forall_eq_or_imp]
    split
    · exact ⟨fun h => ⟨by have := h.1; omega, h.1, h.2⟩, fun h => ⟨h.2.1, h.2.2⟩⟩
    · exact ⟨fun h => ⟨h.1, by have := h.1; omega, h.2⟩, fun h => ⟨h.1, h.2.2⟩⟩
theorem maxI_lt : ∀ (r : List Int) (i b : Int), (b < maxI i r) ↔ (b < i ∨ ∃ x ∈ r, b < x)
  | [], i, b => by simp [maxI]
  | j :: r, i, b => by
    rw [maxI, maxI_lt r]
    simp only [List.mem_cons, exists_eq_or_imp]
    split <;> constructor <;> intro h <;> rcases h with h | h
    · exact .inr (.inl h)
    · exact .inr (.inr h)
    · exact .inl (by omega)
    · rcases h with h | h
      · exact .inl h
      · exact .inr h
    · exact .inl h
    · exact .inr (.inr h)
    · exact .inl h
    · rcases h with h | h
      · exact .inl (by omega)
      · exact .inr h
theorem mnI_lt {l : List Int} (hl : l ≠ []) (b : Int) : decide (b < mnI l) = l.all fun x => decide (b < x) := by
  cases l with
  | nil => exact absurd rfl hl
  | cons i r =>
    rw [Bool.eq_iff_iff]
    simp [mnI, minI_lt]
theorem mxI_lt {l : List Int} (hl : l ≠ []) (b : Int) : decide (b < mxI l) = l.any fun x => decide (b < x) := by
  cases l with
  | nil => exact absurd rfl hl
  | cons i r =>
    rw [Bool.eq_iff_iff]
    simp [mxI, maxI_lt]
theorem intsD_map : ∀ l : List Int, intsD (l.map .int) = some l
  | [] => rfl
  | a :: r => by simp [intsD, intsD_map r]
theorem min_ok {l : List Int} (hl : l ≠ []) {own : Bool} {h : MHeap} : bltD own "min" [.lst (l.map .int)] h = .ok (.int (mnI l)) h := by
  cases l with
  | nil => exact absurd rfl hl
  | cons i r =>
    have := intsD_map (i :: r)
    simp only [bltD, minD, seqOf, this, mnI]
    rfl
theorem max_ok {l : List Int} (hl : l ≠ []) {own : Bool} {h : MHeap} : bltD own "max" [.lst (l.map .int)] h = .ok (.int (mxI l)) h := by
  cases l with
  | nil => exact absurd rfl hl
  | cons i r =>
    have := intsD_map (i :: r)
    simp only [bltD, maxD, seqOf, this, mxI]
    rfl
section
variable {T : Tb} {L : Lf} {s : Bool} {c m : Str} {h : MHeap}
theorem walk_lin : walkA (linD T L s c) h = .ok ⟨(oth L s c).map .str, none⟩ h := by
  simp [walkA, walkOf, keysOf, linD, Ky.d, Function.comp_def]
theorem find_map {f : Str → D} : ∀ {l : List Str}, m ∈ l → lookK (l.map fun x => (Ky.str x, f x)) (.str m) = some (f m)
  | a :: r, hm => by
    by_cases q : a = m
    · subst q
      simp [lookK, ky_beq]
    · have : m ∈ r := (List.mem_cons.mp hm).resolve_left fun z => q z.symm
      have ih := find_map (f := f) this
      simp only [lookK, List.map_cons] at ih ⊢
      rw [List.find?_cons_of_neg (by simp [ky_beq, q])]
      exact ih
theorem get_lin (hm : m ∈ oth L s c) : getD (linD T L s c) (.str m) h = some (.lst ((rowI T L s c m).map .int)) := by
  have := find_map (f := fun m => D.lst (rowD T L s c m)) hm
  simp only [getD, linD, itemsOf, seqOf, dicOf, D.key, Ky.kind, if_true, this]
  rfl
theorem row_ne (F : L.Of T) : rowI T L s c m ≠ [] := by
  have := F.ne !s
  simp only [rowI]
  exact fun z => this (List.map_eq_nil_iff.mp z)
theorem pos_more (F : L.Of T) : decide (0 < mnI (rowI T L s c m)) = moreB T L s m c := by
  rw [mnI_lt (row_ne F), rowI, List.all_map, moreB]
  congr 1
  funext t
  simp only [Function.comp_apply]
  exact decide_eq_decide.mpr (by omega)
theorem ge_even (F : L.Of T) : (decide (0 ≤ mnI (rowI T L s c m)) && decide (0 < mxI (rowI T L s c m))) = evenB T L s m c := by
  have e1 : decide (0 ≤ mnI (rowI T L s c m)) = decide (-1 < mnI (rowI T L s c m)) := decide_eq_decide.mpr (by omega)
  rw [e1, mnI_lt (row_ne F), mxI_lt (row_ne F), rowI, List.all_map, List.any_map, evenB]
  congr 1
  · congr 1
    funext t
    simp only [Function.comp_apply]
    exact decide_eq_decide.mpr (by omega)
  · congr 1
    funext t
    simp only [Function.comp_apply]
    exact decide_eq_decide.mpr (by omega)
theorem more_self (F : L.Of T) : moreB T L s c c = false := by
  have := F.ne !s
  simp only [moreB]
  cases hl : L.nm !s with
  | nil => exact absurd hl this
  | cons a r => simp
theorem even_self : evenB T L s c c = false := by
  simp [evenB]
theorem oth_more (F : L.Of T) : ((oth L s c).filter fun m => decide (0 < mnI (rowI T L s c m))) = bets T L s c := by
  rw [oth, List.filter_filter, bets]
  refine List.filter_congr fun m hm => ?_
  rw [pos_more F]
  by_cases q : m = c
  · subst q
    rw [more_self F]
    rfl
  · simp [q]
theorem oth_even (F : L.Of T) : ((oth L s c).filter fun m => decide (0 ≤ mnI (rowI T L s c m)) && decide (0 < mxI (rowI T L s c m))) = (L.nm s).filter fun m => evenB T L s m c := by
  rw [oth, List.filter_filter]
  refine List.filter_congr fun m hm => ?_
  rw [ge_even F]
  by_cases q : m = c
  · subst q
    rw [even_self]
    rfl
  · simp [q]
theorem any_filter {α : Type} {p : α → Bool} (l : List α) : l.any p = !(l.filter p).isEmpty := by
  induction l with
  | nil => rfl
  | cons a r ih =>
    rw [List.any_cons, List.filter_cons, ih]
    cases p a <;> simp
end
/-! ### _law_strikes -/
def lsC1 : ME := .comp false (.var 8) (.name 8) (.val (.var 6)) (.cons (.cmp .Gt (.blt false "min" (.cons (.ix (.var 6) (.var 8)) .nil)) (.int 0)) .nil) [8]
def lsC2 : ME := .comp false (.var 8) (.name 8) (.val (.var 6)) (.cons (.and (.cons (.cmp .GtE (.blt false "min" (.cons (.ix (.var 6) (.var 8)) .nil)) (.int 0)) (.cons (.cmp .Gt (.blt false "max" (.cons (.ix (.var 6) (.var 8)) .nil)) (.int 0)) .nil))) .nil) [8]
def lsA : MSs := .cons (.expr (.meth "append" (.var 3) (.cons (.tup (.cons (.var 4) (.cons (.var 5) .nil))) .nil))) .nil
def lsS1 : MS := .set 6 (.call "_law_lines" (.cons (.var 0) (.cons (.var 1) (.cons (.var 4) (.cons (.var 5) .nil)))))
def lsS2 : MS := .ite (.and (.cons (.cmp .Eq (.var 2) (.str (Str.ofString "plain"))) (.cons (.cmp .NotEq lsC1 (.lst false .nil)) .nil))) lsA .nil
def lsS4 : MS := .ite (.and (.cons (.cmp .Eq (.var 2) (.str (Str.ofString "even"))) (.cons (.cmp .NotEq (.var 7) (.lst false .nil)) .nil))) lsA .nil
def lsB2 : MSs := .cons lsS1 (.cons lsS2 (.cons (.set 7 lsC2) (.cons lsS4 .nil)))
def lsB1 : MSs := .cons (.for (.name 5) (.val (.ix (.var 1) (.var 4))) lsB2) .nil
section
variable {P : Prg} [Hd P "_law_gain" 4 6 .pure b_gained] [Hd P "_law_lines" 4 8 .pure b__law_lines] {k : Nat} {T : Tb} {L : Lf} {e s : Bool} {c : Str} (O : T.Ok) (F : L.Of T)
include O F
theorem oth_le : (oth L s c).length ≤ BIG := Nat.le_trans (List.length_filter_le _ _) (big4 (F.le4 O s))
theorem lsC1_ok {v7 v8 : Option D} {h : MHeap} : evE (calls P k) lsC1 [some T.d, some L.d, some (.str (ruS e)), some (.loc 0), some (.int (sI s)), some (.str c), some (linD T L s c), v7, v8] h = .ok (.lst ((bets T L s c).map .str)) h := by
  rw [lsC1, evCompT D.str (fun m => decide (0 < mnI (rowI T L s c m))) D.str (oth L s c) (gd := none) (by simp [walk_lin]) rfl ?_ (oth_le O F), oth_more F]
  · exact mkL_ok (by rw [List.length_map]; exact Nat.le_trans (List.length_filter_le _ _) (big4 (F.le4 O _)))
  · intro m hm
    exact ⟨[some T.d, some L.d, some (.str (ruS e)), some (.loc 0), some (.int (sI s)), some (.str c), some (linD T L s c), v7, some (.str m)], by simp [bindT, wipeE], by simp [get_lin hm, min_ok (row_ne F)], fun _ => by simp⟩
theorem lsC2_ok {v7 v8 : Option D} {h : MHeap} : evE (calls P k) lsC2 [some T.d, some L.d, some (.str (ruS e)), some (.loc 0), some (.int (sI s)), some (.str c), some (linD T L s c), v7, v8] h = .ok (.lst (((L.nm s).filter fun m => evenB T L s m c).map .str)) h := by
  rw [lsC2, evCompT D.str (fun m => decide (0 ≤ mnI (rowI T L s c m)) && decide (0 < mxI (rowI T L s c m))) D.str (oth L s c) (gd := none) (by simp [walk_lin]) rfl ?_ (oth_le O F), oth_even F]
  · exact mkL_ok (by rw [List.length_map]; exact Nat.le_trans (List.length_filter_le _ _) (big4 (F.le4 O _)))
  · intro m hm
    refine ⟨[some T.d, some L.d, some (.str (ruS e)), some (.loc 0), some (.int (sI s)), some (.str c), some (linD T L s c), v7, some (.str m)], by simp [bindT, wipeE], ?_, fun _ => by simp⟩
    by_cases q : 0 ≤ mnI (rowI T L s c m) <;> simp [get_lin hm, min_ok (row_ne F), max_ok (row_ne F), q]
theorem lsTurn (hc : c ∈ L.nm s) {v6 v7 v8 : Option D} {acc : List D} (ha : acc.length ≤ 50) : evSs (calls P (k + 2)) lsB2 [some T.d, some L.d, some (.str (ruS e)), some (.loc 0), some (.int (sI s)), some (.str c), v6, v7, v8] [.lst acc] = .nx [some T.d, some L.d, some (.str (ruS e)), some (.loc 0), some (.int (sI s)), some (.str c), some (linD T L s c), some (.lst (((L.nm s).filter fun m => evenB T L s m c).map .str)), v8] [.lst (acc ++ if mayB T L e s c then [stD s c] else [])] := by
  have two : ∀ (x y : D) (h : MHeap), mkT [x, y] h = .ok (.tup [x, y]) h := fun _ _ _ => rfl
  have mk0 : ∀ h, mkL false [] h = .ok (.lst []) h := fun h => rfl
  have s1 : evS (calls P (k + 2)) lsS1 [some T.d, some L.d, some (.str (ruS e)), some (.loc 0), some (.int (sI s)), some (.str c), v6, v7, v8] [.lst acc] = .nx [some T.d, some L.d, some (.str (ruS e)), some (.loc 0), some (.int (sI s)), some (.str c), some (linD T L s c), v7, v8] [.lst acc] := by
    simp [lsS1, fn_lines (P := P) O F hc, setE]
  have s3 : ∀ h, evS (calls P (k + 2)) (.set 7 lsC2) [some T.d, some L.d, some (.str (ruS e)), some (.loc 0), some (.int (sI s)), some (.str c), some (linD T L s c), v7, v8] h = .nx [some T.d, some L.d, some (.str (ruS e)), some (.loc 0), some (.int (sI s)), some (.str c), some (linD T L s c), some (.lst (((L.nm s).filter fun m => evenB T L s m c).map .str)), v8] h := fun h => by
    rw [evS_set, lsC2_ok O F]
    simp [setE]
  have ap : ∀ v7, evSs (calls P (k + 2)) lsA [some T.d, some L.d, some (.str (ruS e)), some (.loc 0), some (.int (sI s)), some (.str c), some (linD T L s c), v7, v8] [.lst acc] = .nx [some T.d, some L.d, some (.str (ruS e)), some (.loc 0), some (.int (sI s)), some (.str c), some (linD T L s c), v7, v8] [.lst (acc ++ [stD s c])] := fun v7 => by
    have a := appO (n := 0) (x := stD s c) (ys := acc) (h := [.lst acc]) rfl (Nat.lt_of_le_of_lt ha (by decide))
    have rc := rcvO (n := 0) (ys := acc) (h := [.lst acc]) rfl
    simp only [stD] at a ⊢
    simp [lsA, two, rc, a]
  have ql : ∀ (l : List Str) (h : MHeap), (∀ x ∈ l, okS x = true) → eqD h (.lst (l.map .str)) (.lst []) = some l.isEmpty := fun l h hl => by
    rw [eq_dd (x := .lst (l.map .str)) (y := .lst []) (okD_lstS hl) rfl]
    cases l <;> simp [res, deq, deqL]
  have okE : ∀ x ∈ (L.nm s).filter fun m => evenB T L s m c, okS x = true := fun x hx => F.okS O x (List.mem_filter.mp hx).1
  have c1 := fun h v7 => lsC1_ok (P := P) (k := k + 2) (e := e) (s := s) (c := c) (v7 := v7) (v8 := v8) (h := h) O F
  rw [lsB2, seqNx s1]
  cases e with
  | false =>
    have q0 : ∀ h, eqD h (.str (ruS false)) (.str (Str.ofString "plain")) = some true := fun h => eq_self rfl (by decide +kernel)
    have q1 : ∀ h, eqD h (.str (ruS false)) (.str (Str.ofString "even")) = some false := fun h => by
      rw [eq_ss (ruS_ok false) (by decide +kernel)]
      exact congrArg some (by decide +kernel)
    have hm : mayB T L false s c = !(bets T L s c).isEmpty := rfl
    have s2 : evS (calls P (k + 2)) lsS2 [some T.d, some L.d, some (.str (ruS false)), some (.loc 0), some (.int (sI s)), some (.str c), some (linD T L s c), v7, v8] [.lst acc] = .nx [some T.d, some L.d, some (.str (ruS false)), some (.loc 0), some (.int (sI s)), some (.str c), some (linD T L s c), v7, v8] [.lst (acc ++ if mayB T L false s c then [stD s c] else [])] := by
      rw [hm]
      cases q : (bets T L s c).isEmpty <;> simp [lsS2, q0, c1, mk0, ql _ _ (bets_ok O F), q, ap]
    have s4 : ∀ h, evS (calls P (k + 2)) lsS4 [some T.d, some L.d, some (.str (ruS false)), some (.loc 0), some (.int (sI s)), some (.str c), some (linD T L s c), some (.lst (((L.nm s).filter fun m => evenB T L s m c).map .str)), v8] h = .nx [some T.d, some L.d, some (.str (ruS false)), some (.loc 0), some (.int (sI s)), some (.str c), some (linD T L s c), some (.lst (((L.nm s).filter fun m => evenB T L s m c).map .str)), v8] h := fun h => by
      simp [lsS4, q1]
    rw [seqNx s2, seqNx (s3 _), seqOne (s4 _)]
  | true =>
    have q0 : ∀ h, eqD h (.str (ruS true)) (.str (Str.ofString "plain")) = some false := fun h => by
      rw [eq_ss (ruS_ok true) (by decide +kernel)]
      exact congrArg some (by decide +kernel)
    have q1 : ∀ h, eqD h (.str (ruS true)) (.str (Str.ofString "even")) = some true := fun h => eq_self rfl (by decide +kernel)
    have hm : mayB T L true s c = !((L.nm s).filter fun m => evenB T L s m c).isEmpty := any_filter _
    have s2 : evS (calls P (k + 2)) lsS2 [some T.d, some L.d, some (.str (ruS true)), some (.loc 0), some (.int (sI s)), some (.str c), some (linD T L s c), v7, v8] [.lst acc] = .nx [some T.d, some L.d, some (.str (ruS true)), some (.loc 0), some (.int (sI s)), some (.str c), some (linD T L s c), v7, v8] [.lst acc] := by
      simp [lsS2, q0]
    have s4 : evS (calls P (k + 2)) lsS4 [some T.d, some L.d, some (.str (ruS true)), some (.loc 0), some (.int (sI s)), some (.str c), some (linD T L s c), some (.lst (((L.nm s).filter fun m => evenB T L s m c).map .str)), v8] [.lst acc] = .nx [some T.d, some L.d, some (.str (ruS true)), some (.loc 0), some (.int (sI s)), some (.str c), some (linD T L s c), some (.lst (((L.nm s).filter fun m => evenB T L s m c).map .str)), v8] [.lst (acc ++ if mayB T L true s c then [stD s c] else [])] := by
      have qe := ql ((L.nm s).filter fun m => evenB T L s m c) [.lst acc] okE
      have ape := ap (some (.lst (((L.nm s).filter fun m => evenB T L s m c).map .str)))
      rw [hm]
      generalize (L.nm s).filter (fun m => evenB T L s m c) = l at *
      cases q : l.isEmpty <;> simp [lsS4, q1, mk0, qe, q, ape]
    rw [seqNx s2, seqNx (s3 _), seqOne s4]
end
end Q

/-! _law_strikes; what is left, drawn; sorted. -/
namespace Q
open Lt PySem
section
variable {P : Prg} [Hd P "_law_gain" 4 6 .pure b_gained] [Hd P "_law_lines" 4 8 .pure b__law_lines] {k : Nat} {T : Tb} {L : Lf} {e s : Bool} (O : T.Ok) (F : L.Of T)
include O F
theorem lsLoop {its : Items} (hgd : its.gd = none) {v8 : Option D} : ∀ (xs : List Str) (v5 v6 v7 : Option D) (acc : List D), (∀ x ∈ xs, x ∈ L.nm s) → acc.length + xs.length ≤ 50 → ∃ v5' v6' v7', forRun (bodyOf (calls P (k + 2)) (.name 5) lsB2) its (xs.map D.str) [some T.d, some L.d, some (.str (ruS e)), some (.loc 0), some (.int (sI s)), v5, v6, v7, v8] [.lst acc] = .nx [some T.d, some L.d, some (.str (ruS e)), some (.loc 0), some (.int (sI s)), v5', v6', v7', v8] [.lst (acc ++ (xs.filter (mayB T L e s)).map (stD s))]
  | [], v5, v6, v7, acc, _, _ => ⟨v5, v6, v7, by simp [forRun, okGd hgd]⟩
  | x :: r, v5, v6, v7, acc, hx, hl => by
    simp only [List.length_cons] at hl
    have t := lsTurn (P := P) (k := k) (e := e) O F (hx x List.mem_cons_self) (v6 := v6) (v7 := v7) (v8 := v8) (acc := acc) (by omega)
    obtain ⟨v5', v6', v7', q⟩ := lsLoop hgd r (some (.str x)) (some (linD T L s x)) (some (.lst (((L.nm s).filter fun m => evenB T L s m x).map .str))) (acc ++ if mayB T L e s x then [stD s x] else []) (fun y hy => hx y (List.mem_cons_of_mem _ hy)) (by
      rw [List.length_append]
      split <;> simp <;> omega)
    refine ⟨v5', v6', v7', ?_⟩
    rw [List.map_cons, forCons (okGd hgd) (bodyEq (σ' := [some T.d, some L.d, some (.str (ruS e)), some (.loc 0), some (.int (sI s)), some (.str x), v6, v7, v8]) (by simp [bindT]) t), q, List.filter_cons]
    split <;> simp
theorem fn_law_strikes [hd : Hd P "_law_strikes" 3 9 .pure b__law_strikes] {h : MHeap} : (calls P (k + 3)).fn "_law_strikes" [T.d, L.d, .str (ruS e)] h = .ok (.lst (sts T L e)) h := by
  have two : ∀ (x y : D) (h : MHeap), mkT [x, y] h = .ok (.tup [x, y]) h := fun _ _ _ => rfl
  have tn : ∀ (s : Bool) (v4 v5 v6 v7 v8 : Option D) (acc : List D), acc.length ≤ 10 → ∃ v5' v6' v7', bodyOf (calls P (k + 2)) (.name 4) lsB1 (.int (sI s)) [some T.d, some L.d, some (.str (ruS e)), some (.loc 0), v4, v5, v6, v7, v8] [.lst acc] = .nx [some T.d, some L.d, some (.str (ruS e)), some (.loc 0), some (.int (sI s)), v5', v6', v7', v8] [.lst (acc ++ stsS T L e s)] := fun s v4 v5 v6 v7 v8 acc ha => by
    obtain ⟨v5', v6', v7', q⟩ := lsLoop (P := P) (k := k) (e := e) (s := s) O F (its := ⟨(L.nm s).map .str, none⟩) rfl (v8 := v8) (L.nm s) v5 v6 v7 acc (fun _ h => h) (by have := F.le4 O s; omega)
    refine ⟨v5', v6', v7', bodyEq (σ' := [some T.d, some L.d, some (.str (ruS e)), some (.loc 0), some (.int (sI s)), v5, v6, v7, v8]) (by simp [bindT]) ?_⟩
    exact seqOne (evFor (by simp [Lf.ix, sD]) q)
  have sl : ∀ s, (stsS T L e s).length ≤ 4 := fun s => by rw [stsS, List.length_map]; exact Nat.le_trans (List.length_filter_le _ _) (F.le4 O s)
  obtain ⟨a5, a6, a7, e1⟩ := tn false none none none none none [] (by simp)
  obtain ⟨b5, b6, b7, e2⟩ := tn true (some (.int (sI false))) a5 a6 a7 none ([] ++ stsS T L e false) (by have := sl false; simp; omega)
  obtain ⟨ps, hp, hl⟩ := hd.look
  refine fnPureL (n := 0) (h' := [.lst (sts T L e)]) (d := ⟨ps, 9, .pure, b__law_strikes⟩) hl rfl (by simp [hp]) (by simp) ?_ rfl ?_
  · show (evSs (calls P (k + 2)) (.cons (.set 3 (.lst true .nil)) (.cons (.for (.name 4) (.val (.tup (.cons (.int 0) (.cons (.int 1) .nil)))) lsB1) (.cons (.ret (.var 3)) .nil))) [some T.d, some L.d, some (.str (ruS e)), none, none, none, none, none, none] []).out = _
    have s1 : evS (calls P (k + 2)) (.set 3 (.lst true .nil)) [some T.d, some L.d, some (.str (ruS e)), none, none, none, none, none, none] [] = .nx [some T.d, some L.d, some (.str (ruS e)), some (.loc 0), none, none, none, none, none] [.lst []] := by
      simp [mkL_own (xs := []) (by decide), setE]
    have s2 : evS (calls P (k + 2)) (.for (.name 4) (.val (.tup (.cons (.int 0) (.cons (.int 1) .nil)))) lsB1) [some T.d, some L.d, some (.str (ruS e)), some (.loc 0), none, none, none, none, none] [.lst []] = .nx [some T.d, some L.d, some (.str (ruS e)), some (.loc 0), some (.int (sI true)), b5, b6, b7, none] [.lst (sts T L e)] := by
      refine evFor (its := ⟨[.int (sI false), .int (sI true)], none⟩) (h1 := [.lst []]) (by simp [two]) ?_
      show forRun _ _ [.int (sI false), .int (sI true)] _ _ = _
      rw [forCons rfl e1, forCons rfl e2, forNil rfl]
      rfl
    rw [seqNx s1, seqNx s2]
    simp
  · refine freeL_iff.mpr fun d hd => ?_
    simp only [sts, stsS, List.mem_append, List.mem_map] at hd
    rcases hd with ⟨c, _, rfl⟩ | ⟨c, _, rfl⟩ <;> rfl
end
/-! ### names in order -/
def subsS : List Str → List (List Str)
  | [] => [[]]
  | x :: r => subsS r ++ (subsS r).map (x :: ·)
theorem subS_mem {l m : List Str} (h : l.Sublist m) : l ∈ subsS m := by
  induction h with
  | slnil => simp [subsS]
  | cons a _ ih => simp [subsS, ih]
  | cons_cons a _ ih => simp [subsS, ih]
theorem subS_all {p : List Str → Bool} {l m : List Str} (h : l.Sublist m) (q : (subsS m).all p = true) : p l = true := List.all_eq_true.mp q l (subS_mem h)
def allN (s : Bool) : List Str := if s then redS else catS
theorem ord_ok {l : List Str} {s : Bool} (h : l.Sublist (allN s)) : risS l = true ∧ sortS l = l := by
  have := subS_all (p := fun l => risS l && decide (sortS l = l)) h (by cases s <;> decide +kernel)
  simpa using this
theorem Tb.Dr.sub {T : Tb} (h : T.Dr 4) (s : Bool) : (T.nm s).Sublist (allN s) := by
  cases s with
  | false =>
    obtain ⟨i, _, e⟩ := h.o
    show T.os.Sublist catS
    rw [e]
    exact List.take_sublist _ _
  | true =>
    obtain ⟨i, _, e⟩ := h.t
    show T.ts.Sublist redS
    rw [e]
    exact List.take_sublist _ _
/-- what is left, drawn -/
theorem fn_left {P : Prg} [Hf P "_law_draw" d__law_draw] {p1 p2 p3 : String} [Hf P "_law_some" ⟨[p1, p2, p3], 7, .trunc, b__law_some⟩] {k : Nat} {ns : List Int} (hns : ns.length ≤ 63) {T : Tb} (h4 : T.Dr 4) {rests : List (Ky × D)} {is : List Nat} {c : Int} {tl : MHeap} (hr : RestsOk rests is) (ht : TlF tl) :
    ∃ (L : Lf) (rests' : List (Ky × D)) (is' : List Nat) (c' : Int), (calls P (k + 2)).fn "_law_some" [.scr ns, .loc 1, T.d] (tw rests c tl) = .ok L.d (tw rests' c' tl) ∧ RestsOk rests' is' ∧ L.Of T := by
  have O := h4.ok
  have smo : ∀ (s : Bool), ∀ x ∈ (T.nm s).map D.str, sm 0 x = true := fun s x hx => by
    obtain ⟨y, hy, rfl⟩ := List.mem_map.mp hx
    exact okS_sm (O.nms s y hy)
  have ne : ∀ {l : List Str}, 1 ≤ l.length → l.map D.str ≠ [] := fun h z => by
    rw [List.map_eq_nil_iff.mp z] at h
    simp at h
  obtain ⟨a, b, r', i', c', e, hr', ha, hb⟩ := fn_some (P := P) (k := k) Hf.look hns ht (p1 := p1) (p2 := p2) (p3 := p3) Hf.look (os := T.os.map .str) (ts := T.ts.map .str) (cells := .tup (T.cs.map rD)) (c := c) hr (by have := O.o4; simp; omega) (by have := O.t4; simp; omega) (ne O.o1) (ne O.t1) (smo false) (smo true)
  obtain ⟨la, sa, rfl⟩ := List.sublist_map_iff.mp ha.2
  obtain ⟨lb, sb, rfl⟩ := List.sublist_map_iff.mp hb.2
  refine ⟨⟨la, lb⟩, r', i', c', e, hr', fun s => ?_, fun s => ?_, fun s => ?_⟩
  · cases s
    · exact sa
    · exact sb
  · cases s
    · exact fun z => ha.1 (by rw [show la = [] from z]; rfl)
    · exact fun z => hb.1 (by rw [show lb = [] from z]; rfl)
  · cases s
    · exact (ord_ok (s := false) (sa.trans (h4.sub false))).1
    · exact (ord_ok (s := true) (sb.trans (h4.sub true))).1
theorem keyS_map {f : Str → D} : ∀ l : List Str, keyS (l.map fun m => (Ky.str m, f m)) = some l
  | [] => rfl
  | a :: r => by simp [keyS, keyS_map r]
theorem sorted_ok {T : Tb} {L : Lf} {s : Bool} {c : Str} (h4 : T.Dr 4) (F : L.Of T) {h : MHeap} : bltD false "sorted" [linD T L s c] h = .ok (.lst ((oth L s c).map .str)) h := by
  have e : sortS (oth L s c) = oth L s c := (ord_ok (s := s) (List.filter_sublist.trans ((F.sub s).trans (h4.sub s)))).2
  have hl : (oth L s c).length ≤ 4 := Nat.le_trans (List.length_filter_le _ _) (F.le4 h4.ok s)
  show sortD false (linD T L s c) h = _
  simp only [sortD, linD, dicOf, keyS_map]
  rw [if_pos (by omega), e]
  exact mkL_ok (by rw [List.length_map]; exact big4 hl)
end Q

/-! Tables in which a choice gains other numbers. -/
namespace Q
open Lt PySem

/-! ### the plain tables -/
def Tb.at (T : Tb) (i j : Nat) : Cell := ((T.cs[i]?).getD [])[j]?.getD (0, 0)
/-- the cell with other numbers of a choice -/
def Tb.wc (T : Tb) (s : Bool) (m : Str) (nums : List Int) (i j : Nat) : Cell :=
  if s then (if T.ts[j]? = some m then ((T.at i j).1, (nums[i]?).getD 0) else T.at i j)
  else (if T.os[i]? = some m then ((nums[j]?).getD 0, (T.at i j).2) else T.at i j)
def Tb.wn (T : Tb) (s : Bool) (m : Str) (nums : List Int) : Tb :=
  ⟨T.os, T.ts, (List.range T.os.length).map fun i => (List.range T.ts.length).map fun j => T.wc s m nums i j⟩
theorem Tb.Ok.cellAt {T : Tb} (O : T.Ok) {i j : Nat} (hi : i < T.os.length) (hj : j < T.ts.length) : ∃ r, T.cs[i]? = some r ∧ r ∈ T.cs ∧ r[j]? = some (T.at i j) ∧ T.at i j ∈ r := by
  have h : i < T.cs.length := by rw [O.cl]; exact hi
  have hr : j < (T.cs[i]).length := by rw [O.rl _ (List.getElem_mem h)]; exact hj
  have e : T.at i j = T.cs[i][j] := by simp only [Tb.at, List.getElem?_eq_getElem h, Option.getD_some, List.getElem?_eq_getElem hr]
  exact ⟨T.cs[i], List.getElem?_eq_getElem h, List.getElem_mem h, by rw [e, List.getElem?_eq_getElem hr], by rw [e]; exact List.getElem_mem hr⟩
theorem Tb.wn_nm (T : Tb) (s : Bool) (m : Str) (nums : List Int) (s' : Bool) : (T.wn s m nums).nm s' = T.nm s' := by cases s' <;> rfl
theorem Tb.Ok.wn {T : Tb} (O : T.Ok) {s : Bool} {m : Str} {nums : List Int} (hn : ∀ x ∈ nums, -99 ≤ x ∧ x ≤ 99) : (T.wn s m nums).Ok := by
  refine ⟨O.o1, O.o4, O.t1, O.t4, O.on, O.tn, O.os, O.ts, by simp [Tb.wn], fun r hr => ?_, fun r hr c hc => ?_⟩
  · simp only [Tb.wn, List.mem_map] at hr
    obtain ⟨i, _, rfl⟩ := hr
    simp [Tb.wn]
  · simp only [Tb.wn, List.mem_map, List.mem_range] at hr
    obtain ⟨i, hi, rfl⟩ := hr
    simp only [List.mem_map, List.mem_range] at hc
    obtain ⟨j, hj, rfl⟩ := hc
    obtain ⟨r, _, h1, _, h2⟩ := O.cellAt hi hj
    have b := O.b r h1 _ h2
    have g : ∀ k : Nat, -99 ≤ (nums[k]?).getD 0 ∧ (nums[k]?).getD 0 ≤ 99 := fun k => by
      cases q : nums[k]? with
      | none => exact ⟨by simp, by simp⟩
      | some x => exact hn x (List.mem_of_getElem? q)
    have gi := g i
    have gj := g j
    unfold Tb.wc
    cases s <;> simp only [Bool.false_eq_true, if_false, if_true] <;> split <;> (refine ⟨?_, ?_, ?_, ?_⟩ <;> first | exact b.1 | exact b.2.1 | exact b.2.2.1 | exact b.2.2.2 | exact gi.1 | exact gi.2 | exact gj.1 | exact gj.2)

/-! ### with_numbers -/
def eP (p : Str × Nat) : D := pairD (.int (p.2 : Int)) (.str p.1)
theorem enumD_eq : ∀ (l : List Str) (n : Nat), enumD (l.map D.str) n = (l.zipIdx n).map eP
  | [], _ => rfl
  | x :: r, n => by rw [List.map_cons, enumD, enumD_eq r (n + 1), List.zipIdx_cons, List.map_cons]; rfl
def wnB2 : MSs :=
  .cons (.set 13 (.ix (.ix (.var 6) (.var 8)) (.var 11)))
  (.cons (.ite (.and (.cons (.cmp .Eq (.var 1) (.int 0)) (.cons (.cmp .Eq (.var 9) (.var 2)) .nil))) (.cons (.set 13 (.tup (.cons (.ix (.var 3) (.var 11)) (.cons (.ix (.var 13) (.int 1)) .nil)))) .nil) .nil)
  (.cons (.ite (.and (.cons (.cmp .Eq (.var 1) (.int 1)) (.cons (.cmp .Eq (.var 12) (.var 2)) .nil))) (.cons (.set 13 (.tup (.cons (.ix (.var 13) (.int 0)) (.cons (.ix (.var 3) (.var 8)) .nil)))) .nil) .nil)
  (.cons (.expr (.meth "append" (.var 10) (.cons (.var 13) .nil))) .nil)))
def wnB1 : MSs :=
  .cons (.set 10 (.lst true .nil)) (.cons (.for (.tup [.name 11, .name 12]) (.enum (.var 5)) wnB2) (.cons (.expr (.meth "append" (.var 7) (.cons (.blt false "tuple" (.cons (.var 10) .nil)) .nil))) .nil))
/-- what stands in the slots and in the line -/
structure WnS where
  line : List Cell
  p : Option D
  o : Option D
  c : Option D
def WnS.step (T : Tb) (s : Bool) (m : Str) (nums : List Int) (i : Nat) (t : WnS) (x : Str × Nat) : WnS := ⟨t.line ++ [T.wc s m nums i x.2], some (.int x.2), some (.str x.1), some (cD (T.wc s m nums i x.2))⟩
theorem WnS.line_fold (T : Tb) (s : Bool) (m : Str) (nums : List Int) (i : Nat) : ∀ (l : List (Str × Nat)) (t : WnS), (l.foldl (WnS.step T s m nums i) t).line = t.line ++ l.map fun x => T.wc s m nums i x.2
  | [], t => by simp
  | x :: r, t => by rw [List.foldl_cons, WnS.line_fold T s m nums i r]; simp [WnS.step]
section
variable {C : Calls} {T : Tb} {s : Bool} {m : Str} {nums : List Int} {nD : D} {h0 : MHeap}
/-- the numbers are read whatever stands behind h0 -/
def NumsAt (nD : D) (nums : List Int) (h0 : MHeap) : Prop := ∀ (ex : MHeap) (j : Nat), j < nums.length → getD nD (.int (j : Int)) (h0 ++ ex) = some (.int ((nums[j]?).getD 0))
theorem wnTurn (O : T.Ok) (hm : okS m = true) {H H' : MHeap} {ln : Nat} {i j : Nat} {one oth : Str} (hi : i < T.os.length) (hj : j < T.ts.length) (e1 : T.os[i]? = some one) (e2 : T.ts[j]? = some oth)
    (nj : s = false → getD nD (.int (j : Int)) H = some (.int ((nums[j]?).getD 0))) (ni : s = true → getD nD (.int (i : Int)) H = some (.int ((nums[i]?).getD 0))) (rc : recvD "append" (.loc ln) H = true) (ap : methD "append" (.loc ln) [cD (T.wc s m nums i j)] H = .ok .non H') {f : Nat} {a : Option D} :
    evSs C wnB2 [some T.d, some (.int (sI s)), some (.str m), some nD, some (sD T.os), some (sD T.ts), some (.tup (T.cs.map rD)), some (.loc f), some (.int (i : Int)), some (.str one), some (.loc ln), some (.int (j : Int)), some (.str oth), a] H
      = .nx [some T.d, some (.int (sI s)), some (.str m), some nD, some (sD T.os), some (sD T.ts), some (.tup (T.cs.map rD)), some (.loc f), some (.int (i : Int)), some (.str one), some (.loc ln), some (.int (j : Int)), some (.str oth), some (cD (T.wc s m nums i j))] H' := by
  obtain ⟨r, q1, _, q2, _⟩ := O.cellAt hi hj
  have g1 : L2.atI (T.cs.map rD) (i : Int) = some (.tup (r.map cD)) := by rw [at_nat, List.getElem?_map, q1]; rfl
  have g2 : L2.atI (r.map cD) (j : Int) = some (cD (T.at i j)) := by rw [at_nat, List.getElem?_map, q2]; rfl
  have c0 : ∀ c : Cell, L2.atI [D.int c.1, D.int c.2] 0 = some (.int c.1) := fun c => at0
  have c1 : ∀ c : Cell, L2.atI [D.int c.1, D.int c.2] 1 = some (.int c.2) := fun c => at1
  have two : ∀ (x y : D) (h : MHeap), mkT [x, y] h = .ok (.tup [x, y]) h := fun _ _ _ => rfl
  have o1 : okS one = true := O.os one (List.mem_of_getElem? e1)
  have o2 : okS oth = true := O.ts oth (List.mem_of_getElem? e2)
  have s1 : evS C (.set 13 (.ix (.ix (.var 6) (.var 8)) (.var 11))) [some T.d, some (.int (sI s)), some (.str m), some nD, some (sD T.os), some (sD T.ts), some (.tup (T.cs.map rD)), some (.loc f), some (.int (i : Int)), some (.str one), some (.loc ln), some (.int (j : Int)), some (.str oth), a] H
      = .nx [some T.d, some (.int (sI s)), some (.str m), some nD, some (sD T.os), some (sD T.ts), some (.tup (T.cs.map rD)), some (.loc f), some (.int (i : Int)), some (.str one), some (.loc ln), some (.int (j : Int)), some (.str oth), some (cD (T.at i j))] H := by
    simp [g1, g2, setE]
  rw [wnB2, seqNx s1]
  cases s with
  | false =>
    have nj := nj rfl
    by_cases q : one = m
    · subst q
      have qs : ∀ h, eqD h (.str one) (.str one) = some true := fun h => by rw [eq_ss o1 o1]; simp
      have w : T.wc false one nums i j = ((nums[j]?).getD 0, (T.at i j).2) := by simp [Tb.wc, e1]
      rw [w] at ap ⊢
      simp only [cD] at ap ⊢
      simp [qs, nj, c1, two, setE, rc, ap]
    · have qs : ∀ h, eqD h (.str one) (.str m) = some false := fun h => by rw [eq_ss o1 hm]; simp [q]
      have w : T.wc false m nums i j = T.at i j := by simp [Tb.wc, e1, q]
      rw [w] at ap ⊢
      simp [qs, rc, ap]
  | true =>
    have ni := ni rfl
    by_cases q : oth = m
    · subst q
      have qs : ∀ h, eqD h (.str oth) (.str oth) = some true := fun h => by rw [eq_ss o2 o2]; simp
      have w : T.wc true oth nums i j = ((T.at i j).1, (nums[i]?).getD 0) := by simp [Tb.wc, e2]
      rw [w] at ap ⊢
      simp only [cD] at ap ⊢
      simp [qs, ni, c0, two, setE, rc, ap]
    · have qs : ∀ h, eqD h (.str oth) (.str m) = some false := fun h => by rw [eq_ss o2 hm]; simp [q]
      have w : T.wc true m nums i j = T.at i j := by simp [Tb.wc, e2, q]
      rw [w] at ap ⊢
      simp [qs, rc, ap]
theorem zipIdx_at {l : List Str} : ∀ {x : Str × Nat} {n : Nat}, x ∈ l.zipIdx n → n ≤ x.2 ∧ l[x.2 - n]? = some x.1 ∧ x.2 - n < l.length := by
  intro x n h
  obtain ⟨h1, h2, h3⟩ := List.mem_zipIdx h
  exact ⟨h1, by rw [List.getElem?_eq_getElem (by omega)]; simp [h3], by omega⟩
theorem hp_at (h ex : MHeap) (o : MObj) : (h ++ o :: ex)[h.length]? = some o := by simp
theorem hp_set (h ex : MHeap) (o o' : MObj) : (h ++ o :: ex).set h.length o' = h ++ o' :: ex := by rw [List.set_append_right _ _ (Nat.le_refl _)]; simp
/-- one line -/
theorem wnLine (O : T.Ok) (hm : okS m = true) (hn : NumsAt nD nums h0) (hl : nums.length = (T.nm !s).length) {i : Nat} {one : Str} (hi : i < T.os.length) (e1 : T.os[i]? = some one) {ex : MHeap} {rows : List D} {v10 v11 v12 v13 : Option D} (hr : rows.length ≤ 8) :
    ∃ a10 a11 a12 a13, evSs C wnB1 [some T.d, some (.int (sI s)), some (.str m), some nD, some (sD T.os), some (sD T.ts), some (.tup (T.cs.map rD)), some (.loc h0.length), some (.int (i : Int)), some (.str one), v10, v11, v12, v13] (h0 ++ .lst rows :: ex)
      = .nx [some T.d, some (.int (sI s)), some (.str m), some nD, some (sD T.os), some (sD T.ts), some (.tup (T.cs.map rD)), some (.loc h0.length), some (.int (i : Int)), some (.str one), a10, a11, a12, a13] (h0 ++ .lst (rows ++ [rD ((List.range T.ts.length).map (T.wc s m nums i))]) :: (ex ++ [.lst (((List.range T.ts.length).map (T.wc s m nums i)).map cD)])) := by
  let hA : MHeap := h0 ++ .lst rows :: ex
  let hp : WnS → MHeap := fun t => hA ++ .lst (t.line.map cD) :: []
  let env : WnS → Lt.Env := fun t => [some T.d, some (.int (sI s)), some (.str m), some nD, some (sD T.os), some (sD T.ts), some (.tup (T.cs.map rD)), some (.loc h0.length), some (.int (i : Int)), some (.str one), some (.loc hA.length), t.p, t.o, t.c]
  have key := forT (f := bodyOf C (.tup [.name 11, .name 12]) wnB2) (its := ⟨enumD (T.ts.map D.str) 0, none⟩) eP env hp (fun _ => rfl) (WnS.step T s m nums i) (T.ts.zipIdx 0) ⟨[], v11, v12, v13⟩ ?_
  · have el : (List.foldl (WnS.step T s m nums i) ⟨[], v11, v12, v13⟩ (T.ts.zipIdx 0)).line = (List.range T.ts.length).map (T.wc s m nums i) := by
      rw [WnS.line_fold, List.nil_append]
      refine List.ext_getElem (by simp) fun j h1 h2 => ?_
      simp
    have s1 : evS C (.set 10 (.lst true .nil)) [some T.d, some (.int (sI s)), some (.str m), some nD, some (sD T.os), some (sD T.ts), some (.tup (T.cs.map rD)), some (.loc h0.length), some (.int (i : Int)), some (.str one), v10, v11, v12, v13] hA = .nx (env ⟨[], v11, v12, v13⟩) (hp ⟨[], v11, v12, v13⟩) := by
      rw [evS_set, evE_lst, evEs_nil, bindOk, mkL_own (xs := []) (by decide), flOk]
      rfl
    have s2 : evS C (.for (.tup [.name 11, .name 12]) (.enum (.var 5)) wnB2) (env ⟨[], v11, v12, v13⟩) (hp ⟨[], v11, v12, v13⟩) = .nx (env (List.foldl (WnS.step T s m nums i) ⟨[], v11, v12, v13⟩ (T.ts.zipIdx 0))) (hp (List.foldl (WnS.step T s m nums i) ⟨[], v11, v12, v13⟩ (T.ts.zipIdx 0))) := by
      refine evFor (its := ⟨enumD (T.ts.map D.str) 0, none⟩) (h1 := hp ⟨[], v11, v12, v13⟩) (by simp [env, sD]) ?_
      rw [enumD_eq] at key ⊢
      exact key
    generalize List.foldl (WnS.step T s m nums i) ⟨[], v11, v12, v13⟩ (T.ts.zipIdx 0) = t at el s2
    have tu : ∀ h, h[hA.length]? = some (.lst (t.line.map cD)) → bltD false "tuple" [.loc hA.length] h = .ok (rD ((List.range T.ts.length).map (T.wc s m nums i))) h := fun h e => by rw [blt_tupO e, el]; rfl
    have eh : hp t = h0 ++ .lst rows :: (ex ++ [.lst (t.line.map cD)]) := by simp [hp, hA]
    have rc : recvD "append" (.loc h0.length) (hp t) = true := rcvO (by rw [eh]; exact hp_at _ _ _)
    have ap : ∀ x, methD "append" (.loc h0.length) [x] (hp t) = .ok .non (h0 ++ .lst (rows ++ [x]) :: (ex ++ [.lst (t.line.map cD)])) := fun x => by
      rw [appO (by rw [eh]; exact hp_at _ _ _) (Nat.lt_of_le_of_lt hr (by decide)), eh, hp_set]
    have s3 : evS C (.expr (.meth "append" (.var 7) (.cons (.blt false "tuple" (.cons (.var 10) .nil)) .nil))) (env t) (hp t) = .nx (env t) (h0 ++ .lst (rows ++ [rD ((List.range T.ts.length).map (T.wc s m nums i))]) :: (ex ++ [.lst (t.line.map cD)])) := by
      have tt := tu (hp t) (hp_at _ _ _)
      simp [env, rc, tt, ap]
    refine ⟨some (.loc hA.length), t.p, t.o, t.c, ?_⟩
    rw [wnB1, seqNx s1, seqNx s2, seqOne s3, el]
  · intro as x bs e
    generalize hg : List.foldl (WnS.step T s m nums i) ⟨[], v11, v12, v13⟩ as = t
    have hx : x ∈ T.ts.zipIdx 0 := by rw [e]; simp
    obtain ⟨_, e2, hj⟩ := zipIdx_at hx
    simp only [Nat.sub_zero] at e2 hj
    have tl : t.line.length ≤ 8 := by
      have : t.line.length = as.length := by rw [← hg, WnS.line_fold]; simp
      have l2 : (T.ts.zipIdx 0).length = as.length + (bs.length + 1) := by rw [e]; simp
      have := O.t4
      simp at l2
      omega
    refine bodyEq (σ' := [some T.d, some (.int (sI s)), some (.str m), some nD, some (sD T.os), some (sD T.ts), some (.tup (T.cs.map rD)), some (.loc h0.length), some (.int (i : Int)), some (.str one), some (.loc hA.length), some (.int (x.2 : Int)), some (.str x.1), t.c]) (by simp [env, eP, pairD, bindT, bindTs]) ?_
    refine wnTurn O hm (H := hp t) hi hj e1 e2 (fun z => ?_) (fun z => ?_) (rcvO (hp_at _ _ _)) ?_
    · subst z
      have := hn (.lst rows :: ex ++ [.lst (t.line.map cD)]) x.2 (by rw [hl]; exact hj)
      simpa [hp, hA] using this
    · subst z
      have := hn (.lst rows :: ex ++ [.lst (t.line.map cD)]) i (by rw [hl]; exact hi)
      simpa [hp, hA] using this
    · rw [appO (hp_at _ _ _) (Nat.lt_of_le_of_lt (show (t.line.map cD).length ≤ 8 by simpa using tl) (by decide)), hp_set]
      simp [hp, WnS.step]
/-- all lines -/
theorem wnLoop (O : T.Ok) (hm : okS m = true) (hn : NumsAt nD nums h0) (hl : nums.length = (T.nm !s).length) {its : Items} (hgd : its.gd = none) : ∀ (xs : List (Str × Nat)) (rows : List D) (ex : MHeap) (v8 v9 v10 v11 v12 v13 : Option D), (∀ x ∈ xs, x.2 < T.os.length ∧ T.os[x.2]? = some x.1) → rows.length + xs.length ≤ 8 →
    ∃ a8 a9 a10 a11 a12 a13 ex', forRun (bodyOf C (.tup [.name 8, .name 9]) wnB1) its (xs.map eP) [some T.d, some (.int (sI s)), some (.str m), some nD, some (sD T.os), some (sD T.ts), some (.tup (T.cs.map rD)), some (.loc h0.length), v8, v9, v10, v11, v12, v13] (h0 ++ .lst rows :: ex)
      = .nx [some T.d, some (.int (sI s)), some (.str m), some nD, some (sD T.os), some (sD T.ts), some (.tup (T.cs.map rD)), some (.loc h0.length), a8, a9, a10, a11, a12, a13] (h0 ++ .lst (rows ++ xs.map fun x => rD ((List.range T.ts.length).map (T.wc s m nums x.2))) :: ex')
  | [], rows, ex, v8, v9, v10, v11, v12, v13, _, _ => ⟨v8, v9, v10, v11, v12, v13, ex, by simp [forRun, okGd hgd]⟩
  | x :: r, rows, ex, v8, v9, v10, v11, v12, v13, hx, hr => by
    simp only [List.length_cons] at hr
    obtain ⟨h1, h2⟩ := hx x List.mem_cons_self
    obtain ⟨a10, a11, a12, a13, q⟩ := wnLine (C := C) O hm hn hl h1 h2 (ex := ex) (rows := rows) (v10 := v10) (v11 := v11) (v12 := v12) (v13 := v13) (by omega)
    obtain ⟨b8, b9, b10, b11, b12, b13, ex', q2⟩ := wnLoop O hm hn hl hgd r (rows ++ [rD ((List.range T.ts.length).map (T.wc s m nums x.2))]) (ex ++ [.lst (((List.range T.ts.length).map (T.wc s m nums x.2)).map cD)]) (some (.int (x.2 : Int))) (some (.str x.1)) a10 a11 a12 a13 (fun y hy => hx y (List.mem_cons_of_mem _ hy)) (by simp; omega)
    refine ⟨b8, b9, b10, b11, b12, b13, ex', ?_⟩
    rw [List.map_cons, forCons (okGd hgd) (bodyEq (σ' := [some T.d, some (.int (sI s)), some (.str m), some nD, some (sD T.os), some (sD T.ts), some (.tup (T.cs.map rD)), some (.loc h0.length), some (.int (x.2 : Int)), some (.str x.1), v10, v11, v12, v13]) (by simp [eP, pairD, bindT, bindTs]) q), q2]
    simp
theorem take_app (h ex : MHeap) : (h ++ ex).take h.length = h := by simp
theorem fn_with_numbers {P : Prg} [Hf P "with_numbers" d_with_numbers] {k : Nat} (O : T.Ok) (hm : okS m = true) (hn : NumsAt nD nums h0) (hl : nums.length = (T.nm !s).length) (hlow : h0.all (MObj.low h0.length) = true) :
    (calls P (k + 1)).fn "with_numbers" [T.d, .int (sI s), .str m, nD] h0 = .ok (T.wn s m nums).d h0 := by
  obtain ⟨a8, a9, a10, a11, a12, a13, ex', q⟩ := wnLoop (C := calls P k) O hm hn hl (its := ⟨enumD (T.os.map D.str) 0, none⟩) rfl (T.os.zipIdx 0) [] [] none none none none none none (fun x hx => by
    obtain ⟨_, h2, h3⟩ := zipIdx_at hx
    simp only [Nat.sub_zero] at h2 h3
    exact ⟨h3, h2⟩) (by simp; have := O.o4; omega)
  have er : (T.os.zipIdx 0).map (fun x => rD ((List.range T.ts.length).map (T.wc s m nums x.2))) = (T.wn s m nums).cs.map rD := by
    rw [Tb.wn]
    refine List.ext_getElem (by simp) fun j h1 h2 => ?_
    simp
  have hh : (h0 ++ .lst ((T.wn s m nums).cs.map rD) :: ex')[h0.length]? = some (.lst ((T.wn s m nums).cs.map rD)) := hp_at _ _ _
  have key := fnTrunc (P := P) (k := k) (f := "with_numbers") (d := d_with_numbers) (xs := [T.d, .int (sI s), .str m, nD]) (h := h0) (h' := h0 ++ .lst ((T.wn s m nums).cs.map rD) :: ex') (v := (T.wn s m nums).d) (v' := (T.wn s m nums).d) Hf.look rfl rfl ?_ (by simp) (by rw [take_app]; exact hlow) (frz_free (Tb.free _))
  · rw [key, take_app]
  · show (evSs (calls P k) (.cons (.unp [.name 4, .name 5, .name 6] (.var 0)) (.cons (.set 7 (.lst true .nil)) (.cons (.for (.tup [.name 8, .name 9]) (.enum (.var 4)) wnB1) (.cons (.ret (.tup (.cons (.var 4) (.cons (.var 5) (.cons (.blt false "tuple" (.cons (.var 7) .nil)) .nil))))) .nil))))
      [some T.d, some (.int (sI s)), some (.str m), some nD, none, none, none, none, none, none, none, none, none, none] h0).out = _
    have s1 : evS (calls P k) (.unp [.name 4, .name 5, .name 6] (.var 0)) [some T.d, some (.int (sI s)), some (.str m), some nD, none, none, none, none, none, none, none, none, none, none] h0 = .nx [some T.d, some (.int (sI s)), some (.str m), some nD, some (sD T.os), some (sD T.ts), some (.tup (T.cs.map rD)), none, none, none, none, none, none, none] h0 := by
      simp [Tb.d, bindT, bindTs]
    have s2 : evS (calls P k) (.set 7 (.lst true .nil)) [some T.d, some (.int (sI s)), some (.str m), some nD, some (sD T.os), some (sD T.ts), some (.tup (T.cs.map rD)), none, none, none, none, none, none, none] h0 = .nx [some T.d, some (.int (sI s)), some (.str m), some nD, some (sD T.os), some (sD T.ts), some (.tup (T.cs.map rD)), some (.loc h0.length), none, none, none, none, none, none] (h0 ++ .lst [] :: []) := by
      rw [evS_set, evE_lst, evEs_nil, bindOk, mkL_own (xs := []) (by decide), flOk]
      simp [setE]
    rw [List.nil_append, er] at q
    have s3 := evFor (C := calls P k) (r := .nx [some T.d, some (.int (sI s)), some (.str m), some nD, some (sD T.os), some (sD T.ts), some (.tup (T.cs.map rD)), some (.loc h0.length), a8, a9, a10, a11, a12, a13] (h0 ++ .lst ((T.wn s m nums).cs.map rD) :: ex')) (tg := .tup [.name 8, .name 9]) (it := .enum (.var 4)) (body := wnB1) (σ := [some T.d, some (.int (sI s)), some (.str m), some nD, some (sD T.os), some (sD T.ts), some (.tup (T.cs.map rD)), some (.loc h0.length), none, none, none, none, none, none]) (h := h0 ++ .lst [] :: []) (h1 := h0 ++ .lst [] :: []) (its := ⟨enumD (T.os.map D.str) 0, none⟩) (by simp [sD]) (by
      show forRun _ _ (enumD (T.os.map D.str) 0) _ _ = _
      rw [enumD_eq] at q ⊢
      exact q)
    rw [seqNx s1, seqNx s2, seqNx s3]
    have tu := blt_tupO (own := false) hh
    have mk3 : ∀ (a b c : D) (h : MHeap), mkT [a, b, c] h = .ok (.tup [a, b, c]) h := fun _ _ _ _ => rfl
    simp [tu, mk3]
    rfl
end
/-! ### numbers_of -/
def Tb.ns (T : Tb) (s : Bool) (m : Str) : List Int := (T.nm !s).map (T.gn s m)
theorem fn_numbers_of {P : Prg} [Hf P "numbers_of" d_numbers_of] [Hf P "gained" d_gained] {k : Nat} {T : Tb} {s : Bool} {m : Str} {h : MHeap} (O : T.Ok) (hm : m ∈ T.nm s) :
    (calls P (k + 2)).fn "numbers_of" [T.d, .int (sI s), .str m] h = .ok (.loc h.length) (h ++ [.lst ((T.ns s m).map .int)]) := by
  have l4 : (T.nm !s).length ≤ BIG := by cases s; exact big4 O.t4; exact big4 O.o4
  rw [fnRaw (d := d_numbers_of) Hf.look rfl rfl]
  show (evSs (calls P (k + 1)) (.cons (.ret (.comp true (.call "gained" (.cons (.var 0) (.cons (.var 1) (.cons (.var 2) (.cons (.var 3) .nil))))) (.name 3) (.val (.ix (.var 0) (.bin false .Sub (.int 1) (.var 1)))) .nil [3])) .nil) [some T.d, some (.int (sI s)), some (.str m), none] h).out = _
  have ec : evE (calls P (k + 1)) (.comp true (.call "gained" (.cons (.var 0) (.cons (.var 1) (.cons (.var 2) (.cons (.var 3) .nil))))) (.name 3) (.val (.ix (.var 0) (.bin false .Sub (.int 1) (.var 1)))) .nil [3]) [some T.d, some (.int (sI s)), some (.str m), none] h = .ok (.loc h.length) (h ++ [.lst ((T.ns s m).map .int)]) := by
    rw [evMapT D.str (fun t => .int (T.gn s m t)) (T.nm !s) (gd := none) (by simp [Tb.ix', sD]) rfl ?_ l4]
    · rw [mkL_own (by simpa using l4), Tb.ns, List.map_map]
      rfl
    · intro t ht
      exact ⟨[some T.d, some (.int (sI s)), some (.str m), some (.str t)], by simp [bindT, wipeE], by simp [fn_gained O hm ht]⟩
  rw [evSs, evS_ret, ec]
  rfl
end Q

/-! One number changed. -/
namespace Q
open Lt PySem
theorem idx_get {l : List Str} (h : l.Nodup) {i : Nat} {x : Str} (e : l[i]? = some x) : l.idxOf x = i := by
  induction l generalizing i with
  | nil => simp at e
  | cons a r ih =>
    rw [List.nodup_cons] at h
    cases i with
    | zero => simp at e; subst e; simp
    | succ i =>
      rw [List.getElem?_cons_succ] at e
      have : a ≠ x := fun z => h.1 (z ▸ List.mem_of_getElem? e)
      rw [List.idxOf_cons, cond_eq_ite, if_neg (by simpa using this), ih h.2 e]
theorem get_idx {l : List Str} {x : Str} (h : x ∈ l) : l[l.idxOf x]? = some x := by
  rw [List.getElem?_eq_getElem (List.idxOf_lt_length_iff.mpr h)]
  simp
/-- the table with one number otherwise -/
def Tb.put (T : Tb) (s : Bool) (m t : Str) (x : Int) : Tb := T.wn s m ((T.ns s m).set ((T.nm !s).idxOf t) x)
theorem Tb.put_nm (T : Tb) (s : Bool) (m t : Str) (x : Int) (s' : Bool) : (T.put s m t x).nm s' = T.nm s' := T.wn_nm _ _ _ _
section
variable {T : Tb} {s : Bool} {m t : Str} {x : Int}
theorem Tb.Ok.ns_b (O : T.Ok) (hm : m ∈ T.nm s) : ∀ y ∈ T.ns s m, -99 ≤ y ∧ y ≤ 99 := fun y hy => by
  obtain ⟨t, ht, rfl⟩ := List.mem_map.mp hy
  exact O.bound hm ht
theorem Tb.Ok.put (O : T.Ok) (hm : m ∈ T.nm s) (hx : -99 ≤ x ∧ x ≤ 99) : (T.put s m t x).Ok := O.wn fun y hy => by
  rcases List.mem_or_eq_of_mem_set hy with z | z
  · exact O.ns_b hm y z
  · rw [z]; exact hx
theorem Tb.ns_at (O : T.Ok) {j : Nat} {t' : Str} (e : (T.nm !s)[j]? = some t') : ((T.ns s m)[j]?).getD 0 = T.gn s m t' := by
  simp [Tb.ns, e]
/-- the new lines -/
theorem Tb.put_cs0 (O : T.Ok) (hm : m ∈ T.os) (ht : t ∈ T.ts) : ∃ r, T.cs[T.os.idxOf m]? = some r ∧ r[T.ts.idxOf t]? = some (T.cell m t) ∧ r.length = T.ts.length ∧ (T.put false m t x).cs = T.cs.set (T.os.idxOf m) (r.set (T.ts.idxOf t) (x, (T.cell m t).2)) := by
  obtain ⟨r, e1, hr, e2, _⟩ := O.at hm ht
  have rl := O.rl r hr
  refine ⟨r, e1, e2, rl, ?_⟩
  have hi : T.os.idxOf m < T.os.length := List.idxOf_lt_length_iff.mpr hm
  refine List.ext_getElem (by simp [Tb.put, Tb.wn, O.cl]) fun i h1 h2 => ?_
  simp only [Tb.put, Tb.wn, List.getElem_map, List.getElem_range, List.getElem_set]
  simp only [Tb.put, Tb.wn, List.length_map, List.length_range] at h1
  have hic : i < T.cs.length := by rw [O.cl]; exact h1
  by_cases q : T.os.idxOf m = i
  · rw [if_pos q]
    refine List.ext_getElem (by simp [rl]) fun j h3 h4 => ?_
    simp only [List.length_map, List.length_range] at h3
    simp only [List.getElem_map, List.getElem_range, List.getElem_set]
    have eo : T.os[i]? = some m := by rw [← q]; exact get_idx hm
    have ea : T.at i j = r[j]'(by rw [rl]; exact h3) := by
      simp only [Tb.at, ← q, e1, Option.getD_some, List.getElem?_eq_getElem (show j < r.length by rw [rl]; exact h3)]
    have w : T.wc false m ((T.ns false m).set (T.ts.idxOf t) x) i j = ((((T.ns false m).set (T.ts.idxOf t) x)[j]?).getD 0, (T.at i j).2) := by simp [Tb.wc, eo]
    show T.wc false m ((T.ns false m).set (T.ts.idxOf t) x) i j = _
    rw [w]
    have nl : (T.ns false m).length = T.ts.length := by simp [Tb.ns]; rfl
    by_cases qj : T.ts.idxOf t = j
    · rw [if_pos qj, qj, List.getElem?_set_self (by rw [nl]; exact h3)]
      have : T.at i j = T.cell m t := by rw [← q, ← qj]; rfl
      rw [this]
      rfl
    · rw [if_neg qj, List.getElem?_set_ne qj]
      have et : T.ts[j]? = some T.ts[j] := List.getElem?_eq_getElem h3
      rw [Tb.ns_at (s := false) O et, ← ea]
      have : T.gn false m T.ts[j] = (T.at i j).1 := by
        simp only [Tb.gn, Bool.false_eq_true, if_false]
        show ((T.cs[T.os.idxOf m]?.getD [])[T.ts.idxOf T.ts[j]]?.getD (0, 0)).1 = _
        rw [idx_get O.tn et, q]
        rfl
      rw [this]
  · rw [if_neg q]
    have eo : T.os[i]? ≠ some m := fun z => q (idx_get O.on z)
    refine List.ext_getElem (by rw [List.length_map, List.length_range, O.rl _ (List.getElem_mem hic)]) fun j h3 h4 => ?_
    simp only [List.length_map, List.length_range] at h3
    simp only [List.getElem_map, List.getElem_range]
    have w : T.wc false m ((T.ns false m).set (T.ts.idxOf t) x) i j = T.at i j := by simp [Tb.wc, eo]
    show T.wc false m ((T.ns false m).set (T.ts.idxOf t) x) i j = _
    rw [w]
    simp only [Tb.at, List.getElem?_eq_getElem hic, Option.getD_some, List.getElem?_eq_getElem h4]
theorem Tb.put_cs1 (O : T.Ok) (hm : m ∈ T.ts) (ht : t ∈ T.os) : ∃ r, T.cs[T.os.idxOf t]? = some r ∧ r[T.ts.idxOf m]? = some (T.cell t m) ∧ r.length = T.ts.length ∧ (T.put true m t x).cs = T.cs.set (T.os.idxOf t) (r.set (T.ts.idxOf m) ((T.cell t m).1, x)) := by
  obtain ⟨r, e1, hr, e2, _⟩ := O.at ht hm
  have rl := O.rl r hr
  refine ⟨r, e1, e2, rl, ?_⟩
  have hj : T.ts.idxOf m < T.ts.length := List.idxOf_lt_length_iff.mpr hm
  have em : T.ts[T.ts.idxOf m]? = some m := get_idx hm
  refine List.ext_getElem (by simp [Tb.put, Tb.wn, O.cl]) fun i h1 h2 => ?_
  simp only [Tb.put, Tb.wn, List.getElem_map, List.getElem_range, List.getElem_set]
  simp only [Tb.put, Tb.wn, List.length_map, List.length_range] at h1
  have hic : i < T.cs.length := by rw [O.cl]; exact h1
  have nl : (T.ns true m).length = T.os.length := by simp [Tb.ns]; rfl
  have eo : T.os[i]? = some T.os[i] := List.getElem?_eq_getElem h1
  by_cases q : T.os.idxOf t = i
  · rw [if_pos q]
    refine List.ext_getElem (by simp [rl]) fun j h3 h4 => ?_
    simp only [List.length_map, List.length_range] at h3
    simp only [List.getElem_map, List.getElem_range, List.getElem_set]
    have ea : T.at i j = r[j]'(by rw [rl]; exact h3) := by
      simp only [Tb.at, ← q, e1, Option.getD_some, List.getElem?_eq_getElem (show j < r.length by rw [rl]; exact h3)]
    show T.wc true m ((T.ns true m).set (T.os.idxOf t) x) i j = _
    by_cases qj : T.ts.idxOf m = j
    · have et : T.ts[j]? = some m := by rw [← qj]; exact em
      have w : T.wc true m ((T.ns true m).set (T.os.idxOf t) x) i j = ((T.at i j).1, (((T.ns true m).set (T.os.idxOf t) x)[i]?).getD 0) := by simp [Tb.wc, et]
      rw [w, if_pos qj, q, List.getElem?_set_self (by rw [nl]; exact h1)]
      have : T.at i j = T.cell t m := by rw [← q, ← qj]; rfl
      rw [this]
      rfl
    · have et : T.ts[j]? ≠ some m := fun z => qj (idx_get O.tn z)
      have w : T.wc true m ((T.ns true m).set (T.os.idxOf t) x) i j = T.at i j := by simp [Tb.wc, et]
      rw [w, if_neg qj, ea]
  · rw [if_neg q]
    refine List.ext_getElem (by rw [List.length_map, List.length_range, O.rl _ (List.getElem_mem hic)]) fun j h3 h4 => ?_
    simp only [List.length_map, List.length_range] at h3
    simp only [List.getElem_map, List.getElem_range]
    show T.wc true m ((T.ns true m).set (T.os.idxOf t) x) i j = _
    have ea : T.at i j = T.cs[i][j] := by simp only [Tb.at, List.getElem?_eq_getElem hic, Option.getD_some, List.getElem?_eq_getElem h4]
    by_cases qj : T.ts.idxOf m = j
    · have et : T.ts[j]? = some m := by rw [← qj]; exact em
      have w : T.wc true m ((T.ns true m).set (T.os.idxOf t) x) i j = ((T.at i j).1, (((T.ns true m).set (T.os.idxOf t) x)[i]?).getD 0) := by simp [Tb.wc, et]
      rw [w, List.getElem?_set_ne q, Tb.ns_at (s := true) O eo]
      have : T.gn true m T.os[i] = (T.at i j).2 := by
        simp only [Tb.gn, if_true]
        show ((T.cs[T.os.idxOf T.os[i]]?.getD [])[T.ts.idxOf m]?.getD (0, 0)).2 = _
        rw [idx_get O.on eo, qj]
        rfl
      rw [this, ← ea]
    · have et : T.ts[j]? ≠ some m := fun z => qj (idx_get O.tn z)
      have w : T.wc true m ((T.ns true m).set (T.os.idxOf t) x) i j = T.at i j := by simp [Tb.wc, et]
      rw [w, ea]
end
end Q

/-! _law_with; desks. -/
namespace Q
open Lt PySem
theorem cutTo {α : Type} {xs : List α} (k : Nat) : cutX xs none (some ((k : Nat) : Int)) = xs.take k := cut_to k
theorem cutFrom {α : Type} {xs : List α} (k : Nat) : cutX xs (some (((k : Nat) : Int) + 1)) none = xs.drop (k + 1) := by
  have := cut_from (xs := xs) (k + 1)
  simpa using this
theorem mkT_le {xs : List D} {h : MHeap} (hl : xs.length ≤ 1000) : mkT xs h = .ok (.tup xs) h := mkT_ok (Nat.le_trans hl (by decide))
theorem put_list {α : Type} {xs : List α} {i : Nat} {a : α} (h : i < xs.length) : xs.take i ++ [a] ++ xs.drop (i + 1) = xs.set i a := by
  rw [List.set_eq_take_append_cons_drop, if_pos h]
  simp
section
variable {T : Tb} {s : Bool} {m t : Str} {x : Int}
theorem fn_law_with {P : Prg} [hd : Hd P "_law_with" 5 11 .pure b__law_with] {k : Nat} {h : MHeap} (O : T.Ok) (hm : m ∈ T.nm s) (ht : t ∈ T.nm !s) : (calls P (k + 1)).fn "_law_with" [T.d, .int (sI s), .str m, .str t, .int x] h = .ok (T.put s m t x).d h := by
  obtain ⟨ps, hp, hl⟩ := hd.look
  refine fnPure (h' := []) (d := ⟨ps, 11, .pure, b__law_with⟩) hl rfl (by simp [hp]) (by simp) ?_ (Tb.free _)
  have two : ∀ (x y : D) (h : MHeap), mkT [x, y] h = .ok (.tup [x, y]) h := fun _ _ _ => rfl
  have mk3 : ∀ (a b c : D) (h : MHeap), mkT [a, b, c] h = .ok (.tup [a, b, c]) h := fun _ _ _ _ => rfl
  have one : ∀ (x : D) (h : MHeap), mkT [x] h = .ok (.tup [x]) h := fun _ _ => rfl
  have a2 : ∀ x y z : D, L2.atI [x, y, z] 2 = some z := fun _ _ _ => rfl
  have a1 : ∀ (x y : D) (r : List D), L2.atI (x :: y :: r) 1 = some y := fun _ _ _ => at1
  have a0 : ∀ (x : D) (r : List D), L2.atI (x :: r) 0 = some x := fun _ _ => at0
  have o4 := O.o4
  have t4 := O.t4
  have cl := O.cl
  cases s with
  | false =>
    have hm' : m ∈ T.os := hm
    have ht' : t ∈ T.ts := ht
    obtain ⟨r, e1, e2, rl, ec⟩ := T.put_cs0 (x := x) O hm' ht'
    have i1 := fun h => idx_ok (h := h) hm'
    have i2 := fun h => idx_ok (h := h) ht'
    have hi : T.os.idxOf m < T.cs.length := by rw [cl]; exact List.idxOf_lt_length_iff.mpr hm'
    have hj : T.ts.idxOf t < r.length := by rw [rl]; exact List.idxOf_lt_length_iff.mpr ht'
    generalize T.os.idxOf m = i at *
    generalize T.ts.idxOf t = j at *
    have g1 : L2.atI (T.cs.map rD) (i : Int) = some (.tup (r.map cD)) := by rw [at_nat, List.getElem?_map, e1]; rfl
    have g2 : L2.atI (r.map cD) (j : Int) = some (cD (T.cell m t)) := by rw [at_nat, List.getElem?_map, e2]; rfl
    have m1 : ∀ h, mkT ((r.map cD).take j ++ [.tup [.int x, .int (T.cell m t).2]]) h = .ok (.tup ((r.map cD).take j ++ [.tup [.int x, .int (T.cell m t).2]])) h := fun h => mkT_le (by simp; omega)
    have m2 : ∀ h, mkT ((r.map cD).take j ++ [.tup [.int x, .int (T.cell m t).2]] ++ (r.map cD).drop (j + 1)) h = .ok (rD (r.set j (x, (T.cell m t).2))) h := fun h => by
      rw [mkT_le (by simp; omega), put_list (by simpa using hj), rD, List.map_set]
      rfl
    have m3 : ∀ (y : D) h, mkT ((T.cs.map rD).take i ++ [y]) h = .ok (.tup ((T.cs.map rD).take i ++ [y])) h := fun y h => mkT_le (by simp; omega)
    have m4 : ∀ h, mkT ((T.cs.map rD).take i ++ [rD (r.set j (x, (T.cell m t).2))] ++ (T.cs.map rD).drop (i + 1)) h = .ok (.tup ((T.put false m t x).cs.map rD)) h := fun h => by
      rw [mkT_le (by simp; omega), put_list (by simpa using hi), ec, List.map_set]
    have ed : (T.put false m t x).d = .tup [sD T.os, sD T.ts, .tup ((T.put false m t x).cs.map rD)] := rfl
    rw [ed]
    have c1 : L2.atI [D.int (T.cell m t).1, D.int (T.cell m t).2] 1 = some (.int (T.cell m t).2) := at1
    simp only [cD, sI_false] at g2 m1 m2 m3 m4 ⊢
    simp [Lt.start, Tb.d, two, mk3, one, bindT, bindTs, i1, i2, recv_idx, a0, a1, a2, g1, g2, c1, setEs, setE, cutTo, cutFrom, m1, m3, -List.append_assoc, m2, m4]
  | true =>
    have hm' : m ∈ T.ts := hm
    have ht' : t ∈ T.os := ht
    obtain ⟨r, e1, e2, rl, ec⟩ := T.put_cs1 (x := x) O hm' ht'
    have i1 := fun h => idx_ok (h := h) hm'
    have i2 := fun h => idx_ok (h := h) ht'
    have hi : T.os.idxOf t < T.cs.length := by rw [cl]; exact List.idxOf_lt_length_iff.mpr ht'
    have hj : T.ts.idxOf m < r.length := by rw [rl]; exact List.idxOf_lt_length_iff.mpr hm'
    generalize T.os.idxOf t = i at *
    generalize T.ts.idxOf m = j at *
    have g1 : L2.atI (T.cs.map rD) (i : Int) = some (.tup (r.map cD)) := by rw [at_nat, List.getElem?_map, e1]; rfl
    have g2 : L2.atI (r.map cD) (j : Int) = some (cD (T.cell t m)) := by rw [at_nat, List.getElem?_map, e2]; rfl
    have m1 : ∀ h, mkT ((r.map cD).take j ++ [.tup [.int (T.cell t m).1, .int x]]) h = .ok (.tup ((r.map cD).take j ++ [.tup [.int (T.cell t m).1, .int x]])) h := fun h => mkT_le (by simp; omega)
    have m2 : ∀ h, mkT ((r.map cD).take j ++ [.tup [.int (T.cell t m).1, .int x]] ++ (r.map cD).drop (j + 1)) h = .ok (rD (r.set j ((T.cell t m).1, x))) h := fun h => by
      rw [mkT_le (by simp; omega), put_list (by simpa using hj), rD, List.map_set]
      rfl
    have m3 : ∀ (y : D) h, mkT ((T.cs.map rD).take i ++ [y]) h = .ok (.tup ((T.cs.map rD).take i ++ [y])) h := fun y h => mkT_le (by simp; omega)
    have m4 : ∀ h, mkT ((T.cs.map rD).take i ++ [rD (r.set j ((T.cell t m).1, x))] ++ (T.cs.map rD).drop (i + 1)) h = .ok (.tup ((T.put true m t x).cs.map rD)) h := fun h => by
      rw [mkT_le (by simp; omega), put_list (by simpa using hi), ec, List.map_set]
    have ed : (T.put true m t x).d = .tup [sD T.os, sD T.ts, .tup ((T.put true m t x).cs.map rD)] := rfl
    rw [ed]
    have c0 : L2.atI [D.int (T.cell t m).1, D.int (T.cell t m).2] 0 = some (.int (T.cell t m).1) := at0
    simp only [cD, sI_true] at g2 m1 m2 m3 m4 ⊢
    simp [Lt.start, Tb.d, two, mk3, one, bindT, bindTs, i1, i2, recv_idx, a0, a1, a2, g1, g2, c0, setEs, setE, cutTo, cutFrom, m1, m3, -List.append_assoc, m2, m4]
end
end Q

/-! Desks: objects, frames, what a desk tells. -/
namespace Q
open Lt PySem

/-! ### heaps whose locations all lie in them -/
mutual
theorem low_mono {n m : Nat} (h : n ≤ m) : ∀ {d : D}, D.low n d = true → D.low m d = true
  | .non, _ => rfl
  | .bl _, _ => rfl
  | .int _, _ => rfl
  | .str _, _ => rfl
  | .tup xs, e => by simp only [D.low] at e ⊢; exact low_monoL h e
  | .lst xs, e => by simp only [D.low] at e ⊢; exact low_monoL h e
  | .dic t kvs, e => by simp only [D.low] at e ⊢; exact low_monoP h e
  | .loc k, e => by simp only [D.low, decide_eq_true_eq] at e ⊢; omega
  | .scr _, _ => rfl
  | .fn _, _ => rfl
  | .ty _, _ => rfl
  | .wt _, e => by simp [D.low] at e
  | .exc _, _ => rfl
  | .adr _, _ => rfl
theorem low_monoL {n m : Nat} (h : n ≤ m) : ∀ {ds : List D}, D.lowL n ds = true → D.lowL m ds = true
  | [], _ => rfl
  | x :: r, e => by
    simp only [D.lowL, Bool.and_eq_true] at e ⊢
    exact ⟨low_mono h e.1, low_monoL h e.2⟩
theorem low_monoP {n m : Nat} (h : n ≤ m) : ∀ {ds : List (Ky × D)}, D.lowP n ds = true → D.lowP m ds = true
  | [], _ => rfl
  | (k, x) :: r, e => by
    simp only [D.lowP, Bool.and_eq_true] at e ⊢
    exact ⟨low_mono h e.1, low_monoP h e.2⟩
end
theorem lowO_mono {n m : Nat} (h : n ≤ m) {o : MObj} (e : MObj.low n o = true) : MObj.low m o = true := by
  cases o with
  | lst xs => exact low_monoL h e
  | dic t kvs => exact low_monoP h e
  | fdic t kvs => exact low_monoP h e
  | ins c fs =>
    simp only [MObj.low, List.all_eq_true] at e ⊢
    exact fun p hp => low_mono h (e p hp)
def LowH (h : MHeap) : Prop := ∀ o ∈ h, MObj.low h.length o = true
theorem LowH.all {h : MHeap} (l : LowH h) : h.all (MObj.low h.length) = true := List.all_eq_true.mpr l
theorem LowH.app {h : MHeap} {o : MObj} (l : LowH h) (e : MObj.low (h.length + 1) o = true) : LowH (h ++ [o]) := fun x hx => by
  rw [List.length_append, List.length_singleton]
  rcases List.mem_append.mp hx with z | z
  · exact lowO_mono (by omega) (l x z)
  · rw [List.mem_singleton.mp z]; exact e
theorem LowH.set {h : MHeap} {o : MObj} {n : Nat} (l : LowH h) (e : MObj.low h.length o = true) : LowH (h.set n o) := fun x hx => by
  rw [List.length_set]
  rcases List.mem_or_eq_of_mem_set hx with z | z
  · exact l x z
  · rw [z]; exact e
theorem LowH.tw {rests : List (Ky × D)} {is : List Nat} {c : Int} {tl : MHeap} (hr : RestsOk rests is) (ht : TlF tl) : LowH (tw rests c tl) := List.all_eq_true.mp (tw_low hr (ht.low (Nat.le_refl _)))
theorem TlF.of {rests : List (Ky × D)} {c : Int} {tl : MHeap} (l : LowH (Q.tw rests c tl)) : TlF tl := fun o ho n hn => lowO_mono (by simpa [Q.tw] using hn) (l o (by simp [Q.tw, ho]))
/-- but for two places all stays -/
structure Fr (n m : Nat) (h h' : MHeap) : Prop where
  le : h.length ≤ h'.length
  at_ : ∀ i, i < h.length → i ≠ n → i ≠ m → h'[i]? = h[i]?
theorem Fr.refl {n m : Nat} {h : MHeap} : Fr n m h h := ⟨Nat.le_refl _, fun _ _ _ _ => rfl⟩
theorem Fr.trans {n m : Nat} {h h1 h2 : MHeap} (a : Fr n m h h1) (b : Fr n m h1 h2) : Fr n m h h2 := ⟨Nat.le_trans a.le b.le, fun i hi hn hm => (b.at_ i (Nat.lt_of_lt_of_le hi a.le) hn hm).trans (a.at_ i hi hn hm)⟩
theorem Fr.app {n m : Nat} {h ex : MHeap} : Fr n m h (h ++ ex) := ⟨by simp, fun i hi _ _ => List.getElem?_append_left hi⟩
theorem Fr.set1 {n m : Nat} {h : MHeap} {o : MObj} : Fr n m h (h.set n o) := ⟨by simp, fun i hi hn hm => List.getElem?_set_ne (Ne.symm hn)⟩
theorem Fr.set2 {n m : Nat} {h : MHeap} {o : MObj} : Fr n m h (h.set m o) := ⟨by simp, fun i hi hn hm => List.getElem?_set_ne (Ne.symm hm)⟩
/-- the town stays -/
theorem Fr.tw {n m : Nat} {rests : List (Ky × D)} {c : Int} {tl h' : MHeap} (f : Fr n m (Q.tw rests c tl) h') (hn : 2 ≤ n) (hm : 2 ≤ m) : ∃ tl', h' = Q.tw rests c tl' := by
  have e0 := f.at_ 0 (by simp [Q.tw]) (by omega) (by omega)
  have e1 := f.at_ 1 (by simp [Q.tw]) (by omega) (by omega)
  match h', e0, e1 with
  | a :: b :: r, e0, e1 =>
    simp [Q.tw] at e0 e1
    exact ⟨r, by rw [e0, e1]; rfl⟩
  | [a], _, e1 => simp [Q.tw] at e1
  | [], e0, _ => simp [Q.tw] at e0
/-! ### plain data -/
mutual
def plD : D → Bool
  | .non => true
  | .bl _ => true
  | .int _ => true
  | .str _ => true
  | .tup xs => plL xs
  | .lst xs => plL xs
  | _ => false
def plL : List D → Bool
  | [] => true
  | x :: r => plD x && plL r
end
mutual
theorem pl_beq : ∀ {d : D}, plD d = true → D.beq d d = true
  | .non, _ => rfl
  | .bl _, _ => by simp [D.beq]
  | .int _, _ => by simp [D.beq]
  | .str _, _ => by simp [D.beq]
  | .tup xs, h => by simp only [plD] at h; simp only [D.beq]; exact pl_beqL h
  | .lst xs, h => by simp only [plD] at h; simp only [D.beq]; exact pl_beqL h
  | .dic _ _, h => by simp [plD] at h
  | .loc _, h => by simp [plD] at h
  | .scr _, h => by simp [plD] at h
  | .fn _, h => by simp [plD] at h
  | .ty _, h => by simp [plD] at h
  | .wt _, h => by simp [plD] at h
  | .exc _, h => by simp [plD] at h
  | .adr _, h => by simp [plD] at h
theorem pl_beqL : ∀ {ds : List D}, plL ds = true → D.beqL ds ds = true
  | [], _ => rfl
  | x :: r, h => by
    simp only [plL, Bool.and_eq_true] at h
    simp only [D.beqL, pl_beq h.1, pl_beqL h.2, Bool.and_self]
end
mutual
theorem pl_free : ∀ {d : D}, plD d = true → d.free = true
  | .non, _ => rfl
  | .bl _, _ => rfl
  | .int _, _ => rfl
  | .str _, _ => rfl
  | .tup xs, h => by simp only [plD] at h; simp only [D.free]; exact pl_freeL h
  | .lst xs, h => by simp only [plD] at h; simp only [D.free]; exact pl_freeL h
  | .dic _ _, h => by simp [plD] at h
  | .loc _, h => by simp [plD] at h
  | .scr _, h => by simp [plD] at h
  | .fn _, h => by simp [plD] at h
  | .ty _, h => by simp [plD] at h
  | .wt _, h => by simp [plD] at h
  | .exc _, h => by simp [plD] at h
  | .adr _, h => by simp [plD] at h
theorem pl_freeL : ∀ {ds : List D}, plL ds = true → D.freeL ds = true
  | [], _ => rfl
  | x :: r, h => by
    simp only [plL, Bool.and_eq_true] at h
    simp only [D.freeL, pl_free h.1, pl_freeL h.2, Bool.and_self]
end
theorem plL_iff {ds : List D} : plL ds = true ↔ ∀ d ∈ ds, plD d = true := by
  induction ds with
  | nil => simp [plL]
  | cons a r ih => simp [plL, ih]
@[simp] theorem pl_sD (l : List Str) : plD (sD l) = true := by
  simp only [sD, plD]
  exact plL_iff.mpr fun d hd => by obtain ⟨x, _, rfl⟩ := List.mem_map.mp hd; rfl
@[simp] theorem pl_Tb (T : Tb) : plD T.d = true := by
  simp only [Tb.d, plD, plL, pl_sD, Bool.true_and, Bool.and_true]
  refine plL_iff.mpr fun d hd => ?_
  obtain ⟨r, _, rfl⟩ := List.mem_map.mp hd
  simp only [rD, plD]
  exact plL_iff.mpr fun d hd => by obtain ⟨x, _, rfl⟩ := List.mem_map.mp hd; rfl
@[simp] theorem pl_Lf (L : Lf) : plD L.d = true := by simp [Lf.d, plD, plL]
/-! ### calls that go on with the heap -/
theorem fnTruncS {P : Prg} {k : Nat} {f : String} {d : MDef} {xs : List D} {h : MHeap} {v : D} (e : P.tab.lookup f = some d) (hp : d.pol = .trunc) (hl : xs.length = d.ps.length) (hb : (evSs (calls P k) d.body (Lt.start d xs) h).out = .ok v h) (l : LowH h) (hv : v.free = true) : (calls P (k + 1)).fn f xs h = .ok v h := by
  have := fnTrunc e hp hl hb (Nat.le_refl _) (by rw [List.take_length]; exact l.all) (frz_free hv)
  rw [List.take_length] at this
  exact this
/-! ### desks -/
def kB : Str := Str.ofString "begun"
def kN : Str := Str.ofString "now"
def kD : Str := Str.ofString "done"
def kU : Str := Str.ofString "undone"
def nowD (T : Tb) (L : Lf) : D := .tup [T.d, L.d]
@[simp] theorem now_free (T : Tb) (L : Lf) : (nowD T L).free = true := by simp [nowD]
def deskO (B T : Tb) (L : Lf) (nd nu : Nat) : MObj := .ins "Desk" [(kB, B.d), (kN, nowD T L), (kD, .loc nd), (kU, .loc nu)]
/-- a deed that was done, with what was ahead of it -/
structure Dd where
  deed : D
  T : Tb
  L : Lf
def Dd.d (x : Dd) : D := .tup [x.deed, nowD x.T x.L]
structure DAt (h : MHeap) (n nd nu : Nat) (B T : Tb) (L : Lf) (ds us : List Dd) : Prop where
  o : h[n]? = some (deskO B T L nd nu)
  d : h[nd]? = some (.lst (ds.map Dd.d))
  u : h[nu]? = some (.lst (us.map Dd.d))
  ne : nd ≠ nu
section
variable {h : MHeap} {n nd nu : Nat} {B T T' : Tb} {L L' : Lf} {ds us : List Dd} {v : D}
theorem fld_b (e : h[n]? = some (deskO B T L nd nu)) : fldD "Desk" h (.loc n) (Str.ofString "begun") = some B.d := by
  simp only [fldD, insOf, e, deskO, if_true]
  rfl
theorem fld_n (e : h[n]? = some (deskO B T L nd nu)) : fldD "Desk" h (.loc n) (Str.ofString "now") = some (nowD T L) := by
  simp only [fldD, insOf, e, deskO, if_true]
  rfl
theorem fld_d (e : h[n]? = some (deskO B T L nd nu)) : fldD "Desk" h (.loc n) (Str.ofString "done") = some (.loc nd) := by
  simp only [fldD, insOf, e, deskO, if_true]
  rfl
theorem fld_u (e : h[n]? = some (deskO B T L nd nu)) : fldD "Desk" h (.loc n) (Str.ofString "undone") = some (.loc nu) := by
  simp only [fldD, insOf, e, deskO, if_true]
  rfl
theorem set_n (e : h[n]? = some (deskO B T L nd nu)) : setfD "Desk" (.loc n) (Str.ofString "now") (nowD T' L') h = some (h.set n (deskO B T' L' nd nu)) := by
  simp only [setfD, insOf, e, deskO, if_true]
  rfl
theorem set_u {nu' : Nat} (e : h[n]? = some (deskO B T L nd nu)) : setfD "Desk" (.loc n) (Str.ofString "undone") (.loc nu') h = some (h.set n (deskO B T L nd nu')) := by
  simp only [setfD, insOf, e, deskO, if_true]
  rfl
theorem ins_ok (e : h[n]? = some (deskO B T L nd nu)) : (insOf "Desk" h (.loc n)).isSome = true := by
  simp only [insOf, e, deskO, if_true]
  rfl
theorem recv_ok {m : Str} (hm : ([kB, kN, kD, kU].contains m) = false) (e : h[n]? = some (deskO B T L nd nu)) : recvO "Desk" m (.loc n) h = true := by
  simp only [recvO, insOf, e, deskO, if_true]
  simp only [List.contains_cons, List.contains_nil, Bool.or_false, Bool.or_eq_false_iff] at hm
  obtain ⟨h1, h2, h3, h4⟩ := hm
  simp only [List.lookup, h1, h2, h3, h4]
  rfl
theorem DAt.lt_n (A : DAt h n nd nu B T L ds us) : n < h.length := (List.getElem?_eq_some_iff.mp A.o).1
theorem DAt.lt_d (A : DAt h n nd nu B T L ds us) : nd < h.length := (List.getElem?_eq_some_iff.mp A.d).1
theorem DAt.lt_u (A : DAt h n nd nu B T L ds us) : nu < h.length := (List.getElem?_eq_some_iff.mp A.u).1
theorem DAt.nd_ne (A : DAt h n nd nu B T L ds us) : n ≠ nd := fun z => by have := A.o; rw [z, A.d] at this; cases this
theorem DAt.nu_ne (A : DAt h n nd nu B T L ds us) : n ≠ nu := fun z => by have := A.o; rw [z, A.u] at this; cases this
theorem desk_low {N : Nat} (h1 : nd < N) (h2 : nu < N) : MObj.low N (deskO B T L nd nu) = true := by
  simp only [deskO, MObj.low, List.all_cons, List.all_nil, Bool.and_true, Bool.and_eq_true, free_low (Tb.free B), free_low (now_free T L), true_and]
  exact ⟨by simp [D.low, h1], by simp [D.low, h2]⟩
/-- the same objects elsewhere -/
theorem DAt.keep {h' : MHeap} (A : DAt h n nd nu B T L ds us) (e1 : h'[n]? = h[n]?) (e2 : h'[nd]? = h[nd]?) (e3 : h'[nu]? = h[nu]?) : DAt h' n nd nu B T L ds us := ⟨e1.trans A.o, e2.trans A.d, e3.trans A.u, A.ne⟩
theorem DAt.app {ex : MHeap} (A : DAt h n nd nu B T L ds us) : DAt (h ++ ex) n nd nu B T L ds us := A.keep (List.getElem?_append_left A.lt_n) (List.getElem?_append_left A.lt_d) (List.getElem?_append_left A.lt_u)
/-! what it tells -/
variable {P : Prg} [hn : Hn P] {k : Nat}
theorem cnD : (calls P k).cn = "Desk" := by rw [calls_cnU]; exact hn.look
theorem fn_table_ [Hf P "Desk.table" d_Desk_table] (A : DAt h n nd nu B T L ds us) (l : LowH h) : (calls P (k + 1)).fn "Desk.table" [.loc n] h = .ok T.d h := by
  refine fnTruncS (d := d_Desk_table) Hf.look rfl rfl ?_ l (Tb.free T)
  have e := fld_n A.o
  have c : (calls P k).cn = "Desk" := cnD
  have g : L2.atI [T.d, L.d] 0 = some T.d := at0
  simp [d_Desk_table, Lt.start, hn.look, e, nowD, g]
theorem fn_left_ [Hf P "Desk.left" d_Desk_left] (A : DAt h n nd nu B T L ds us) (l : LowH h) : (calls P (k + 1)).fn "Desk.left" [.loc n] h = .ok L.d h := by
  refine fnTruncS (d := d_Desk_left) Hf.look rfl rfl ?_ l (Lf.free L)
  have e := fld_n A.o
  have g : L2.atI [T.d, L.d] 1 = some L.d := at1
  simp [d_Desk_left, Lt.start, hn.look, e, nowD, g]
theorem sts_free {e : Bool} : D.freeL (sts T L e) = true := freeL_iff.mpr fun d hd => by
  simp only [sts, stsS, List.mem_append, List.mem_map] at hd
  rcases hd with ⟨c, _, rfl⟩ | ⟨c, _, rfl⟩ <;> rfl
theorem fn_waiting [Hf P "Desk.waiting" d_Desk_waiting] [Hf P "gained" d_gained] [Hf P "is_more" d_is_more] [Hf P "is_even" d_is_even] [Hf P "all_betters" d_all_betters] [Hf P "may_strike" d_may_strike] [Hf P "all_strikes" d_all_strikes] (O : T.Ok) (F : L.Of T) (A : DAt h n nd nu B T L ds us) (l : LowH h) :
    (calls P (k + 6)).fn "Desk.waiting" [.loc n] h = .ok (.tup (sts T L false)) h := by
  refine fnTruncS (d := d_Desk_waiting) Hf.look rfl rfl ?_ l (by simp [sts_free])
  have e := fld_n A.o
  have e1 := fn_all_strikes (P := P) (k := k) (e := false) (h := h) O F
  have g0 : L2.atI [T.d, L.d] 0 = some T.d := at0
  have g : L2.atI [T.d, L.d] 1 = some L.d := at1
  have r : Str.ofString "plain" = ruS false := rfl
  simp [d_Desk_waiting, Lt.start, hn.look, e, nowD, g, g0, r, e1]
theorem fn_deeds [Hf P "Desk.deeds" d_Desk_deeds] (A : DAt h n nd nu B T L ds us) (l : LowH h) (hf : ∀ x ∈ ds, plD x.deed = true) (hb : ds.length ≤ 1000) : (calls P (k + 1)).fn "Desk.deeds" [.loc n] h = .ok (.tup (ds.map Dd.deed)) h := by
  refine fnTruncS (d := d_Desk_deeds) Hf.look rfl rfl ?_ l (by simp only [free_tup]; exact freeL_iff.mpr fun d hd => by obtain ⟨x, hx, rfl⟩ := List.mem_map.mp hd; exact pl_free (hf x hx))
  show (evSs (calls P k) (.cons (.ret (.blt false "tuple" (.cons (.comp false (.var 1) (.tup [.name 1, .name 2]) (.val (.fld (.var 0) (Str.ofString "done"))) .nil [1, 2]) .nil))) .nil) [some (.loc n), none, none] h).out = _
  have lb : ds.length ≤ BIG := Nat.le_trans hb (by decide)
  have ok : Items.okIn ⟨ds.map Dd.d, some (nd, ds.map Dd.d)⟩ h = true := by
    simp only [Items.okIn, A.d]
    exact pl_beqL (plL_iff.mpr fun d hd => by obtain ⟨x, hx, rfl⟩ := List.mem_map.mp hd; simp [Dd.d, nowD, plD, plL, hf x hx])
  have ec : evE (calls P k) (.comp false (.var 1) (.tup [.name 1, .name 2]) (.val (.fld (.var 0) (Str.ofString "done"))) .nil [1, 2]) [some (.loc n), none, none] h = .ok (.lst (ds.map Dd.deed)) h := by
    rw [evMapT Dd.d Dd.deed ds (gd := some (nd, ds.map Dd.d)) (by
      have e := fld_d A.o
      simp [hn.look, e, walkA, walkOf, A.d]) ok ?_ lb, mkL_ok (by simpa using lb)]
    intro x hx
    exact ⟨[some (.loc n), some x.deed, some (nowD x.T x.L)], by simp [bindT, bindTs, wipeE, Dd.d], by simp⟩
  rw [evSs, evS_ret, evE_blt, evEs, ec]
  simp
end
end Q

/-! Desks: len, str, new ones, strikings and changes. -/
namespace Q
open Lt PySem
theorem str_len_app (a b : Str) : (a ++ b).length = a.length + b.length := by
  show (a.cps ++ b.cps).size = _
  rw [Array.size_append]
  rfl
/-- a number's figures -/
def txI (i : Int) : Str := Str.ofString (toString i)
theorem addF_str {acc y : Str} (h1 : acc.length ≤ 1000) (h2 : y.length ≤ 1000) : addF acc (.str y) = some (acc ++ y) := by
  have b : (2000 : Nat) ≤ BIG := by decide
  have := str_len_app acc y
  simp only [addF, txtD]
  rw [if_pos]
  simp only [Bool.and_eq_true, decide_eq_true_eq]
  omega
theorem addF_int {acc : Str} {i : Int} (h1 : acc.length ≤ 1000) (h2 : (txI i).length ≤ 1000) (h3 : i.natAbs < 2 ^ 64) : addF acc (.int i) = some (acc ++ txI i) := by
  have b : (2000 : Nat) ≤ BIG := by decide
  have := str_len_app acc (txI i)
  simp only [addF, txtD, if_pos h3]
  rw [if_pos]
  · rfl
  · simp only [Bool.and_eq_true, decide_eq_true_eq]
    show (txI i).length ≤ BIG ∧ (acc ++ txI i).length ≤ BIG
    omega
theorem txI_small : ∀ n : Nat, n < 16 → (txI (n : Int)).length ≤ 2 := by decide +kernel
def deskTx (a b c : Nat) : Str := Str.empty ++ txI a ++ Str.ofString " and " ++ txI b ++ Str.ofString " left, " ++ txI c ++ Str.ofString " waiting"
theorem evF_desk {C : Calls} {σ : Lt.Env} {h : MHeap} {ea eb ec : ME} {a b c : Nat} (ha : a < 16) (hb : b < 16) (hc : c < 16) (e1 : evE C ea σ h = .ok (.int a) h) (e2 : evE C eb σ h = .ok (.int b) h) (e3 : evE C ec σ h = .ok (.int c) h) :
    evE C (.fstr (.cons ea (.cons (.str (Str.ofString " and ")) (.cons eb (.cons (.str (Str.ofString " left, ")) (.cons ec (.cons (.str (Str.ofString " waiting")) .nil))))))) σ h = .ok (.str (deskTx a b c)) h := by
  have t1 := txI_small a ha
  have t2 := txI_small b hb
  have t3 := txI_small c hc
  have l0 : Str.empty.length = 0 := rfl
  have l1 : (Str.ofString " and ").length = 5 := by decide +kernel
  have l2 : (Str.ofString " left, ").length = 7 := by decide +kernel
  have l3 : (Str.ofString " waiting").length = 8 := by decide +kernel
  have f1 := addF_int (acc := Str.empty) (i := a) (by omega) (by omega) (by omega)
  have f2 := addF_str (acc := Str.empty ++ txI a) (y := Str.ofString " and ") (by simp only [str_len_app]; omega) (by omega)
  have f3 := addF_int (acc := Str.empty ++ txI a ++ Str.ofString " and ") (i := b) (by simp only [str_len_app]; omega) (by omega) (by omega)
  have f4 := addF_str (acc := Str.empty ++ txI a ++ Str.ofString " and " ++ txI b) (y := Str.ofString " left, ") (by simp only [str_len_app]; omega) (by omega)
  have f5 := addF_int (acc := Str.empty ++ txI a ++ Str.ofString " and " ++ txI b ++ Str.ofString " left, ") (i := c) (by simp only [str_len_app]; omega) (by omega) (by omega)
  have f6 := addF_str (acc := Str.empty ++ txI a ++ Str.ofString " and " ++ txI b ++ Str.ofString " left, " ++ txI c) (y := Str.ofString " waiting") (by simp only [str_len_app]; omega) (by omega)
  simp only [evE_fstr, evF_cons, evF_nil, e1, e2, e3, evE_str, bindOk, f1, f2, f3, f4, f5, f6, ofSome]
  rfl
section
variable {h : MHeap} {n nd nu : Nat} {B T T' : Tb} {L L' : Lf} {ds us : List Dd} {v : D} {P : Prg} [hn : Hn P] {k : Nat}
theorem sts_len (O : T.Ok) (F : L.Of T) {e : Bool} : (sts T L e).length ≤ 8 := by
  have h1 := F.le4 O false
  have h2 := F.le4 O true
  have g : ∀ s, (stsS T L e s).length ≤ (L.nm s).length := fun s => by simp only [stsS, List.length_map]; exact List.length_filter_le _ _
  have := g false
  have := g true
  simp only [sts, List.length_append]
  omega
theorem fn_len [Hf P "Desk.__len__" d_Desk___len__] (O : T.Ok) (F : L.Of T) (A : DAt h n nd nu B T L ds us) (l : LowH h) : (calls P (k + 1)).fn "Desk.__len__" [.loc n] h = .ok (.int ((L.a.length + L.b.length : Nat) : Int)) h := by
  refine fnTruncS (d := d_Desk___len__) Hf.look rfl rfl ?_ l rfl
  have e := fld_n A.o
  have h1 : L.a.length ≤ 4 := F.le4 O false
  have h2 : L.b.length ≤ 4 := F.le4 O true
  have g : L2.atI [T.d, L.d] 1 = some L.d := at1
  have i0 : L2.atI [sD L.a, sD L.b] 0 = some (sD L.a) := at0
  have i1 : L2.atI [sD L.a, sD L.b] 1 = some (sD L.b) := at1
  have m : ∀ h, mkT (L.a.map D.str ++ L.b.map D.str) h = .ok (.tup (L.a.map D.str ++ L.b.map D.str)) h := fun h => mkT_le (by simp; omega)
  simp only [Lf.d] at g
  simp only [sD] at g i0 i1
  simp [d_Desk___len__, Lt.start, hn.look, e, nowD, Lf.d, sD, g, i0, i1, m]
theorem fn_str [Hf P "Desk.__str__" d_Desk___str__] [Hf P "Desk.waiting" d_Desk_waiting] [Hf P "gained" d_gained] [Hf P "is_more" d_is_more] [Hf P "is_even" d_is_even] [Hf P "all_betters" d_all_betters] [Hf P "may_strike" d_may_strike] [Hf P "all_strikes" d_all_strikes] (O : T.Ok) (F : L.Of T) (A : DAt h n nd nu B T L ds us) (l : LowH h) :
    (calls P (k + 7)).fn "Desk.__str__" [.loc n] h = .ok (.str (deskTx L.a.length L.b.length (sts T L false).length)) h := by
  refine fnTruncS (d := d_Desk___str__) Hf.look rfl rfl ?_ l rfl
  have e := fld_n A.o
  have h1 : L.a.length ≤ 4 := F.le4 O false
  have h2 : L.b.length ≤ 4 := F.le4 O true
  have h3 := sts_len (e := false) O F
  have g : L2.atI [T.d, L.d] 1 = some L.d := at1
  have i0 : ∀ h, getD L.d (.int 0) h = some (sD L.a) := fun h => L.ix false h
  have i1 : ∀ h, getD L.d (.int 1) h = some (sD L.b) := fun h => L.ix true h
  have w := fn_waiting (P := P) (k := k) O F A l
  have rv : recvO "Desk" (Str.ofString "waiting") (.loc n) h = true := recv_ok (by decide +kernel) A.o
  show (evSs (calls P (k + 6)) (.cons (.set 1 (.ix (.fld (.var 0) (Str.ofString "now")) (.int 1))) (.cons (.ret (.fstr (.cons (.blt false "len" (.cons (.ix (.var 1) (.int 0)) .nil)) (.cons (.str (Str.ofString " and ")) (.cons (.blt false "len" (.cons (.ix (.var 1) (.int 1)) .nil)) (.cons (.str (Str.ofString " left, ")) (.cons (.blt false "len" (.cons (.mcall "Desk.waiting" (Str.ofString "waiting") (.var 0) .nil) .nil)) (.cons (.str (Str.ofString " waiting")) .nil)))))))) .nil)) [some (.loc n), none] h).out = _
  have s1 : evS (calls P (k + 6)) (.set 1 (.ix (.fld (.var 0) (Str.ofString "now")) (.int 1))) [some (.loc n), none] h = .nx [some (.loc n), some L.d] h := by
    simp [hn.look, e, nowD, g, setE]
  rw [seqNx s1]
  rw [evSs, evS_ret, evF_desk (a := L.a.length) (b := L.b.length) (c := (sts T L false).length) (by omega) (by omega) (by omega) (by simp [i0, sD]) (by simp [i1, sD]) (by simp [hn.look, rv, w])]
  simp
end
end Q

/-! Desks: become, new ones, strikings, changes. -/
namespace Q
open Lt PySem
section
variable {h : MHeap} {n nd nu : Nat} {B T T' : Tb} {L L' : Lf} {ds us : List Dd} {deed : D} {P : Prg} [hn : Hn P] {k : Nat}
/-- the heap behind a deed -/
def becH (h : MHeap) (n nd : Nat) (B T' : Tb) (L' : Lf) (ds' : List Dd) : MHeap := ((h.set nd (.lst (ds'.map Dd.d))) ++ [MObj.lst []]).set n (deskO B T' L' nd h.length)
theorem Dd.low {x : Dd} {N : Nat} (h : plD x.deed = true) : D.low N x.d = true := free_low (pl_free (by simp [Dd.d, nowD, plD, plL, h]))
theorem dds_low {l : List Dd} {N : Nat} (h : ∀ x ∈ l, plD x.deed = true) : D.lowL N (l.map Dd.d) = true := free_lowL (pl_freeL (plL_iff.mpr fun d hd => by
  obtain ⟨x, hx, rfl⟩ := List.mem_map.mp hd
  simp [Dd.d, nowD, plD, plL, h x hx]))
theorem becH_low (A : DAt h n nd nu B T L ds us) (l : LowH h) {ds' : List Dd} (hd : ∀ x ∈ ds', plD x.deed = true) : LowH (becH h n nd B T' L' ds') := by
  have l1 : LowH (h.set nd (.lst (ds'.map Dd.d))) := l.set (dds_low hd)
  have l2 := l1.app (o := .lst []) rfl
  refine l2.set (desk_low ?_ ?_)
  · have := A.lt_d; simp; omega
  · simp
theorem becH_fr (A : DAt h n nd nu B T L ds us) {ds' : List Dd} : Fr n nd h (becH h n nd B T' L' ds') := Fr.set2.trans (Fr.app.trans Fr.set1)
theorem becH_at (A : DAt h n nd nu B T L ds us) {ds' : List Dd} : DAt (becH h n nd B T' L' ds') n nd h.length B T' L' ds' [] := by
  have ln := A.lt_n
  have ld := A.lt_d
  have ne := A.nd_ne
  refine ⟨?_, ?_, ?_, by omega⟩
  · rw [becH, List.getElem?_set_self (by simp; omega)]
  · rw [becH, List.getElem?_set_ne ne, List.getElem?_append_left (by simpa using ld), List.getElem?_set_self ld]
  · rw [becH, List.getElem?_set_ne (by omega)]
    have := hp_at (h.set nd (.lst (ds'.map Dd.d))) [] (.lst [])
    rw [List.length_set] at this
    exact this
theorem fn_become [Hf P "Desk.become" d_Desk_become] (A : DAt h n nd nu B T L ds us) (hb : ds.length ≤ 1000) : (calls P (k + 1)).fn "Desk.become" [.loc n, deed, nowD T' L'] h = .ok .non (becH h n nd B T' L' (ds ++ [Dd.mk deed T L])) := by
  have ne := A.nd_ne
  have e1 := fld_d A.o
  have e2 := fld_n A.o
  have rc : recvD "append" (.loc nd) h = true := rcvO A.d
  have ap := appO (x := (Dd.mk deed T L).d) A.d (Nat.lt_of_le_of_lt (show (ds.map Dd.d).length ≤ 1000 by simpa using hb) (by decide))
  have ee : ds.map Dd.d ++ [(Dd.mk deed T L).d] = (ds ++ [Dd.mk deed T L]).map Dd.d := by simp
  rw [ee] at ap
  generalize ds ++ [Dd.mk deed T L] = ds' at ap ⊢
  have two : ∀ (x y : D) (h : MHeap), mkT [x, y] h = .ok (.tup [x, y]) h := fun _ _ _ => rfl
  rw [fnRaw (d := d_Desk_become) Hf.look rfl rfl]
  show (evSs (calls P k) (.cons (.expr (.meth "append" (.fld (.var 0) (Str.ofString "done")) (.cons (.tup (.cons (.var 1) (.cons (.fld (.var 0) (Str.ofString "now")) .nil))) .nil))) (.cons (.setf (.var 0) (Str.ofString "undone") (.lst true .nil)) (.cons (.setf (.var 0) (Str.ofString "now") (.var 2)) .nil))) [some (.loc n), some deed, some (nowD T' L')] h).out = _
  have s1 : evS (calls P k) (.expr (.meth "append" (.fld (.var 0) (Str.ofString "done")) (.cons (.tup (.cons (.var 1) (.cons (.fld (.var 0) (Str.ofString "now")) .nil))) .nil))) [some (.loc n), some deed, some (nowD T' L')] h = .nx [some (.loc n), some deed, some (nowD T' L')] (h.set nd (.lst (ds'.map Dd.d))) := by
    simp only [Dd.d] at ap
    simp [hn.look, e1, e2, rc, two, ap]
  have o1 : (h.set nd (.lst (ds'.map Dd.d)) ++ [MObj.lst []])[n]? = some (deskO B T L nd nu) := by
    rw [List.getElem?_append_left (by rw [List.length_set]; exact A.lt_n), List.getElem?_set_ne (Ne.symm ne)]
    exact A.o
  have s2 : evS (calls P k) (.setf (.var 0) (Str.ofString "undone") (.lst true .nil)) [some (.loc n), some deed, some (nowD T' L')] (h.set nd (.lst (ds'.map Dd.d))) = .nx [some (.loc n), some deed, some (nowD T' L')] ((h.set nd (.lst (ds'.map Dd.d)) ++ [MObj.lst []]).set n (deskO B T L nd h.length)) := by
    have su := set_u (nu' := h.length) o1
    rw [evS_setf, evE_lst, evEs_nil, bindOk, mkL_own (xs := []) (by decide), flOk, List.length_set]
    simp [hn.look, su]
  have o2 : ((h.set nd (.lst (ds'.map Dd.d)) ++ [MObj.lst []]).set n (deskO B T L nd h.length))[n]? = some (deskO B T L nd h.length) := List.getElem?_set_self (by simp; have := A.lt_n; omega)
  have s3 : evS (calls P k) (.setf (.var 0) (Str.ofString "now") (.var 2)) [some (.loc n), some deed, some (nowD T' L')] ((h.set nd (.lst (ds'.map Dd.d)) ++ [MObj.lst []]).set n (deskO B T L nd h.length)) = .nx [some (.loc n), some deed, some (nowD T' L')] (becH h n nd B T' L' ds') := by
    have sn := set_n (T' := T') (L' := L') o2
    rw [List.set_set] at sn
    simp [hn.look, sn, becH]
  rw [seqNx s1, seqNx s2, seqOne s3]
  rfl
/-! ### a new desk -/
def Tb.all (T : Tb) : Lf := ⟨T.os, T.ts⟩
theorem fn_init [Hf P "Desk.__init__" d_Desk___init__] [Hf P "all_left" d_all_left] [Hf P "is_table" d_is_table] [Hf P "are_choices" d_are_choices] [Hf P "is_name" d_is_name] [Hf P "is_rising" d_is_rising] [Hf P "is_cell" d_is_cell] [Hf P "is_number" d_is_number] [Hc P "LETTERS" (.str (Str.ofString "abcdefghijklmnopqrstuvwxyz"))] [Hc P "FAR" (.int 99)]
    (hs : sm 4 T.d = true) (ht : isTable T.d = true) : (calls P (k + 4)).fn "Desk.__init__" [.loc h.length, T.d] (h ++ [.ins "Desk" []]) = .ok .non (h ++ [deskO T T T.all (h.length + 1) (h.length + 2), .lst [], .lst []]) := by
  rw [fnRaw (d := d_Desk___init__) Hf.look rfl rfl]
  have e1 := fun h => fn_is_table (P := P) (k := k) (h := h) hs
  have e2 := fun h => fn_all_left (P := P) (k := k + 2) (h := h) (o := sD T.os) (t := sD T.ts) (c := .tup (T.cs.map rD)) (by simp) (by simp) (by
    have := T.free
    simp only [Tb.d, free_tup, freeL_cons, Bool.and_eq_true] at this
    simpa using this.2.2.1)
  have two : ∀ (x y : D) (h : MHeap), mkT [x, y] h = .ok (.tup [x, y]) h := fun _ _ _ => rfl
  have al : ∀ h, (calls P (k + 3)).fn "all_left" [T.d] h = .ok T.all.d h := fun h => e2 h
  let σ : Lt.Env := [some (.loc h.length), some T.d]
  let i0 : MObj := .ins "Desk" []
  let i1 : MObj := .ins "Desk" [(kB, T.d)]
  let i2 : MObj := .ins "Desk" [(kB, T.d), (kN, nowD T T.all)]
  let i3 : MObj := .ins "Desk" [(kB, T.d), (kN, nowD T T.all), (kD, .loc (h.length + 1))]
  have st : ∀ (fs : List (Str × D)) (f : Str) (v : D) (ex : MHeap), fs.length < 1000 → setfD "Desk" (.loc h.length) f v (h ++ .ins "Desk" fs :: ex) = some (h ++ .ins "Desk" (putFd f v fs) :: ex) := fun fs f v ex hl => by
    simp only [setfD, insOf, hp_at, if_true, if_pos hl, hp_set]
  show (evSs (calls P (k + 3)) (.cons (.ite (.not (.call "is_table" (.cons (.var 1) .nil))) (.cons (.raise "BadTable") .nil) .nil) (.cons (.setf (.var 0) (Str.ofString "begun") (.var 1)) (.cons (.setf (.var 0) (Str.ofString "now") (.tup (.cons (.var 1) (.cons (.call "all_left" (.cons (.var 1) .nil)) .nil)))) (.cons (.setf (.var 0) (Str.ofString "done") (.lst true .nil)) (.cons (.setf (.var 0) (Str.ofString "undone") (.lst true .nil)) .nil))))) σ (h ++ [i0])).out = _
  have s0 : evS (calls P (k + 3)) (.ite (.not (.call "is_table" (.cons (.var 1) .nil))) (.cons (.raise "BadTable") .nil) .nil) σ (h ++ [i0]) = .nx σ (h ++ [i0]) := by
    simp [σ, e1, ht]
  have s1 : evS (calls P (k + 3)) (.setf (.var 0) (Str.ofString "begun") (.var 1)) σ (h ++ [i0]) = .nx σ (h ++ [i1]) := by
    have := st [] (Str.ofString "begun") T.d [] (by decide)
    simp [σ, hn.look, i0, this]
    rfl
  have s2 : evS (calls P (k + 3)) (.setf (.var 0) (Str.ofString "now") (.tup (.cons (.var 1) (.cons (.call "all_left" (.cons (.var 1) .nil)) .nil)))) σ (h ++ [i1]) = .nx σ (h ++ [i2]) := by
    have := st [(kB, T.d)] (Str.ofString "now") (nowD T T.all) [] (by simp)
    simp only [nowD] at this
    simp [σ, hn.look, i1, al, two, this]
    rfl
  have s3 : evS (calls P (k + 3)) (.setf (.var 0) (Str.ofString "done") (.lst true .nil)) σ (h ++ [i2]) = .nx σ (h ++ [i3, .lst []]) := by
    have := st [(kB, T.d), (kN, nowD T T.all)] (Str.ofString "done") (.loc (h.length + 1)) [MObj.lst []] (by simp)
    rw [evS_setf, evE_lst, evEs_nil, bindOk, mkL_own (xs := []) (by decide), flOk]
    have ea : h ++ [i2] ++ [MObj.lst []] = h ++ i2 :: [MObj.lst []] := by simp
    have el : (h ++ [i2]).length = h.length + 1 := by simp
    rw [ea, el]
    simp [σ, hn.look, i2, this]
    rfl
  have s4 : evS (calls P (k + 3)) (.setf (.var 0) (Str.ofString "undone") (.lst true .nil)) σ (h ++ [i3, .lst []]) = .nx σ (h ++ [deskO T T T.all (h.length + 1) (h.length + 2), .lst [], .lst []]) := by
    have := st [(kB, T.d), (kN, nowD T T.all), (kD, .loc (h.length + 1))] (Str.ofString "undone") (.loc (h.length + 2)) [.lst [], .lst []] (by simp)
    rw [evS_setf, evE_lst, evEs_nil, bindOk, mkL_own (xs := []) (by decide), flOk]
    have ea : h ++ [i3, .lst []] ++ [MObj.lst []] = h ++ i3 :: [.lst [], .lst []] := by simp
    have el : (h ++ [i3, .lst []]).length = h.length + 2 := by simp
    rw [ea, el]
    simp [σ, hn.look, i3, this]
    rfl
  rw [seqNx s0, seqNx s1, seqNx s2, seqNx s3, seqOne s4]
  rfl
/-- Desk(thing) that is no table -/
theorem fn_init_bad [Hf P "Desk.__init__" d_Desk___init__] [Hf P "is_table" d_is_table] [Hf P "are_choices" d_are_choices] [Hf P "is_name" d_is_name] [Hf P "is_rising" d_is_rising] [Hf P "is_cell" d_is_cell] [Hf P "is_number" d_is_number] [Hc P "LETTERS" (.str (Str.ofString "abcdefghijklmnopqrstuvwxyz"))] [Hc P "FAR" (.int 99)]
    {x : D} {m : Nat} (hs : sm m x = true) (ht : isTable x = false) {i : Nat} : (calls P (k + 4)).fn "Desk.__init__" [.loc i, x] h = .ex "BadTable" h := by
  rw [fnRaw (d := d_Desk___init__) Hf.look rfl rfl]
  have e1 := fun h => fn_is_table (P := P) (k := k) (h := h) hs
  simp [d_Desk___init__, Lt.start, e1, ht]
end
end Q

/-! Deeds at a desk. -/
namespace Q
open Lt PySem
/-- a drawn deed: a side, or none -/
inductive Deed where
  | strike (sv : Option Bool) (m : Str)
  | change (sv : Option Bool) (m t : Str) (x : Int)
def sideS : Option Bool → D
  | some s => .int (sI s)
  | none => .int 2
def sideC : Option Bool → D
  | some s => .int (sI s)
  | none => .non
def Deed.word : Deed → Str
  | .strike _ _ => Str.ofString "strike"
  | .change _ _ _ _ => Str.ofString "change"
def Deed.vals : Deed → D
  | .strike sv m => .tup [sideS sv, .str m]
  | .change sv m t x => .tup [sideC sv, .str m, .str t, .int x]
def Deed.d (w : Deed) : D := .tup [.str w.word, w.vals]
/-- what may be handed in -/
structure Deed.Ok (w : Deed) : Prop where
  s : ∀ sv m, w = .strike sv m → okS m = true
  c : ∀ sv m t x, w = .change sv m t x → okS m = true ∧ okS t = true ∧ -99 ≤ x ∧ x ≤ 1000
inductive Res where
  | no (x : String)
  | ok (T : Tb) (L : Lf)
/-- what comes of a deed -/
def Deed.go (T : Tb) (L : Lf) : Deed → Res
  | .strike none _ => .no "NoSide"
  | .strike (some s) m => if m ∈ L.nm s then (if mayB T L false s m then .ok T (L.wo s m) else .no "NoStrike") else .no "NoChoice"
  | .change none _ _ _ => .no "NoSide"
  | .change (some s) m t x => if m ∈ T.nm s then (if t ∈ T.nm !s then (if x ≤ 99 then (if T.gn s m t = x then .no "Same" else .ok (T.put s m t x) L) else .no "NoNumber") else .no "NoChoice") else .no "NoChoice"
theorem sideS_sm (sv : Option Bool) : sm 0 (sideS sv) = true := by cases sv <;> rfl
theorem sideC_sm (sv : Option Bool) : sm 0 (sideC sv) = true := by cases sv <;> rfl
theorem pl_vals (w : Deed) : plD w.vals = true := by
  cases w with
  | strike sv m => cases sv <;> rfl
  | change sv m t x => cases sv <;> rfl
theorem pl_deed (w : Deed) : plD w.d = true := by simp [Deed.d, plD, plL, pl_vals]
section
variable {h : MHeap} {n nd nu : Nat} {B T T' : Tb} {L L' : Lf} {ds us : List Dd} {P : Prg} [hn : Hn P] {k : Nat}
variable [Hf P "Desk.become" d_Desk_become] [Hf P "Desk.strike" d_Desk_strike] [Hf P "look_side" d_look_side] [Hf P "is_number" d_is_number] [Hf P "look_choice" d_look_choice] [Hf P "gained" d_gained] [Hf P "is_more" d_is_more] [Hf P "is_even" d_is_even] [Hf P "all_betters" d_all_betters] [Hf P "may_strike" d_may_strike] [Hf P "without" d_without]
theorem hasS_str {l : List Str} {m : Str} : hasS l (.str m) = decide (m ∈ l) := rfl
theorem fn_desk_strike (O : T.Ok) (F : L.Of T) (A : DAt h n nd nu B T L ds us) (hb : ds.length ≤ 1000) {sv : Option Bool} {m : Str} (hm : okS m = true) :
    (calls P (k + 5)).fn "Desk.strike" [.loc n, sideS sv, .str m] h = (match Deed.go T L (.strike sv m) with
      | .no x => .ex x h
      | .ok T' L' => .ok .non (becH h n nd B T' L' (ds ++ [Dd.mk (Deed.strike sv m).d T L]))) := by
  rw [fnRaw (d := d_Desk_strike) Hf.look rfl rfl]
  have e := fld_n A.o
  have ls := fun h => fn_look_side (P := P) (k := k + 2) (h := h) (sideS_sm sv)
  show (evSs (calls P (k + 4)) (.cons (.unp [.name 3, .name 4] (.fld (.var 0) (Str.ofString "now"))) (.cons (.expr (.call "look_side" (.cons (.var 1) .nil))) (.cons (.expr (.call "look_choice" (.cons (.ix (.var 4) (.var 1)) (.cons (.var 2) .nil)))) (.cons (.ite (.not (.call "may_strike" (.cons (.var 3) (.cons (.var 4) (.cons (.str (Str.ofString "plain")) (.cons (.var 1) (.cons (.var 2) .nil))))))) (.cons (.raise "NoStrike") .nil) .nil) (.cons (.expr (.mcall "Desk.become" (Str.ofString "become") (.var 0) (.cons (.tup (.cons (.str (Str.ofString "strike")) (.cons (.tup (.cons (.var 1) (.cons (.var 2) .nil))) .nil))) (.cons (.tup (.cons (.var 3) (.cons (.call "without" (.cons (.var 4) (.cons (.var 1) (.cons (.var 2) .nil)))) .nil))) .nil)))) .nil))))) [some (.loc n), some (sideS sv), some (.str m), none, none] h).out = _
  have s1 : evS (calls P (k + 4)) (.unp [.name 3, .name 4] (.fld (.var 0) (Str.ofString "now"))) [some (.loc n), some (sideS sv), some (.str m), none, none] h = .nx [some (.loc n), some (sideS sv), some (.str m), some T.d, some L.d] h := by
    simp [hn.look, e, nowD, bindT, bindTs]
  rw [seqNx s1]
  cases sv with
  | none =>
    have l1 := ls h
    rw [if_neg (by decide)] at l1
    simp [Deed.go, l1]
  | some s =>
    have l1 := ls h
    rw [if_pos (by cases s <;> rfl)] at l1
    have lc := fn_look_choice (P := P) (k := k + 3) (h := h) (n := 0) (F.okS O (s := s)) (okS_sm hm) (by decide)
    have ix := L.ix s h
    have s2 : evS (calls P (k + 4)) (.expr (.call "look_side" (.cons (.var 1) .nil))) [some (.loc n), some (sideS (some s)), some (.str m), some T.d, some L.d] h = .nx [some (.loc n), some (sideS (some s)), some (.str m), some T.d, some L.d] h := by
      simp [l1]
    rw [seqNx s2]
    have r : Str.ofString "plain" = ruS false := rfl
    by_cases q : m ∈ L.nm s
    · rw [if_pos (by simp [hasS_str, q])] at lc
      have ms := fn_may_strike (P := P) (k := k) (e := false) (h := h) O F q
      have s3 : evS (calls P (k + 4)) (.expr (.call "look_choice" (.cons (.ix (.var 4) (.var 1)) (.cons (.var 2) .nil)))) [some (.loc n), some (sideS (some s)), some (.str m), some T.d, some L.d] h = .nx [some (.loc n), some (sideS (some s)), some (.str m), some T.d, some L.d] h := by
        simp [sideS, ix, lc]
      rw [seqNx s3]
      cases qm : mayB T L false s m with
      | false =>
        rw [qm] at ms
        simp [sideS, r, ms, Deed.go, q, qm]
      | true =>
        rw [qm] at ms
        have wo := fn_without (P := P) (k := k + 3) (h := h) O F q
        have bc := fn_become (P := P) (k := k + 3) (T' := T) (L' := L.wo s m) (deed := (Deed.strike (some s) m).d) A hb
        have rv : recvO "Desk" (Str.ofString "become") (.loc n) h = true := recv_ok (by decide +kernel) A.o
        have two : ∀ (x y : D) (h : MHeap), mkT [x, y] h = .ok (.tup [x, y]) h := fun _ _ _ => rfl
        simp only [Deed.d, Deed.word, Deed.vals, sideS, nowD] at bc
        simp [sideS, r, ms, Deed.go, q, qm, hn.look, rv, two, wo, bc, Deed.d, Deed.word, Deed.vals]
    · rw [if_neg (by simp [hasS_str, q])] at lc
      simp [sideS, ix, lc, Deed.go, q]
theorem neg_int {C : Calls} {a : ME} {σ : Lt.Env} {h h' : MHeap} {i : Int} (e : evE C a σ h = .ok (.int i) h') : evE C (.neg a) σ h = .ok (.int (-i)) h' := by simp [e]
variable [Hf P "Desk.change" d_Desk_change] [Hf P "numbers_of" d_numbers_of] [Hf P "with_numbers" d_with_numbers] [hfar : Hc P "FAR" (.int 99)]
/-- the heap behind a change -/
theorem fn_desk_change (O : T.Ok) (F : L.Of T) (A : DAt h n nd nu B T L ds us) (l : LowH h) (hb : ds.length ≤ 1000) {sv : Option Bool} {m t : Str} {x : Int} (hm : okS m = true) (ht : okS t = true) (hx : -99 ≤ x) :
    (calls P (k + 5)).fn "Desk.change" [.loc n, sideC sv, .str m, .str t, .int x] h = (match Deed.go T L (.change sv m t x) with
      | .no x => .ex x h
      | .ok T' L' => .ok .non (becH (h ++ [.lst (((T.ns (sv.getD false) m).set ((T.nm !(sv.getD false)).idxOf t) x).map .int)]) n nd B T' L' (ds ++ [Dd.mk (Deed.change sv m t x).d T L]))) := by
  rw [fnRaw (d := d_Desk_change) Hf.look rfl rfl]
  have e := fld_n A.o
  have ls := fun h => fn_look_side (P := P) (k := k + 2) (h := h) (sideC_sm sv)
  let S : MSs → MSs := fun r => .cons (.expr (.call "look_choice" (.cons (.ix (.var 5) (.var 1)) (.cons (.var 2) .nil)))) (.cons (.expr (.call "look_choice" (.cons (.ix (.var 5) (.bin false .Sub (.int 1) (.var 1))) (.cons (.var 3) .nil)))) r)
  let S4 : MS := .ite (.not (.call "is_number" (.cons (.var 4) (.cons (.neg (.glob "FAR")) (.cons (.glob "FAR") .nil))))) (.cons (.raise "NoNumber") .nil) .nil
  let S5 : MS := .ite (.cmp .Eq (.call "gained" (.cons (.var 5) (.cons (.var 1) (.cons (.var 2) (.cons (.var 3) .nil))))) (.var 4)) (.cons (.raise "Same") .nil) .nil
  let S6 : MS := .set 7 (.call "numbers_of" (.cons (.var 5) (.cons (.var 1) (.cons (.var 2) .nil))))
  let S7 : MS := .put (.var 7) (.meth "index" (.ix (.var 5) (.bin false .Sub (.int 1) (.var 1))) (.cons (.var 3) .nil)) (.var 4)
  let S8 : MS := .expr (.mcall "Desk.become" (Str.ofString "become") (.var 0) (.cons (.tup (.cons (.str (Str.ofString "change")) (.cons (.tup (.cons (.var 1) (.cons (.var 2) (.cons (.var 3) (.cons (.var 4) .nil))))) .nil))) (.cons (.tup (.cons (.call "with_numbers" (.cons (.var 5) (.cons (.var 1) (.cons (.var 2) (.cons (.var 7) .nil))))) (.cons (.var 6) .nil))) .nil)))
  let E7 : Option D → Lt.Env := fun v => [some (.loc n), some (sideC sv), some (.str m), some (.str t), some (.int x), some T.d, some L.d, v]
  show (evSs (calls P (k + 4)) (.cons (.unp [.name 5, .name 6] (.fld (.var 0) (Str.ofString "now"))) (.cons (.expr (.call "look_side" (.cons (.var 1) .nil))) (S (.cons S4 (.cons S5 (.cons S6 (.cons S7 (.cons S8 .nil)))))))) [some (.loc n), some (sideC sv), some (.str m), some (.str t), some (.int x), none, none, none] h).out = _
  have s1 : evS (calls P (k + 4)) (.unp [.name 5, .name 6] (.fld (.var 0) (Str.ofString "now"))) [some (.loc n), some (sideC sv), some (.str m), some (.str t), some (.int x), none, none, none] h = .nx (E7 none) h := by
    simp [hn.look, e, nowD, bindT, bindTs, E7]
  rw [seqNx s1]
  cases sv with
  | none =>
    have l1 := ls h
    rw [if_neg (by decide)] at l1
    simp [Deed.go, l1, E7]
  | some s =>
    have l1 := ls h
    rw [if_pos (by cases s <;> rfl)] at l1
    have lc := fn_look_choice (P := P) (k := k + 3) (h := h) (n := 0) (O.nms s) (okS_sm hm) (by decide)
    have lt := fn_look_choice (P := P) (k := k + 3) (h := h) (n := 0) (O.nms !s) (okS_sm ht) (by decide)
    have ix := fun h => T.ix s h
    have ix' := fun h => T.ix' s h
    have s2 : evS (calls P (k + 4)) (.expr (.call "look_side" (.cons (.var 1) .nil))) (E7 none) h = .nx (E7 none) h := by
      simp [l1, E7]
    rw [seqNx s2]
    by_cases q : m ∈ T.nm s
    case neg =>
      rw [if_neg (by simp [hasS_str, q])] at lc
      simp [S, E7, sideC, ix, lc, Deed.go, q]
    rw [if_pos (by simp [hasS_str, q])] at lc
    have s3 : evS (calls P (k + 4)) (.expr (.call "look_choice" (.cons (.ix (.var 5) (.var 1)) (.cons (.var 2) .nil)))) (E7 none) h = .nx (E7 none) h := by
      simp [E7, sideC, ix, lc]
    show (evSs (calls P (k + 4)) (.cons (.expr (.call "look_choice" (.cons (.ix (.var 5) (.var 1)) (.cons (.var 2) .nil)))) (.cons (.expr (.call "look_choice" (.cons (.ix (.var 5) (.bin false .Sub (.int 1) (.var 1))) (.cons (.var 3) .nil)))) _)) (E7 none) h).out = _
    rw [seqNx s3]
    by_cases q2 : t ∈ T.nm !s
    case neg =>
      rw [if_neg (by simp [hasS_str, q2])] at lt
      simp [E7, sideC, ix', lt, Deed.go, q, q2]
    rw [if_pos (by simp [hasS_str, q2])] at lt
    have s3' : evS (calls P (k + 4)) (.expr (.call "look_choice" (.cons (.ix (.var 5) (.bin false .Sub (.int 1) (.var 1))) (.cons (.var 3) .nil)))) (E7 none) h = .nx (E7 none) h := by
      simp [E7, sideC, ix', lt]
    rw [seqNx s3']
    have far : (calls P (k + 4)).cst "FAR" = some (.int 99) := by rw [calls_cst]; exact hfar.look
    have num := fun h => fn_is_number (P := P) (k := k + 3) (h := h) (n := 0) (x := .int x) (lo := -99) (hi := 99) rfl
    by_cases q3 : x ≤ 99
    case neg =>
      have nn : isNum (-99) 99 (.int x) = false := by simp [isNum]; omega
      rw [nn] at num
      have : evS (calls P (k + 4)) S4 (E7 none) h = .ex "NoNumber" (E7 none) h := by
        simp [S4, E7, hfar.look, num]
      rw [evSs, this]
      simp [Deed.go, q, q2, q3]
    have nn : isNum (-99) 99 (.int x) = true := by simp [isNum]; omega
    rw [nn] at num
    have s4 : evS (calls P (k + 4)) S4 (E7 none) h = .nx (E7 none) h := by
      simp [S4, E7, hfar.look, num]
    rw [seqNx s4]
    have gn := fun h => fn_gained (P := P) (k := k + 3) (h := h) O q q2
    by_cases q4 : T.gn s m t = x
    case pos =>
      have : evS (calls P (k + 4)) S5 (E7 none) h = .ex "Same" (E7 none) h := by
        simp [S5, E7, sideC, gn, q4]
      rw [evSs, this]
      simp [Deed.go, q, q2, q3, q4]
    have s5 : evS (calls P (k + 4)) S5 (E7 none) h = .nx (E7 none) h := by
      simp [S5, E7, sideC, gn, q4]
    rw [seqNx s5]
    have no := fn_numbers_of (P := P) (k := k + 2) (h := h) O q
    have s6 : evS (calls P (k + 4)) S6 (E7 none) h = .nx (E7 (some (.loc h.length))) (h ++ [.lst ((T.ns s m).map .int)]) := by
      simp [S6, E7, sideC, no, setE]
    rw [seqNx s6]
    have id := fun h => idx_ok (h := h) q2
    have nl : (T.ns s m).length = (T.nm !s).length := by simp [Tb.ns]
    have ij : (T.nm !s).idxOf t < (T.ns s m).length := by rw [nl]; exact List.idxOf_lt_length_iff.mpr q2
    have pd : putD (.loc h.length) (.int (((T.nm !s).idxOf t : Nat) : Int)) (.int x) (h ++ [.lst ((T.ns s m).map .int)]) = some (h ++ [.lst (((T.ns s m).set ((T.nm !s).idxOf t) x).map .int)]) := by
      have hh := hp_at h [] (.lst ((T.ns s m).map .int))
      simp only [putD, hh]
      have ixn : L2.ixN ((T.ns s m).map D.int).length (((T.nm !s).idxOf t : Nat) : Int) = some ((T.nm !s).idxOf t) := by
        unfold L2.ixN
        rw [List.length_map, if_pos (by omega), if_pos (by omega)]
        simp
      rw [ixn, Option.map_some, hp_set, List.map_set]
    have s7 : evS (calls P (k + 4)) S7 (E7 (some (.loc h.length))) (h ++ [.lst ((T.ns s m).map .int)]) = .nx (E7 (some (.loc h.length))) (h ++ [.lst (((T.ns s m).set ((T.nm !s).idxOf t) x).map .int)]) := by
      simp [S7, E7, sideC, ix', recv_idx, id, pd]
    rw [seqNx s7]
    have l2 : LowH (h ++ [.lst (((T.ns s m).set ((T.nm !s).idxOf t) x).map .int)]) := l.app (free_lowL (free_ints _))
    have wn := fn_with_numbers (P := P) (k := k + 3) (s := s) (m := m) (nums := (T.ns s m).set ((T.nm !s).idxOf t) x) (nD := .loc h.length) O hm (h0 := h ++ [.lst (((T.ns s m).set ((T.nm !s).idxOf t) x).map .int)]) (fun ex j hj => by
      have hh : (h ++ [.lst (((T.ns s m).set ((T.nm !s).idxOf t) x).map .int)] ++ ex)[h.length]? = some (.lst (((T.ns s m).set ((T.nm !s).idxOf t) x).map .int)) := by rw [List.append_assoc]; exact hp_at _ _ _
      simp only [getD, itemsOf, seqOf, hh]
      rw [at_nat, List.getElem?_map, List.getElem?_eq_getElem hj]
      rfl) (by simp [Tb.ns]) l2.all
    have A2 : DAt (h ++ [.lst (((T.ns s m).set ((T.nm !s).idxOf t) x).map .int)]) n nd nu B T L ds us := A.app
    have bc := fn_become (P := P) (k := k + 3) (T' := T.put s m t x) (L' := L) (deed := (Deed.change (some s) m t x).d) A2 hb
    have rv : recvO "Desk" (Str.ofString "become") (.loc n) (h ++ [.lst (((T.ns s m).set ((T.nm !s).idxOf t) x).map .int)]) = true := recv_ok (by decide +kernel) A2.o
    have two : ∀ (x y : D) (h : MHeap), mkT [x, y] h = .ok (.tup [x, y]) h := fun _ _ _ => rfl
    have four : ∀ (a b c d : D) (h : MHeap), mkT [a, b, c, d] h = .ok (.tup [a, b, c, d]) h := fun _ _ _ _ _ => rfl
    have eg : Deed.go T L (.change (some s) m t x) = .ok (T.put s m t x) L := by simp [Deed.go, q, q2, q3, q4]
    rw [eg]
    have ew : T.wn s m ((T.ns s m).set ((T.nm !s).idxOf t) x) = T.put s m t x := rfl
    rw [ew] at wn
    simp only [Option.getD_some]
    generalize h ++ [MObj.lst (((T.ns s m).set ((T.nm !s).idxOf t) x).map .int)] = h1 at *
    simp only [Deed.d, Deed.word, Deed.vals, sideC, nowD] at bc
    simp [S8, E7, sideC, hn.look, rv, two, four, wn, bc, Deed.d, Deed.word, Deed.vals]
end
end Q

/-! Deeds: the law's own reckoning; calls. -/
namespace Q
open Lt PySem
/-- a table with names in order, what is left of it -/
structure Gt (T : Tb) (L : Lf) : Prop where
  ok : T.Ok
  sub : ∀ s, (T.nm s).Sublist (allN s)
  F : L.Of T
theorem Gt.strike {T : Tb} {L : Lf} (G : Gt T L) {s : Bool} {m : Str} (hm : mayB T L false s m = true) : Gt T (L.wo s m) := by
  refine ⟨G.ok, G.sub, ⟨fun s' => ?_, fun s' => ?_, fun s' => ?_⟩⟩
  · have := G.F.sub s'
    cases s <;> cases s' <;> simp only [Lf.wo, Lf.nm, Bool.false_eq_true, if_false, if_true] at this ⊢
    · exact List.filter_sublist.trans this
    · exact this
    · exact this
    · exact List.filter_sublist.trans this
  · have key : (L.nm s).filter (· != m) ≠ [] := fun z => by
      simp only [mayB, Bool.false_eq_true, if_false, Bool.not_eq_true', List.isEmpty_eq_false_iff] at hm
      obtain ⟨b, hb⟩ := List.exists_mem_of_ne_nil _ hm
      obtain ⟨h1, h2⟩ := List.mem_filter.mp hb
      have ne : b ≠ m := fun w => by
        subst w
        rw [more_self G.F] at h2
        cases h2
      have : b ∈ (L.nm s).filter (· != m) := List.mem_filter.mpr ⟨h1, by simpa using ne⟩
      rw [z] at this
      cases this
    have old := G.F.ne s'
    cases s <;> cases s' <;> simp only [Lf.wo, Lf.nm, Bool.false_eq_true, if_false, if_true] at key old ⊢
    · exact key
    · exact old
    · exact old
    · exact key
  · have sub : ((L.wo s m).nm s').Sublist (allN s') := by
      have := (G.F.sub s').trans (G.sub s')
      cases s <;> cases s' <;> simp only [Lf.wo, Lf.nm, Bool.false_eq_true, if_false, if_true] at this ⊢
      · exact List.filter_sublist.trans this
      · exact this
      · exact this
      · exact List.filter_sublist.trans this
    exact (ord_ok sub).1
theorem Gt.change {T : Tb} {L : Lf} (G : Gt T L) {s : Bool} {m t : Str} {x : Int} (hm : m ∈ T.nm s) (hx : -99 ≤ x ∧ x ≤ 99) : Gt (T.put s m t x) L := by
  refine ⟨G.ok.put hm hx, fun s' => by rw [T.put_nm]; exact G.sub s', ⟨fun s' => by rw [T.put_nm]; exact G.F.sub s', G.F.ne, G.F.ris⟩⟩
theorem Gt.go {T T' : Tb} {L L' : Lf} (G : Gt T L) {w : Deed} (hw : w.Ok) (e : Deed.go T L w = .ok T' L') : Gt T' L' := by
  cases w with
  | strike sv m =>
    cases sv with
    | none => simp [Deed.go] at e
    | some s =>
      simp only [Deed.go] at e
      split at e
      · split at e
        · rename_i hm
          cases e
          exact G.strike hm
        · cases e
      · cases e
  | change sv m t x =>
    cases sv with
    | none => simp [Deed.go] at e
    | some s =>
      have hx := (hw.c _ _ _ _ rfl).2.2
      simp only [Deed.go] at e
      split at e
      · rename_i hm
        split at e
        · split at e
          · rename_i hx9
            split at e
            · cases e
            · cases e
              exact G.change hm ⟨hx.1, hx9⟩
          · cases e
        · cases e
      · cases e
theorem wordS_ok : okS (Str.ofString "strike") = true := by decide +kernel
theorem wordC_ok : okS (Str.ofString "change") = true := by decide +kernel
theorem eq_sS (h : MHeap) : eqD h (.str (Str.ofString "strike")) (.str (Str.ofString "strike")) = some true := by rw [eq_ss wordS_ok wordS_ok]; simp
theorem eq_cS (h : MHeap) : eqD h (.str (Str.ofString "change")) (.str (Str.ofString "strike")) = some false := by
  rw [eq_ss wordC_ok wordS_ok]
  exact congrArg some (by decide +kernel)
section
variable {h : MHeap} {n nd nu : Nat} {B T T' : Tb} {L L' : Lf} {ds us : List Dd} {P : Prg} [hn : Hn P] {k : Nat} {w : Deed}
variable [Hf P "Desk.become" d_Desk_become] [Hf P "Desk.strike" d_Desk_strike] [Hf P "look_side" d_look_side] [Hf P "is_number" d_is_number] [Hf P "look_choice" d_look_choice] [Hf P "gained" d_gained] [Hf P "is_more" d_is_more] [Hf P "is_even" d_is_even] [Hf P "all_betters" d_all_betters] [Hf P "may_strike" d_may_strike] [Hf P "without" d_without]
variable [Hf P "Desk.change" d_Desk_change] [Hf P "numbers_of" d_numbers_of] [Hf P "with_numbers" d_with_numbers] [hfar : Hc P "FAR" (.int 99)]
variable [hd : Hd P "_law_call" 3 3 .raw b__law_call]
/-- what a call makes of the heap -/
def CallO (P : Prg) (k : Nat) (h : MHeap) (n nd : Nat) (B T : Tb) (L : Lf) (ds : List Dd) (w : Deed) (o : Out D) : Prop :=
  match Deed.go T L w with
  | .no x => o = .ex x h
  | .ok T' L' => ∃ h' nu', o = .ok .non h' ∧ DAt h' n nd nu' B T' L' (ds ++ [Dd.mk w.d T L]) [] ∧ LowH h' ∧ Fr n nd h h' ∧ h.length ≤ nu'
theorem fn_law_call (G : Gt T L) (A : DAt h n nd nu B T L ds us) (l : LowH h) (hp : ∀ x ∈ ds, plD x.deed = true) (hb : ds.length ≤ 1000) (hw : w.Ok) :
    CallO P k h n nd B T L ds w ((calls P (k + 6)).fn "_law_call" [.loc n, .str w.word, w.vals] h) := by
  obtain ⟨ps, hps, hl⟩ := hd.look
  have ef : (calls P (k + 6)).fn "_law_call" [.loc n, .str w.word, w.vals] h = (evSs (calls P (k + 5)) b__law_call [some (.loc n), some (.str w.word), some w.vals] h).out := by
    rw [fnRaw (k := k + 5) (d := ⟨ps, 3, .raw, b__law_call⟩) hl rfl (by simp [hps])]
    rfl
  have hp' : ∀ (T0 : Tb) (L0 : Lf), ∀ x ∈ ds ++ [Dd.mk w.d T0 L0], plD x.deed = true := fun T0 L0 x hx => by
    rcases List.mem_append.mp hx with z | z
    · exact hp x z
    · rw [List.mem_singleton.mp z]; exact pl_deed w
  rw [ef]
  cases w with
  | strike sv m =>
    have r := fn_desk_strike (P := P) (k := k) G.ok G.F A hb (sv := sv) (hw.s _ _ rfl)
    have rv : recvO "Desk" (Str.ofString "strike") (.loc n) h = true := recv_ok (by decide +kernel) A.o
    have a0 : L2.atI [sideS sv, D.str m] 0 = some (sideS sv) := at0
    have a1 : L2.atI [sideS sv, D.str m] 1 = some (.str m) := at1
    have ev : (evSs (calls P (k + 5)) b__law_call [some (.loc n), some (.str (Deed.strike sv m).word), some (Deed.strike sv m).vals] h).out = (calls P (k + 5)).fn "Desk.strike" [.loc n, sideS sv, .str m] h := by
      simp [Deed.word, Deed.vals, eq_sS, hn.look, rv, a0, a1]
      cases (calls P (k + 5)).fn "Desk.strike" [.loc n, sideS sv, .str m] h <;> rfl
    rw [ev, r]
    unfold CallO
    cases q : Deed.go T L (.strike sv m) with
    | no x => rfl
    | ok T' L' => exact ⟨_, _, rfl, becH_at A, becH_low A l (hp' T L), becH_fr A, Nat.le_refl _⟩
  | change sv m t x =>
    obtain ⟨o1, o2, o3, _⟩ := hw.c _ _ _ _ rfl
    have r := fn_desk_change (P := P) (k := k) G.ok G.F A l hb (sv := sv) (m := m) (t := t) (x := x) o1 o2 o3
    have rv : recvO "Desk" (Str.ofString "change") (.loc n) h = true := recv_ok (by decide +kernel) A.o
    have a0 : L2.atI [sideC sv, D.str m, D.str t, D.int x] 0 = some (sideC sv) := at0
    have a1 : L2.atI [sideC sv, D.str m, D.str t, D.int x] 1 = some (.str m) := at1
    have a2 : L2.atI [sideC sv, D.str m, D.str t, D.int x] 2 = some (.str t) := rfl
    have a3 : L2.atI [sideC sv, D.str m, D.str t, D.int x] 3 = some (.int x) := rfl
    have ev : (evSs (calls P (k + 5)) b__law_call [some (.loc n), some (.str (Deed.change sv m t x).word), some (Deed.change sv m t x).vals] h).out = (calls P (k + 5)).fn "Desk.change" [.loc n, sideC sv, .str m, .str t, .int x] h := by
      simp [Deed.word, Deed.vals, eq_cS, hn.look, rv, a0, a1, a2, a3]
      cases (calls P (k + 5)).fn "Desk.change" [.loc n, sideC sv, .str m, .str t, .int x] h <;> rfl
    rw [ev, r]
    unfold CallO
    cases q : Deed.go T L (.change sv m t x) with
    | no x => rfl
    | ok T' L' =>
      have A2 := A.app (ex := [.lst (((T.ns (sv.getD false) m).set ((T.nm !(sv.getD false)).idxOf t) x).map .int)])
      exact ⟨_, _, rfl, becH_at A2, becH_low A2 (l.app (free_lowL (free_ints _))) (hp' T L), Fr.app.trans (becH_fr A2), by simp⟩
end
end Q

/-! Deeds drawn. -/
namespace Q
open Lt PySem
def zz : Str := Str.ofString "zz"
theorem zz_ok : okS zz = true := by decide +kernel
section
variable {P : Prg} {k : Nat} {ns : List Int} {T : Tb} [Hf P "_law_draw" d__law_draw] [hd : Hd P "_law_a_deed" 3 9 .trunc b__law_a_deed]
/-- a name drawn among some and one more -/
theorem pick {l : List Str} {i : Int} (h0 : 0 ≤ i) (h1 : i ≤ l.length) (hl : ∀ x ∈ l, okS x = true) : ∃ m, okS m = true ∧ L2.atI (l.map D.str ++ [D.str zz]) i = some (.str m) := by
  obtain ⟨j, rfl⟩ := Int.eq_ofNat_of_zero_le h0
  have hj : j ≤ l.length := by omega
  rw [at_nat]
  rcases Nat.lt_or_ge j l.length with q | q
  · exact ⟨l[j], hl _ (List.getElem_mem q), by rw [List.getElem?_append_left (by simpa using q), List.getElem?_map, List.getElem?_eq_getElem q]; rfl⟩
  · have : j = l.length := by omega
    subst this
    exact ⟨zz, zz_ok, by rw [List.getElem?_append_right (by simp)]; simp⟩
theorem dr {many : Int} (hns : ns.length ≤ 63) (hm : 0 < many) (hm2 : many < 1073741824) {rests : List (Ky × D)} {is : List Nat} {c : Int} {tl : MHeap} (hr : RestsOk rests is) (ht : TlF tl) :
    ∃ v rests' is', (calls P (k + 1)).fn "_law_draw" [.scr ns, .loc 1, .int many] (tw rests c tl) = .ok (.int v) (tw rests' (c + 1) tl) ∧ 0 ≤ v ∧ v < many ∧ RestsOk rests' is' := draw (k := k) Hf.look hns many hm hm2 hr ht
def dM (i : Nat) (many : ME) : ME := .call "_law_draw" (.cons (.var 0) (.cons (.var 1) (.cons many .nil)))
/-- a name drawn: _law_draw(.., len(names) if _law_draw(.., 6) == 0 else len(names) - 1) -/
def dN (i : Nat) : ME := .ix (.var i) (.call "_law_draw" (.cons (.var 0) (.cons (.var 1) (.cons (.ite (.cmp .Eq (.call "_law_draw" (.cons (.var 0) (.cons (.var 1) (.cons (.int 6) .nil)))) (.int 0)) (.blt false "len" (.cons (.var i) .nil)) (.bin false .Sub (.blt false "len" (.cons (.var i) .nil)) (.int 1))) .nil))))
theorem ev_dN (hns : ns.length ≤ 63) {σ : Lt.Env} {i : Nat} {l : List Str} (e0 : σ[0]? = some (some (.scr ns))) (e1 : σ[1]? = some (some (.loc 1))) (ei : σ[i]? = some (some (.tup (l.map D.str ++ [D.str zz])))) (hl : ∀ x ∈ l, okS x = true) (h1 : 1 ≤ l.length) (h4 : l.length ≤ 4) {rests : List (Ky × D)} {is : List Nat} {c : Int} {tl : MHeap} (hr : RestsOk rests is) (ht : TlF tl) :
    ∃ m rests' is' c', evE (calls P (k + 1)) (dN i) σ (tw rests c tl) = .ok (.str m) (tw rests' c' tl) ∧ okS m = true ∧ RestsOk rests' is' := by
  obtain ⟨v1, r1, i1, d1, p1, p2, k1⟩ := dr (P := P) (k := k) (many := 6) hns (by decide) (by decide) (c := c) hr ht
  have el : (l.map D.str ++ [D.str zz]).length = l.length + 1 := by simp
  by_cases q : v1 = 0
  · obtain ⟨v2, r2, i2, d2, p3, p4, k2⟩ := dr (P := P) (k := k) (many := ((l.length + 1 : Nat) : Int)) hns (by omega) (by omega) (c := c + 1) k1 ht
    obtain ⟨m, om, em⟩ := pick (l := l) p3 (by omega) hl
    refine ⟨m, r2, i2, c + 1 + 1, ?_, om, k2⟩
    have d2' := d2
    rw [show ((l.length + 1 : Nat) : Int) = (l.length : Int) + 1 by omega] at d2'
    simp [dN, e0, e1, ei, d1, q, d2', em]
  · obtain ⟨v2, r2, i2, d2, p3, p4, k2⟩ := dr (P := P) (k := k) (many := (l.length : Int)) hns (by omega) (by omega) (c := c + 1) k1 ht
    obtain ⟨m, om, em⟩ := pick (l := l) p3 (by omega) hl
    refine ⟨m, r2, i2, c + 1 + 1, ?_, om, k2⟩
    have e2 : (l.length : Int) + 1 - 1 = l.length := by omega
    simp [dN, e0, e1, ei, d1, q, e2, d2, em]
theorem fn_a_deed (hns : ns.length ≤ 63) (O : T.Ok) {rests : List (Ky × D)} {is : List Nat} {c : Int} {tl : MHeap} (hr : RestsOk rests is) (ht : TlF tl) :
    ∃ (w : Deed) (rests' : List (Ky × D)) (is' : List Nat) (c' : Int), (calls P (k + 2)).fn "_law_a_deed" [.scr ns, .loc 1, T.d] (tw rests c tl) = .ok w.d (tw rests' c' tl) ∧ RestsOk rests' is' ∧ w.Ok := by
  obtain ⟨ps, hps, hl⟩ := hd.look
  have C1 := calls P (k + 1)
  obtain ⟨v1, r1, i1, d1, p1, p2, k1⟩ := dr (P := P) (k := k) (many := 2) hns (by decide) (by decide) (c := c) hr ht
  obtain ⟨s, rfl⟩ : ∃ s : Bool, v1 = sI s := by
    rcases (show v1 = 0 ∨ v1 = 1 by omega) with z | z
    · exact ⟨false, z⟩
    · exact ⟨true, z⟩
  have l1 : ∀ s, 1 ≤ (T.nm s).length := fun s => by cases s; exact O.o1; exact O.t1
  have l4 : ∀ s, (T.nm s).length ≤ 4 := fun s => by cases s; exact O.o4; exact O.t4
  let E : Option D → Option D → Option D → Option D → Option D → Option D → Lt.Env := fun a b c d e f => [some (.scr ns), some (.loc 1), some T.d, a, b, c, d, e, f]
  let N : Bool → D := fun s => .tup ((T.nm s).map D.str ++ [D.str zz])
  let S1 : MS := .set 3 (.call "_law_draw" (.cons (.var 0) (.cons (.var 1) (.cons (.int 2) .nil))))
  let S2 : MS := .par [4, 5] (.cons (.bin false .Add (.ix (.var 2) (.var 3)) (.tup (.cons (.str (Str.ofString "zz")) .nil))) (.cons (.bin false .Add (.ix (.var 2) (.bin false .Sub (.int 1) (.var 3))) (.tup (.cons (.str (Str.ofString "zz")) .nil))) .nil))
  let S3 : MS := .set 6 (dN 4)
  let S4 : MS := .ite (.cmp .Gt (.call "_law_draw" (.cons (.var 0) (.cons (.var 1) (.cons (.int 3) .nil)))) (.int 0)) (.cons (.ret (.tup (.cons (.str (Str.ofString "strike")) (.cons (.tup (.cons (.ite (.cmp .Gt (.call "_law_draw" (.cons (.var 0) (.cons (.var 1) (.cons (.int 9) .nil)))) (.int 0)) (.var 3) (.int 2)) (.cons (.var 6) .nil))) .nil)))) .nil) .nil
  let S5 : MS := .set 7 (dN 5)
  let S6 : MS := .set 8 (.ite (.cmp .Gt (.call "_law_draw" (.cons (.var 0) (.cons (.var 1) (.cons (.int 8) .nil)))) (.int 0)) (.bin false .Sub (.call "_law_draw" (.cons (.var 0) (.cons (.var 1) (.cons (.int 12) .nil)))) (.int 3)) (.int 100))
  let S7 : MS := .ret (.tup (.cons (.str (Str.ofString "change")) (.cons (.tup (.cons (.ite (.cmp .Gt (.call "_law_draw" (.cons (.var 0) (.cons (.var 1) (.cons (.int 9) .nil)))) (.int 0)) (.var 3) .non) (.cons (.var 6) (.cons (.var 7) (.cons (.var 8) .nil))))) .nil)))
  have two : ∀ (x y : D) (h : MHeap), mkT [x, y] h = .ok (.tup [x, y]) h := fun _ _ _ => rfl
  have four : ∀ (a b c d : D) (h : MHeap), mkT [a, b, c, d] h = .ok (.tup [a, b, c, d]) h := fun _ _ _ _ _ => rfl
  have one : ∀ (x : D) (h : MHeap), mkT [x] h = .ok (.tup [x]) h := fun _ _ => rfl
  have mk : ∀ s h, mkT ((T.nm s).map D.str ++ [D.str zz]) h = .ok (N s) h := fun s h => mkT_le (by have := l4 s; simp; omega)
  have ix := fun h => T.ix s h
  have ix' := fun h => T.ix' s h
  have s1 : evS (calls P (k + 1)) S1 (E none none none none none none) (tw rests c tl) = .nx (E (some (.int (sI s))) none none none none none) (tw r1 (c + 1) tl) := by
    simp [S1, E, d1, setE]
  have s2 : evS (calls P (k + 1)) S2 (E (some (.int (sI s))) none none none none none) (tw r1 (c + 1) tl) = .nx (E (some (.int (sI s))) (some (N s)) (some (N !s)) none none none) (tw r1 (c + 1) tl) := by
    have z : Str.ofString "zz" = zz := rfl
    have m1 := mk s (tw r1 (c + 1) tl)
    have m2 := mk (!s) (tw r1 (c + 1) tl)
    simp [S2, E, ix, ix', one, z, sD, m1, m2, setEs]
  obtain ⟨m, r2, i2, c2, d2, om, k2⟩ := ev_dN (P := P) (k := k) hns (σ := E (some (.int (sI s))) (some (N s)) (some (N !s)) none none none) (i := 4) (l := T.nm s) rfl rfl rfl (O.nms s) (l1 s) (l4 s) (c := c + 1) k1 ht
  have s3 : evS (calls P (k + 1)) S3 (E (some (.int (sI s))) (some (N s)) (some (N !s)) none none none) (tw r1 (c + 1) tl) = .nx (E (some (.int (sI s))) (some (N s)) (some (N !s)) (some (.str m)) none none) (tw r2 c2 tl) := by
    simp only [S3, evS_set, d2, flOk]
    simp [E, setE]
  obtain ⟨v3, r3, i3, d3, p3, p4, k3⟩ := dr (P := P) (k := k) (many := 3) hns (by decide) (by decide) (c := c2) k2 ht
  have body : ∀ (w : Deed) (r' : List (Ky × D)) (is' : List Nat) (c' : Int), w.Ok → RestsOk r' is' → (evSs (calls P (k + 1)) (.cons S1 (.cons S2 (.cons S3 (.cons S4 (.cons S5 (.cons S6 (.cons S7 .nil))))))) (E none none none none none none) (tw rests c tl)).out = .ok w.d (tw r' c' tl) →
      ∃ (w : Deed) (rests' : List (Ky × D)) (is' : List Nat) (c' : Int), (calls P (k + 2)).fn "_law_a_deed" [.scr ns, .loc 1, T.d] (tw rests c tl) = .ok w.d (tw rests' c' tl) ∧ RestsOk rests' is' ∧ w.Ok := fun w r' is' c' hw hr' e => by
    refine ⟨w, r', is', c', ?_, hr', hw⟩
    have lw := LowH.tw (c := c') hr' ht
    have ll : (tw rests c tl).length = (tw r' c' tl).length := rfl
    have := fnTrunc (P := P) (k := k + 1) (f := "_law_a_deed") (d := ⟨ps, 9, .trunc, b__law_a_deed⟩) (xs := [.scr ns, .loc 1, T.d]) (h := tw rests c tl) (h' := tw r' c' tl) hl rfl (by simp [hps]) e (Nat.le_of_eq ll) (by rw [ll, List.take_length]; exact lw.all) (frz_free (pl_free (pl_deed w)))
    rw [ll, List.take_length] at this
    exact this
  by_cases q3 : 0 < v3
  · obtain ⟨v4, r4, i4, d4, p5, p6, k4⟩ := dr (P := P) (k := k) (many := 9) hns (by decide) (by decide) (c := c2 + 1) k3 ht
    refine body (.strike (if 0 < v4 then some s else none) m) r4 i4 (c2 + 1 + 1) ⟨fun _ _ e => by cases e; exact om, fun _ _ _ _ e => by cases e⟩ k4 ?_
    rw [seqNx s1, seqNx s2, seqNx s3]
    have s4 : evS (calls P (k + 1)) S4 (E (some (.int (sI s))) (some (N s)) (some (N !s)) (some (.str m)) none none) (tw r2 c2 tl) = .rt (Deed.strike (if 0 < v4 then some s else none) m).d (tw r4 (c2 + 1 + 1) tl) := by
      by_cases q4 : 0 < v4 <;> simp [S4, E, d3, q3, d4, q4, two, Deed.d, Deed.word, Deed.vals, sideS]
    rw [evSs, s4]
    rfl
  · have s4 : evS (calls P (k + 1)) S4 (E (some (.int (sI s))) (some (N s)) (some (N !s)) (some (.str m)) none none) (tw r2 c2 tl) = .nx (E (some (.int (sI s))) (some (N s)) (some (N !s)) (some (.str m)) none none) (tw r3 (c2 + 1) tl) := by
      simp [S4, E, d3, q3]
    obtain ⟨t, r5, i5, c5, d5, ot, k5⟩ := ev_dN (P := P) (k := k) hns (σ := E (some (.int (sI s))) (some (N s)) (some (N !s)) (some (.str m)) none none) (i := 5) (l := T.nm !s) rfl rfl rfl (O.nms !s) (l1 !s) (l4 !s) (c := c2 + 1) k3 ht
    have s5 : evS (calls P (k + 1)) S5 (E (some (.int (sI s))) (some (N s)) (some (N !s)) (some (.str m)) none none) (tw r3 (c2 + 1) tl) = .nx (E (some (.int (sI s))) (some (N s)) (some (N !s)) (some (.str m)) (some (.str t)) none) (tw r5 c5 tl) := by
      simp only [S5, evS_set, d5, flOk]
      simp [E, setE]
    obtain ⟨v6, r6, i6, d6, p7, p8, k6⟩ := dr (P := P) (k := k) (many := 8) hns (by decide) (by decide) (c := c5) k5 ht
    have s6 : ∃ (x : Int) (r7 : List (Ky × D)) (i7 : List Nat) (c7 : Int), evS (calls P (k + 1)) S6 (E (some (.int (sI s))) (some (N s)) (some (N !s)) (some (.str m)) (some (.str t)) none) (tw r5 c5 tl) = .nx (E (some (.int (sI s))) (some (N s)) (some (N !s)) (some (.str m)) (some (.str t)) (some (.int x))) (tw r7 c7 tl) ∧ RestsOk r7 i7 ∧ -99 ≤ x ∧ x ≤ 1000 := by
      by_cases q6 : 0 < v6
      · obtain ⟨v7, r7, i7, d7, p9, p10, k7⟩ := dr (P := P) (k := k) (many := 12) hns (by decide) (by decide) (c := c5 + 1) k6 ht
        exact ⟨v7 - 3, r7, i7, c5 + 1 + 1, by simp [S6, E, d6, q6, d7, setE], k7, by omega, by omega⟩
      · exact ⟨100, r6, i6, c5 + 1, by simp [S6, E, d6, q6, setE], k6, by decide, by decide⟩
    obtain ⟨x, r7, i7, c7, s6, k7, x1, x2⟩ := s6
    obtain ⟨v8, r8, i8, d8, p11, p12, k8⟩ := dr (P := P) (k := k) (many := 9) hns (by decide) (by decide) (c := c7) k7 ht
    refine body (.change (if 0 < v8 then some s else none) m t x) r8 i8 (c7 + 1) ⟨fun _ _ e => by (cases e), fun _ _ _ _ e => by (cases e; exact ⟨om, ot, x1, x2⟩)⟩ k8 ?_
    rw [seqNx s1, seqNx s2, seqNx s3, seqNx s4, seqNx s5, seqNx s6]
    have s7 : evS (calls P (k + 1)) S7 (E (some (.int (sI s))) (some (N s)) (some (N !s)) (some (.str m)) (some (.str t)) (some (.int x))) (tw r7 c7 tl) = .rt (Deed.change (if 0 < v8 then some s else none) m t x).d (tw r8 (c7 + 1) tl) := by
      by_cases q8 : 0 < v8 <;> simp [S7, E, d8, q8, two, four, Deed.d, Deed.word, Deed.vals, sideC]
    rw [evSs, s7]
    rfl
end
end Q

/-! New desks in the law's heap. -/
namespace Q
open Lt PySem
theorem choices_of {l : List Str} {s : Bool} (h : l.Sublist (allN s)) (ne : l ≠ []) : areChoices (sD l) = true := by
  have key : ∀ s : Bool, (subsS (allN s)).all (fun l => l.isEmpty || areChoices (sD l)) = true := by decide +kernel
  have := subS_all h (key s)
  simp only [Bool.or_eq_true, List.isEmpty_iff] at this
  exact this.resolve_left ne
theorem Gt.isTable {T : Tb} {L : Lf} (G : Gt T L) : isTable T.d = true := by
  refine isTable_of G.ok (choices_of (s := false) (G.sub false) fun z => ?_) (choices_of (s := true) (G.sub true) fun z => ?_)
  · have := G.ok.o1; rw [z] at this; simp at this
  · have := G.ok.t1; rw [z] at this; simp at this
theorem Tb.all_nm (T : Tb) (s : Bool) : T.all.nm s = T.nm s := by cases s <;> rfl
theorem Gt.begin {T : Tb} (O : T.Ok) (sub : ∀ s, (T.nm s).Sublist (allN s)) : Gt T T.all := by
  refine ⟨O, sub, ⟨fun s => by rw [T.all_nm]; exact List.Sublist.refl _, fun s => ?_, fun s => ?_⟩⟩
  · rw [T.all_nm]
    intro z
    have h1 : 1 ≤ (T.nm s).length := by cases s; exact O.o1; exact O.t1
    rw [z] at h1
    simp at h1
  · rw [T.all_nm]; exact (ord_ok (sub s)).1
theorem Gt.of {T : Tb} (h : T.Dr 4) : Gt T T.all := Gt.begin h.ok fun s => h.sub s
theorem Gt.again {T : Tb} {L : Lf} (G : Gt T L) : Gt T T.all := Gt.begin G.ok G.sub
def newH (h : MHeap) (T : Tb) : MHeap := h ++ [deskO T T T.all (h.length + 1) (h.length + 2), .lst [], .lst []]
section
variable {h : MHeap} {T : Tb} {L : Lf} {P : Prg} [hn : Hn P] {k : Nat}
theorem newH_at : DAt (newH h T) h.length (h.length + 1) (h.length + 2) T T T.all [] [] := by
  have e : newH h T = h ++ ([deskO T T T.all (h.length + 1) (h.length + 2), .lst [], .lst []] : MHeap) := rfl
  refine ⟨?_, ?_, ?_, by omega⟩
  · rw [e, List.getElem?_append_right (Nat.le_refl _)]; simp
  · rw [e, List.getElem?_append_right (by omega), show h.length + 1 - h.length = 1 by omega]; rfl
  · rw [e, List.getElem?_append_right (by omega), show h.length + 2 - h.length = 2 by omega]; rfl
theorem newH_low (l : LowH h) : LowH (newH h T) := fun o ho => by
  have el : (newH h T).length = h.length + 3 := by simp [newH]
  rw [el]
  simp only [newH, List.mem_append, List.mem_cons, List.not_mem_nil, or_false] at ho
  rcases ho with z | rfl | rfl | rfl
  · exact lowO_mono (by omega) (l o z)
  · exact desk_low (by omega) (by omega)
  · rfl
  · rfl
theorem newH_tw {rests : List (Ky × D)} {c : Int} {tl : MHeap} : newH (tw rests c tl) T = tw rests c (tl ++ [deskO T T T.all (tl.length + 3) (tl.length + 4), .lst [], .lst []]) := by
  simp [newH, tw]
variable [Hf P "Desk.__init__" d_Desk___init__] [Hf P "all_left" d_all_left] [Hf P "is_table" d_is_table] [Hf P "are_choices" d_are_choices] [Hf P "is_name" d_is_name] [Hf P "is_rising" d_is_rising] [Hf P "is_cell" d_is_cell] [Hf P "is_number" d_is_number] [Hc P "LETTERS" (.str (Str.ofString "abcdefghijklmnopqrstuvwxyz"))] [Hc P "FAR" (.int 99)]
theorem ev_new (G : Gt T L) : mkO h.length ((calls P (k + 4)).fn "Desk.__init__" [.loc h.length, T.d] (h ++ [.ins "Desk" []])) = .ok (.loc h.length) (newH h T) := by
  rw [fn_init G.ok.sm G.isTable]
  rfl
theorem ev_bad {x : D} {m : Nat} (hs : sm m x = true) (ht : isTable x = false) (l : LowH h) : mkO h.length ((calls P (k + 4)).fn "Desk.__init__" [.loc h.length, x] (h ++ [.ins "Desk" []])) = .ex "BadTable" h := by
  rw [fn_init_bad hs ht]
  have e : (h ++ [MObj.ins "Desk" []]).take h.length = h := by simp
  simp only [mkO]
  rw [if_pos (by rw [e, l.all]; simp), e]
end
end Q

/-! law k23: what the evaluator says. -/
namespace P23
open Lt PySem Q
variable {ns : List Int} {B T T' : Tb} {L L' : Lf} {h : MHeap} {n nd nu : Nat} {ds us : List Dd} {w : Deed}
/-! ### _law_plain -/
def dueD : Res → D
  | .no x => .tup [.str (Str.ofString ((exWord x).getD ""))]
  | .ok _ _ => .tup [.str (Str.ofString "told"), .non]
def resT (T : Tb) : Res → Tb
  | .no _ => T
  | .ok T' _ => T'
def resL (L : Lf) : Res → Lf
  | .no _ => L
  | .ok _ L' => L'
theorem one (x : D) (h : MHeap) : mkT [x] h = .ok (.tup [x]) h := rfl
theorem two (x y : D) (h : MHeap) : mkT [x, y] h = .ok (.tup [x, y]) h := rfl
theorem three (x y z : D) (h : MHeap) : mkT [x, y, z] h = .ok (.tup [x, y, z]) h := rfl
theorem in_sts (O : T.Ok) (F : L.Of T) {e s : Bool} {c : Str} (hc : c ∈ L.nm s) : inD h (stD s c) (.lst (sts T L e)) = some (mayB T L e s c) := by
  have ost : ∀ (n : Nat) (s : Bool) (c : Str), okS c = true → okD (n + 1) (stD s c) = true := fun n s c hc => by
    show (List.all [D.int (sI s), D.str c] (okD n)) = true
    have e1 : okD n (.int (sI s)) = true := by cases n <;> rfl
    simp [e1, okD_str hc]
  have dst : ∀ {s s' : Bool} {c c' : Str}, deq (stD s' c') (stD s c) = (decide (s' = s) && decide (c' = c)) := fun {s s' c c'} => by
    have e : (c' == c) = decide (c' = c) := by
      by_cases q : c' = c <;> simp [q]
    cases s <;> cases s' <;> simp [stD, deq, deqL, e]
  have o1 : okD 60 (res h (stD s c)) = true := ost 59 s c (F.okS O c hc)
  have o2 : (sts T L e).all (okD 60) = true := List.all_eq_true.mpr fun d hd => by
    simp only [sts, stsS, List.mem_append, List.mem_map, List.mem_filter] at hd
    rcases hd with ⟨x, hx, rfl⟩ | ⟨x, hx, rfl⟩
    · exact ost 59 _ x (F.okS O x hx.1)
    · exact ost 59 _ x (F.okS O x hx.1)
  have o3 : ((sts T L e).any fun y => deq y (stD s c)) = mayB T L e s c := by
    rw [Bool.eq_iff_iff, List.any_eq_true]
    constructor
    · rintro ⟨y, hy, q⟩
      simp only [sts, stsS, List.mem_append, List.mem_map, List.mem_filter] at hy
      rcases hy with ⟨x, hx, rfl⟩ | ⟨x, hx, rfl⟩ <;>
      · rw [dst] at q
        simp only [Bool.and_eq_true, decide_eq_true_eq] at q
        obtain ⟨rfl, rfl⟩ := q
        exact hx.2
    · intro q
      refine ⟨stD s c, ?_, by simp [dst]⟩
      simp only [sts, stsS, List.mem_append, List.mem_map, List.mem_filter]
      cases s
      · exact .inl ⟨c, ⟨hc, q⟩, rfl⟩
      · exact .inr ⟨c, ⟨hc, q⟩, rfl⟩
  have rs : res h (stD s c) = stD s c := rfl
  rw [rs] at o1
  simp only [inD, itemsOf, seqOf, rs, o1, o2, Bool.and_self, if_true, o3]
theorem sts_ok (O : T.Ok) (F : L.Of T) {e : Bool} : okD 64 (.tup (sts T L e)) = true := by
  show ((sts T L e).all (okD 63)) = true
  have ost : ∀ (n : Nat) (s : Bool) (c : Str), okS c = true → okD (n + 1) (stD s c) = true := fun n s c hc => by
    show (List.all [D.int (sI s), D.str c] (okD n)) = true
    have e1 : okD n (.int (sI s)) = true := by cases n <;> rfl
    simp [e1, okD_str hc]
  refine List.all_eq_true.mpr fun d hd => ?_
  simp only [sts, stsS, List.mem_append, List.mem_map, List.mem_filter] at hd
  rcases hd with ⟨x, hx, rfl⟩ | ⟨x, hx, rfl⟩
  · exact ost 62 _ x (F.okS O x hx.1)
  · exact ost 62 _ x (F.okS O x hx.1)
theorem in01 (s : Bool) (h : MHeap) : inD h (.int (sI s)) (.tup [.int 0, .int 1]) = some true := by cases s <;> rfl
theorem plTup {l : List D} (hl : ∀ d ∈ l, plD d = true) : D.freeL l = true := pl_freeL (plL_iff.mpr hl)
theorem fn_plain (G : Gt T L) (hw : w.Ok) : (calls prg 19).fn "_law_plain" [T.d, L.d, .str w.word, w.vals] h = .ok (.tup [dueD (Deed.go T L w), (resT T (Deed.go T L w)).d, (resL L (Deed.go T L w)).d]) h := by
  have O := G.ok
  have F := G.F
  refine fnPure (h' := []) (d := d__law_plain) rfl rfl rfl (by simp [pl_free (pl_vals w)]) ?_ (by cases Deed.go T L w <;> simp [dueD])
  have r : Str.ofString "plain" = ruS false := rfl
  cases w with
  | strike sv m =>
    have om := hw.s _ _ rfl
    have a0 : L2.atI [sideS sv, D.str m] 0 = some (sideS sv) := at0
    have a1 : L2.atI [sideS sv, D.str m] 1 = some (.str m) := at1
    cases sv with
    | none =>
      have i2 : inD [] (.int 2) (.tup [.int 0, .int 1]) = some false := rfl
      simp only [sideS] at a0 a1
      simp [d__law_plain, Lt.start, Deed.word, Deed.vals, sideS, a0, a1, setEs, two, one, three, i2, Deed.go, dueD, resT, resL]
      rfl
    | some s =>
      simp only [sideS] at a0 a1
      have i1 := in01 s []
      have li := L.ix s []
      have im := in_strs (h := []) (F.okS O (s := s)) (okD_str (n := 60) om)
      by_cases q : m ∈ L.nm s
      · have st := fn_law_strikes (P := prg) (k := 15) (h := []) (e := false) O F
        have is := in_sts (h := []) (e := false) O F q
        have ls := fn_less (P := prg) (k := 17) (h := []) O F q
        simp only [stD] at is ls
        cases qm : mayB T L false s m with
        | false =>
          rw [qm] at is
          simp [d__law_plain, Lt.start, Deed.word, Deed.vals, sideS, a0, a1, setEs, two, one, three, i1, eq_sS, li, im, q, r, st, is, Deed.go, qm, dueD, resT, resL]
          rfl
        | true =>
          rw [qm] at is
          simp [d__law_plain, Lt.start, Deed.word, Deed.vals, sideS, a0, a1, setEs, two, one, three, i1, eq_sS, li, im, q, r, st, is, ls, Deed.go, qm, dueD, resT, resL]
      · simp [d__law_plain, Lt.start, Deed.word, Deed.vals, sideS, a0, a1, setEs, two, one, three, i1, eq_sS, li, im, q, Deed.go, dueD, resT, resL]
        rfl
  | change sv m t x =>
    obtain ⟨om, ot, x1, x2⟩ := hw.c _ _ _ _ rfl
    have a0 : L2.atI [sideC sv, D.str m, D.str t, D.int x] 0 = some (sideC sv) := at0
    have a1 : L2.atI [sideC sv, D.str m, D.str t, D.int x] 1 = some (.str m) := at1
    have a2 : L2.atI [sideC sv, D.str m, D.str t, D.int x] 2 = some (.str t) := rfl
    have a3 : L2.atI [sideC sv, D.str m, D.str t, D.int x] 3 = some (.int x) := rfl
    cases sv with
    | none =>
      have i2 : inD [] .non (.tup [.int 0, .int 1]) = some false := rfl
      simp only [sideC] at a0 a1 a2 a3
      simp [d__law_plain, Lt.start, Deed.word, Deed.vals, sideC, a0, a1, setEs, two, one, three, i2, Deed.go, dueD, resT, resL]
      rfl
    | some s =>
      simp only [sideC] at a0 a1 a2 a3
      have i1 := in01 s []
      have ti := T.ix s []
      have ti' := T.ix' s []
      have im := in_strs (h := []) (O.nms s) (okD_str (n := 60) om)
      have it := in_strs (h := []) (O.nms !s) (okD_str (n := 60) ot)
      by_cases q : m ∈ T.nm s
      case neg =>
        simp [d__law_plain, Lt.start, Deed.word, Deed.vals, sideC, a0, a1, setEs, two, one, three, i1, eq_cS, ti, im, q, Deed.go, dueD, resT, resL]
        rfl
      by_cases q2 : t ∈ T.nm !s
      case neg =>
        simp [d__law_plain, Lt.start, Deed.word, Deed.vals, sideC, a0, a1, a2, setEs, two, one, three, i1, eq_cS, ti, ti', im, it, q, q2, Deed.go, dueD, resT, resL]
        rfl
      by_cases q3 : x ≤ 99
      case neg =>
        have q3' : 99 < x := by omega
        simp [d__law_plain, Lt.start, Deed.word, Deed.vals, sideC, a0, a1, a2, a3, setEs, two, one, three, i1, eq_cS, ti, ti', im, it, q, q2, q3, q3', Deed.go, dueD, resT, resL]
        rfl
      have q3' : ¬ 99 < x := by omega
      have gn := fn_law_gain (P := prg) (k := 17) (h := []) O q q2
      by_cases q4 : T.gn s m t = x
      case pos =>
        simp [d__law_plain, Lt.start, Deed.word, Deed.vals, sideC, a0, a1, a2, a3, setEs, two, one, three, i1, eq_cS, ti, ti', im, it, q, q2, q3, q3', gn, q4, Deed.go, dueD, resT, resL]
        rfl
      have wi := fn_law_with (P := prg) (k := 17) (h := []) (x := x) O q q2
      simp [d__law_plain, Lt.start, Deed.word, Deed.vals, sideC, a0, a1, a2, a3, setEs, two, one, three, i1, eq_cS, ti, ti', im, it, q, q2, q3, q3', gn, q4, wi, Deed.go, dueD, resT, resL]
/-! ### _law_stands -/
theorem fn_stands (G : Gt T L) (A : DAt h n nd nu B T L ds us) (l : LowH h) (hp : ∀ x ∈ ds, plD x.deed = true) (ho : ∀ x ∈ ds, okD 60 x.deed = true) (hb : ds.length ≤ 1000) : (calls prg 19).fn "_law_stands" [.loc n, T.d, L.d, .lst (ds.map Dd.deed)] h = .ok (.bl true) h := by
  have O := G.ok
  have F := G.F
  refine fnTruncS (d := d__law_stands) rfl rfl rfl ?_ l rfl
  have c : prg.cn = "Desk" := rfl
  have st := fn_law_strikes (P := prg) (k := 15) (h := h) (e := false) O F
  have e1 := fn_table_ (P := prg) (k := 17) A l
  have e2 := fn_left_ (P := prg) (k := 17) A l
  have e3 := fn_waiting (P := prg) (k := 12) O F A l
  have e4 := fn_deeds (P := prg) (k := 17) A l hp hb
  have e5 := fn_len (P := prg) (k := 17) O F A l
  have e6 := fn_str (P := prg) (k := 11) O F A l
  have r1 : recvO "Desk" (Str.ofString "table") (.loc n) h = true := recv_ok (by decide +kernel) A.o
  have r2 : recvO "Desk" (Str.ofString "left") (.loc n) h = true := recv_ok (by decide +kernel) A.o
  have r3 : recvO "Desk" (Str.ofString "waiting") (.loc n) h = true := recv_ok (by decide +kernel) A.o
  have r4 : recvO "Desk" (Str.ofString "deeds") (.loc n) h = true := recv_ok (by decide +kernel) A.o
  have io := ins_ok A.o
  have q1 : eqD h T.d T.d = some true := eq_self rfl (O.okD (n := 60))
  have q2 : eqD h L.d L.d = some true := eq_self rfl (F.okD O (n := 62))
  have q3 : eqD h (.tup (sts T L false)) (.tup (sts T L false)) = some true := eq_self rfl (sts_ok O F)
  have q4 : eqD h (.tup (ds.map Dd.deed)) (.tup (ds.map Dd.deed)) = some true := eq_self rfl (by
    show ((ds.map Dd.deed).all (okD 63)) = true
    exact List.all_eq_true.mpr fun d hd => by obtain ⟨x, hx, rfl⟩ := List.mem_map.mp hd; exact okD_mono (by decide) (ho x hx))
  have h1 : L.a.length ≤ 4 := F.le4 O false
  have h2 : L.b.length ≤ 4 := F.le4 O true
  have h3 := sts_len (e := false) O F
  have r : Str.ofString "plain" = ruS false := rfl
  have i0 : ∀ h, getD L.d (.int 0) h = some (sD L.a) := fun h => L.ix false h
  have i1 : ∀ h, getD L.d (.int 1) h = some (sD L.b) := fun h => L.ix true h
  let E : Option D → Option D → Option D → Option D → Lt.Env := fun a b c d => [some (.loc n), some T.d, some L.d, some (.lst (ds.map Dd.deed)), a, b, c, d]
  let S0 : MS := .par [4, 5, 6] (.cons (.call "_law_strikes" (.cons (.var 1) (.cons (.var 2) (.cons (.str (Str.ofString "plain")) .nil)))) (.cons (.blt false "len" (.cons (.ix (.var 2) (.int 0)) .nil)) (.cons (.blt false "len" (.cons (.ix (.var 2) (.int 1)) .nil)) .nil)))
  let rf : MSs := .cons (.ret (.bl false)) .nil
  let S1 : MS := .ite (.cmp .NotEq (.mcall "Desk.table" (Str.ofString "table") (.var 0) .nil) (.var 1)) rf .nil
  let S2 : MS := .ite (.cmp .NotEq (.mcall "Desk.left" (Str.ofString "left") (.var 0) .nil) (.var 2)) rf .nil
  let S3 : MS := .ite (.cmp .NotEq (.mcall "Desk.waiting" (Str.ofString "waiting") (.var 0) .nil) (.blt false "tuple" (.cons (.var 4) .nil))) rf .nil
  let S4 : MS := .ite (.cmp .NotEq (.mcall "Desk.deeds" (Str.ofString "deeds") (.var 0) .nil) (.blt false "tuple" (.cons (.var 3) .nil))) rf .nil
  let S5 : MS := .set 7 (.blt false "len" (.cons (.var 4) .nil))
  let fs : ME := .fstr (.cons (.var 5) (.cons (.str (Str.ofString " and ")) (.cons (.var 6) (.cons (.str (Str.ofString " left, ")) (.cons (.var 7) (.cons (.str (Str.ofString " waiting")) .nil))))))
  let S6 : MS := .ret (.and (.cons (.cmp .Eq (.lenO "Desk.__len__" (.var 0)) (.bin false .Add (.var 5) (.var 6))) (.cons (.cmp .Eq (.strO "Desk.__str__" (.var 0)) fs) .nil)))
  show (evSs (calls prg 18) (.cons S0 (.cons S1 (.cons S2 (.cons S3 (.cons S4 (.cons S5 (.cons S6 .nil))))))) (E none none none none) h).out = _
  let a : Option D := some (.int (L.a.length : Int))
  let b : Option D := some (.int (L.b.length : Int))
  let s : Option D := some (.lst (sts T L false))
  have s0 : evS (calls prg 18) S0 (E none none none none) h = .nx (E s a b none) h := by
    simp [S0, E, r, st, i0, i1, sD, setEs, a, b, s]
  have s1 : evS (calls prg 18) S1 (E s a b none) h = .nx (E s a b none) h := by simp [S1, rf, E, c, r1, e1, q1]
  have s2 : evS (calls prg 18) S2 (E s a b none) h = .nx (E s a b none) h := by simp [S2, rf, E, c, r2, e2, q2]
  have s3 : evS (calls prg 18) S3 (E s a b none) h = .nx (E s a b none) h := by simp [S3, rf, E, s, c, r3, e3, q3]
  have s4 : evS (calls prg 18) S4 (E s a b none) h = .nx (E s a b none) h := by simp [S4, rf, E, c, r4, e4, q4]
  have s5 : evS (calls prg 18) S5 (E s a b none) h = .nx (E s a b (some (.int ((sts T L false).length : Int)))) h := by simp [S5, E, s, setE]
  have ef : evE (calls prg 18) fs (E s a b (some (.int ((sts T L false).length : Int)))) h = .ok (.str (deskTx L.a.length L.b.length (sts T L false).length)) h := evF_desk (by omega) (by omega) (by omega) (by simp [E, a]) (by simp [E, b]) (by simp [E])
  have tok : okS (deskTx L.a.length L.b.length (sts T L false).length) = true := by
    have key : ∀ a : Nat, a < 5 → ∀ b : Nat, b < 5 → ∀ c : Nat, c < 9 → okS (deskTx a b c) = true := by decide +kernel
    exact key _ (by omega) _ (by omega) _ (by omega)
  have q5 : ∀ h, eqD h (.str (deskTx L.a.length L.b.length (sts T L false).length)) (.str (deskTx L.a.length L.b.length (sts T L false).length)) = some true := fun h => by rw [eq_ss tok tok]; simp
  have lb : lenB (.ok (.int ((L.a.length + L.b.length : Nat) : Int)) h) = .ok (.int ((L.a.length + L.b.length : Nat) : Int)) h := by
    simp only [lenB]
    rw [if_pos]
    simp only [Bool.and_eq_true, decide_eq_true_eq]
    omega
  have sb : strB (.ok (.str (deskTx L.a.length L.b.length (sts T L false).length)) h) = .ok (.str (deskTx L.a.length L.b.length (sts T L false).length)) h := rfl
  have s6 : evS (calls prg 18) S6 (E s a b (some (.int ((sts T L false).length : Int)))) h = .rt (.bl true) h := by
    have l1 : evE (calls prg 18) (.cmp .Eq (.lenO "Desk.__len__" (.var 0)) (.bin false .Add (.var 5) (.var 6))) (E s a b (some (.int ((sts T L false).length : Int)))) h = .ok (.bl true) h := by
      have ei : ((L.a.length + L.b.length : Nat) : Int) = (L.a.length : Int) + (L.b.length : Int) := by omega
      rw [ei] at lb e5
      simp [E, a, b, c, io, e5, lb]
    have l2 : evE (calls prg 18) (.cmp .Eq (.strO "Desk.__str__" (.var 0)) fs) (E s a b (some (.int ((sts T L false).length : Int)))) h = .ok (.bl true) h := by
      rw [evE_cmp, evE_strO]
      have ev : evE (calls prg 18) (.var 0) (E s a b (some (.int ((sts T L false).length : Int)))) h = .ok (.loc n) h := by simp [E]
      rw [ev, bindOk, calls_cnU, c, if_pos io, e6, sb, bindOk, ef, bindOk]
      simp [q5]
    simp only [S6, evS_ret, evE_and, evAnd_cons, l1, bindOk, tru_bl, ofSome, if_true, evAnd_one, l2, flOk]
  rw [seqNx s0, seqNx s1, seqNx s2, seqNx s3, seqNx s4, seqNx s5, evSs, s6]
  rfl
/-! ### the law -/
abbrev C : Calls := calls prg 19
abbrev E (ns : List Int) (a2 a3 a4 a5 a6 a7 a8 a9 a10 a11 : Option D) : Lt.Env := [some (.scr ns), some (.loc 1), a2, a3, a4, a5, a6, a7, a8, a9, a10, a11]
def M1 : MS := .unp [.name 9, .name 10] (.call "_law_a_deed" (.cons (.var 0) (.cons (.var 1) (.cons (.var 3) .nil))))
def M2 : MS := .unp [.name 11, .name 3, .name 7] (.call "_law_plain" (.cons (.var 3) (.cons (.var 7) (.cons (.var 9) (.cons (.var 10) .nil)))))
def rf : MSs := .cons (.ret (.bl false)) .nil
def M3 : MS := .ite (.cmp .NotEq (.heard (.call "_law_call" (.cons (.var 6) (.cons (.var 9) (.cons (.var 10) .nil))))) (.var 11)) rf .nil
def M4 : MS := .set 8 (.bin false .Add (.var 8) (.ite (.cmp .Eq (.ix (.var 11) (.int 0)) (.str (Str.ofString "told"))) (.lst false (.cons (.tup (.cons (.var 9) (.cons (.var 10) .nil))) .nil)) (.lst false .nil)))
def M5 : MS := .ite (.not (.call "_law_stands" (.cons (.var 6) (.cons (.var 3) (.cons (.var 7) (.cons (.var 8) .nil)))))) rf .nil
def BJ : MSs := .cons M1 (.cons M2 (.cons M3 (.cons M4 (.cons M5 .nil))))
def FJ : MS := .for (.name 4) (.range1 (.int 16)) BJ
def BO : MSs := .cons (.ite (.cmp .NotEq (.heard (.make "Desk.__init__" (.cons (.var 5) .nil))) (.tup (.cons (.str (Str.ofString "bad table")) .nil))) rf .nil) .nil
def FO : MS := .for (.name 5) (.val (.tup (.cons .non (.cons (.cut false (.var 3) .none (.some (.int 2))) (.cons (.tup .nil) .nil))))) BO
def M6 : MS := .set 3 (.call "_law_a_table" (.cons (.var 0) (.cons (.var 1) (.cons (.int 4) .nil))))
def M7 : MS := .unp [.name 6, .name 7, .name 8] (.tup (.cons (.make "Desk.__init__" (.cons (.var 3) .nil)) (.cons (.tup (.cons (.ix (.var 3) (.int 0)) (.cons (.ix (.var 3) (.int 1)) .nil))) (.cons (.lst false .nil) .nil))))
def BK : MSs := .cons M6 (.cons M7 (.cons FJ (.cons FO .nil)))
theorem eq1 (x : String) (hx : okS (Str.ofString x) = true) (h : MHeap) : eqD h (.tup [.str (Str.ofString x)]) (.tup [.str (Str.ofString x)]) = some true := eq_self rfl (by
  show (List.all [D.str (Str.ofString x)] (okD 63)) = true
  simp [okD_str hx])
theorem words_ok {x wd : String} (e : exWord x = some wd) : okS (Str.ofString wd) = true ∧ wd ≠ "told" := by
  unfold exWord at e
  split at e <;> first | (cases e; exact ⟨by decide +kernel, by decide⟩) | cases e
theorem go_word {x : String} (e : Deed.go T L w = .no x) : ∃ wd, exWord x = some wd := by
  cases w with
  | strike sv m =>
    cases sv with
    | none => simp only [Deed.go, Res.no.injEq] at e; subst e; exact ⟨_, rfl⟩
    | some s =>
      simp only [Deed.go] at e
      split at e
      · split at e
        · cases e
        · cases e; exact ⟨_, rfl⟩
      · cases e; exact ⟨_, rfl⟩
  | change sv m t x =>
    cases sv with
    | none => simp only [Deed.go, Res.no.injEq] at e; subst e; exact ⟨_, rfl⟩
    | some s =>
      simp only [Deed.go] at e
      split at e
      · split at e
        · split at e
          · split at e
            · cases e; exact ⟨_, rfl⟩
            · cases e
          · cases e; exact ⟨_, rfl⟩
        · cases e; exact ⟨_, rfl⟩
      · cases e; exact ⟨_, rfl⟩
theorem deed_ok (hw : w.Ok) : okD 60 w.d = true := by
  cases w with
  | strike sv m =>
    have := hw.s _ _ rfl
    have e0 : okD 58 (sideS sv) = true := by cases sv <;> rfl
    show (List.all [D.str (Str.ofString "strike"), .tup [sideS sv, .str m]] (okD 59)) = true
    have e1 : okD 59 (.tup [sideS sv, .str m]) = true := by
      show (List.all [sideS sv, D.str m] (okD 58)) = true
      simp [e0, okD_str this]
    simp [okD_str wordS_ok, e1]
  | change sv m t x =>
    obtain ⟨h1, h2, _⟩ := hw.c _ _ _ _ rfl
    have e0 : okD 58 (sideC sv) = true := by cases sv <;> rfl
    have e3 : okD 58 (.int x) = true := rfl
    show (List.all [D.str (Str.ofString "change"), .tup [sideC sv, .str m, .str t, .int x]] (okD 59)) = true
    have e1 : okD 59 (.tup [sideC sv, .str m, .str t, .int x]) = true := by
      show (List.all [sideC sv, D.str m, D.str t, D.int x] (okD 58)) = true
      simp [e0, e3, okD_str h1, okD_str h2]
    simp [okD_str wordC_ok, e1]
theorem told_ok : okS (Str.ofString "told") = true := by decide +kernel
/-- what holds between the deeds -/
def J (ns : List Int) (m : Nat) (σ : Lt.Env) (h : MHeap) : Prop := ∃ (B T : Tb) (L : Lf) (n nd nu : Nat) (ds us : List Dd) (a2 a4 a5 a9 a10 a11 : Option D) (rests : List (Ky × D)) (is : List Nat) (c : Int) (tl : MHeap),
  σ = E ns a2 (some T.d) a4 a5 (some (.loc n)) (some L.d) (some (.lst (ds.map Dd.deed))) a9 a10 a11 ∧ h = tw rests c tl ∧ RestsOk rests is ∧ TlF tl ∧ Gt T L ∧ DAt h n nd nu B T L ds us ∧ 2 ≤ n ∧ 2 ≤ nd ∧ (∀ x ∈ ds, plD x.deed = true) ∧ (∀ x ∈ ds, okD 60 x.deed = true) ∧ ds.length ≤ m
theorem turnJ (hns : ns.length ≤ 63) {m : Nat} (hm : m ≤ 900) {x : D} {σ : Lt.Env} {h : MHeap} (i : J ns m σ h) : ∃ σ' h', bodyOf C (.name 4) BJ x σ h = .nx σ' h' ∧ J ns (m + 1) σ' h' := by
  obtain ⟨B, T, L, n, nd, nu, ds, us, a2, a4, a5, a9, a10, a11, rests, is, c, tl, rfl, rfl, hr, ht, G, A, n2, d2, hp, ho, hl⟩ := i
  obtain ⟨w, r1, i1, c1, e1, hr1, hw⟩ := fn_a_deed (P := prg) (k := 17) hns G.ok (c := c) hr ht
  have A1 : DAt (tw r1 c1 tl) n nd nu B T L ds us := by
    have g : ∀ j, 2 ≤ j → (tw r1 c1 tl)[j]? = (tw rests c tl)[j]? := fun j hj => by
      obtain ⟨j, rfl⟩ : ∃ i, j = i + 2 := ⟨j - 2, by omega⟩
      rfl
    have u2 : 2 ≤ nu := by
      have hu := A.u
      rcases (show nu = 0 ∨ nu = 1 ∨ 2 ≤ nu by omega) with rfl | rfl | z
      · simp [tw] at hu
      · simp [tw] at hu
      · exact z
    exact A.keep (g n n2) (g nd d2) (g nu u2)
  have l1 := LowH.tw (c := c1) hr1 ht
  have s1 : evS C M1 (E ns a2 (some T.d) (some x) a5 (some (.loc n)) (some L.d) (some (.lst (ds.map Dd.deed))) a9 a10 a11) (tw rests c tl) = .nx (E ns a2 (some T.d) (some x) a5 (some (.loc n)) (some L.d) (some (.lst (ds.map Dd.deed))) (some (.str w.word)) (some w.vals) a11) (tw r1 c1 tl) := by
    simp [M1, E, e1, Deed.d, bindT, bindTs]
  have e2 := fn_plain (h := tw r1 c1 tl) G hw
  have call := fn_law_call (P := prg) (k := 13) G A1 l1 hp (Nat.le_trans hl (by omega)) hw
  unfold CallO at call
  have two := two
  cases q : Deed.go T L w with
  | no y =>
    rw [q] at call e2
    obtain ⟨wd, ew⟩ := go_word q
    obtain ⟨okw, nw⟩ := words_ok ew
    simp only [resT, resL, dueD, ew, Option.getD_some] at e2
    have s2 : evS C M2 (E ns a2 (some T.d) (some x) a5 (some (.loc n)) (some L.d) (some (.lst (ds.map Dd.deed))) (some (.str w.word)) (some w.vals) a11) (tw r1 c1 tl) = .nx (E ns a2 (some T.d) (some x) a5 (some (.loc n)) (some L.d) (some (.lst (ds.map Dd.deed))) (some (.str w.word)) (some w.vals) (some (.tup [.str (Str.ofString wd)]))) (tw r1 c1 tl) := by
      simp [M2, E, e2, bindT, bindTs]
    have q1 := eq1 wd okw (tw r1 c1 tl)
    have hh : heardO (.ex y (tw r1 c1 tl)) = .ok (.tup [.str (Str.ofString wd)]) (tw r1 c1 tl) := heardEx ew
    have s3 : evS C M3 (E ns a2 (some T.d) (some x) a5 (some (.loc n)) (some L.d) (some (.lst (ds.map Dd.deed))) (some (.str w.word)) (some w.vals) (some (.tup [.str (Str.ofString wd)]))) (tw r1 c1 tl) = .nx (E ns a2 (some T.d) (some x) a5 (some (.loc n)) (some L.d) (some (.lst (ds.map Dd.deed))) (some (.str w.word)) (some w.vals) (some (.tup [.str (Str.ofString wd)]))) (tw r1 c1 tl) := by
      simp [M3, E, call, hh, q1]
    have a0 : L2.atI [D.str (Str.ofString wd)] 0 = some (.str (Str.ofString wd)) := at0
    have nt : eqD (tw r1 c1 tl) (.str (Str.ofString wd)) (.str (Str.ofString "told")) = some false := by
      rw [eq_ss okw told_ok]
      have : Str.ofString wd ≠ Str.ofString "told" := by
        unfold exWord at ew
        split at ew <;> first | (cases ew; decide +kernel) | cases ew
      simp [this]
    have mk0 : ∀ h, mkL false [] h = .ok (.lst []) h := fun h => rfl
    have mk1 := fun h => mkL_ok (h := h) (xs := ds.map Dd.deed) (by rw [List.length_map]; exact Nat.le_trans hl (Nat.le_trans (show m ≤ 1000 by omega) (by decide)))
    have s4 : evS C M4 (E ns a2 (some T.d) (some x) a5 (some (.loc n)) (some L.d) (some (.lst (ds.map Dd.deed))) (some (.str w.word)) (some w.vals) (some (.tup [.str (Str.ofString wd)]))) (tw r1 c1 tl) = .nx (E ns a2 (some T.d) (some x) a5 (some (.loc n)) (some L.d) (some (.lst (ds.map Dd.deed))) (some (.str w.word)) (some w.vals) (some (.tup [.str (Str.ofString wd)]))) (tw r1 c1 tl) := by
      simp [M4, E, a0, nt, mk0, mk1, setE]
    have st := fn_stands G A1 l1 hp ho (Nat.le_trans hl (by omega))
    have s5 : evS C M5 (E ns a2 (some T.d) (some x) a5 (some (.loc n)) (some L.d) (some (.lst (ds.map Dd.deed))) (some (.str w.word)) (some w.vals) (some (.tup [.str (Str.ofString wd)]))) (tw r1 c1 tl) = .nx (E ns a2 (some T.d) (some x) a5 (some (.loc n)) (some L.d) (some (.lst (ds.map Dd.deed))) (some (.str w.word)) (some w.vals) (some (.tup [.str (Str.ofString wd)]))) (tw r1 c1 tl) := by
      simp [M5, E, st]
    refine ⟨E ns a2 (some T.d) (some x) a5 (some (.loc n)) (some L.d) (some (.lst (ds.map Dd.deed))) (some (.str w.word)) (some w.vals) (some (.tup [.str (Str.ofString wd)])), tw r1 c1 tl, bodyEq (σ' := E ns a2 (some T.d) (some x) a5 (some (.loc n)) (some L.d) (some (.lst (ds.map Dd.deed))) a9 a10 a11) (by simp [E, bindT]) ?_, B, T, L, n, nd, nu, ds, us, a2, some x, a5, _, _, _, r1, i1, c1, tl, rfl, rfl, hr1, ht, G, A1, n2, d2, hp, ho, by omega⟩
    rw [BJ, seqNx s1, seqNx s2, seqNx s3, seqNx s4, seqOne s5]
  | ok T' L' =>
    rw [q] at call e2
    obtain ⟨h', nu', ec, A2, l2, fr, _⟩ := call
    have G' := G.go hw q
    obtain ⟨tl', rfl⟩ := fr.tw n2 d2
    have ht' : TlF tl' := TlF.of l2
    simp only [resT, resL, dueD] at e2
    have s2 : evS C M2 (E ns a2 (some T.d) (some x) a5 (some (.loc n)) (some L.d) (some (.lst (ds.map Dd.deed))) (some (.str w.word)) (some w.vals) a11) (tw r1 c1 tl) = .nx (E ns a2 (some T'.d) (some x) a5 (some (.loc n)) (some L'.d) (some (.lst (ds.map Dd.deed))) (some (.str w.word)) (some w.vals) (some (.tup [.str (Str.ofString "told"), .non]))) (tw r1 c1 tl) := by
      simp [M2, E, e2, bindT, bindTs]
    have q1 : ∀ h, eqD h (.tup [.str (Str.ofString "told"), .non]) (.tup [.str (Str.ofString "told"), .non]) = some true := fun h => eq_self rfl (by
      show (List.all [D.str (Str.ofString "told"), .non] (okD 63)) = true
      have : okD 63 D.non = true := rfl
      simp [okD_str told_ok, this])
    have s3 : evS C M3 (E ns a2 (some T'.d) (some x) a5 (some (.loc n)) (some L'.d) (some (.lst (ds.map Dd.deed))) (some (.str w.word)) (some w.vals) (some (.tup [.str (Str.ofString "told"), .non]))) (tw r1 c1 tl) = .nx (E ns a2 (some T'.d) (some x) a5 (some (.loc n)) (some L'.d) (some (.lst (ds.map Dd.deed))) (some (.str w.word)) (some w.vals) (some (.tup [.str (Str.ofString "told"), .non]))) (tw r1 c1 tl') := by
      simp [M3, E, ec, q1]
    have a0 : L2.atI [D.str (Str.ofString "told"), D.non] 0 = some (.str (Str.ofString "told")) := at0
    have nt : ∀ h, eqD h (.str (Str.ofString "told")) (.str (Str.ofString "told")) = some true := fun h => by rw [eq_ss told_ok told_ok]; simp
    have mkx : ∀ (x : D) h, mkL false [x] h = .ok (.lst [x]) h := fun x h => rfl
    have mk1 := fun h => mkL_ok (h := h) (xs := ds.map Dd.deed ++ [w.d]) (by rw [List.length_append, List.length_map]; exact Nat.le_trans (show ds.length + 1 ≤ 1000 by omega) (by decide))
    have ea : ds.map Dd.deed ++ [w.d] = (ds ++ [Dd.mk w.d T L]).map Dd.deed := by simp
    have hp' : ∀ x ∈ ds ++ [Dd.mk w.d T L], plD x.deed = true := fun x hx => by
      rcases List.mem_append.mp hx with z | z
      · exact hp x z
      · rw [List.mem_singleton.mp z]; exact pl_deed w
    have ho' : ∀ x ∈ ds ++ [Dd.mk w.d T L], okD 60 x.deed = true := fun x hx => by
      rcases List.mem_append.mp hx with z | z
      · exact ho x z
      · rw [List.mem_singleton.mp z]; exact deed_ok hw
    have s4 : evS C M4 (E ns a2 (some T'.d) (some x) a5 (some (.loc n)) (some L'.d) (some (.lst (ds.map Dd.deed))) (some (.str w.word)) (some w.vals) (some (.tup [.str (Str.ofString "told"), .non]))) (tw r1 c1 tl') = .nx (E ns a2 (some T'.d) (some x) a5 (some (.loc n)) (some L'.d) (some (.lst ((ds ++ [Dd.mk w.d T L]).map Dd.deed))) (some (.str w.word)) (some w.vals) (some (.tup [.str (Str.ofString "told"), .non]))) (tw r1 c1 tl') := by
      rw [← ea]
      simp only [Deed.d] at mk1 ⊢
      simp [M4, E, a0, nt, two, mkx, mk1, setE]
    have st := fn_stands G' A2 l2 hp' ho' (by rw [List.length_append]; simp; omega)
    have s5 : evS C M5 (E ns a2 (some T'.d) (some x) a5 (some (.loc n)) (some L'.d) (some (.lst ((ds ++ [Dd.mk w.d T L]).map Dd.deed))) (some (.str w.word)) (some w.vals) (some (.tup [.str (Str.ofString "told"), .non]))) (tw r1 c1 tl') = .nx (E ns a2 (some T'.d) (some x) a5 (some (.loc n)) (some L'.d) (some (.lst ((ds ++ [Dd.mk w.d T L]).map Dd.deed))) (some (.str w.word)) (some w.vals) (some (.tup [.str (Str.ofString "told"), .non]))) (tw r1 c1 tl') := by
      generalize ds ++ [Dd.mk w.d T L] = ds' at st ⊢
      simp [M5, E, st]
    refine ⟨E ns a2 (some T'.d) (some x) a5 (some (.loc n)) (some L'.d) (some (.lst ((ds ++ [Dd.mk w.d T L]).map Dd.deed))) (some (.str w.word)) (some w.vals) (some (.tup [.str (Str.ofString "told"), .non])), tw r1 c1 tl', bodyEq (σ' := E ns a2 (some T.d) (some x) a5 (some (.loc n)) (some L.d) (some (.lst (ds.map Dd.deed))) a9 a10 a11) (by simp [E, bindT]) ?_, B, T', L', n, nd, nu', ds ++ [Dd.mk w.d T L], [], a2, some x, a5, _, _, _, r1, i1, c1, tl', rfl, rfl, hr1, ht', G', A2, n2, d2, hp', ho', by rw [List.length_append]; simp; omega⟩
    rw [BJ, seqNx s1, seqNx s2, seqNx s3, seqNx s4, seqOne s5]
theorem loopJ (hns : ns.length ≤ 63) : ∀ (xs : List D) (m : Nat) (σ : Lt.Env) (h : MHeap), m + xs.length ≤ 900 → J ns m σ h → ∃ σ' h', forRun (bodyOf C (.name 4) BJ) ⟨(List.range 16).map (fun (i : Nat) => D.int (i : Int)), none⟩ xs σ h = .nx σ' h' ∧ J ns (m + xs.length) σ' h'
  | [], m, σ, h, _, i => ⟨σ, h, forNil rfl, i⟩
  | x :: r, m, σ, h, hm, i => by
    simp only [List.length_cons] at hm
    obtain ⟨σ1, h1, e1, i1⟩ := turnJ (x := x) hns (by omega) i
    obtain ⟨σ2, h2, e2, i2⟩ := loopJ hns r (m + 1) σ1 h1 (by omega) i1
    exact ⟨σ2, h2, by rw [forCons rfl e1, e2], by rw [List.length_cons, Nat.add_comm r.length 1, ← Nat.add_assoc]; exact i2⟩
theorem says : ∀ ns : List Int, ns.length ≤ 63 → Says prg 20 ns := by
  intro ns hns
  let I : Lt.Env → MHeap → Prop := fun σ h => ∃ a2 a3 a4 a5 a6 a7 a8 a9 a10 a11 rests is c tl, σ = E ns a2 a3 a4 a5 a6 a7 a8 a9 a10 a11 ∧ h = tw rests c tl ∧ RestsOk rests is ∧ TlF tl
  have s1 : evS C (.set 1 (.call "_law_begun" .nil)) [some (.scr ns), none, none, none, none, none, none, none, none, none, none, none] [] = .nx (E ns none none none none none none none none none none) (tw [] 0 []) := by
    simp [fn_begun (P := prg) (k := 18), setE]
  have key := evForAll (C := C) (tg := .name 2) (it := .range1 (.int 2)) (body := BK) (σ := E ns none none none none none none none none none none) (h := tw [] 0 []) (h1 := tw [] 0 []) (its := ⟨(List.range 2).map (fun (i : Nat) => D.int (i : Int)), none⟩)
    I (evRangeOf (n := 2) (by decide) (by simp)) (fun _ _ _ => rfl) ?_ ⟨none, none, none, none, none, none, none, none, none, none, [], [], 0, [], rfl, rfl, .nil, fun o ho => by cases ho⟩
  · obtain ⟨σ', h', q, i'⟩ := key
    refine ⟨h', ?_⟩
    rw [fnRaw (k := 19) (d := d_law_23) rfl rfl rfl]
    show (evSs C (.cons (.set 1 (.call "_law_begun" .nil)) (.cons (.for (.name 2) (.range1 (.int 2)) BK) (.cons (.ret (.bl true)) .nil))) [some (.scr ns), none, none, none, none, none, none, none, none, none, none, none] []).out = _
    rw [seqNx s1, seqNx q]
    simp
  · rintro x hx _ _ ⟨a2, a3, a4, a5, a6, a7, a8, a9, a10, a11, rests, is, c, tl, rfl, rfl, hr, ht⟩
    obtain ⟨T, r1, i1, c1, e1, hr1, hT⟩ := fn_table (P := prg) (k := 17) hns (most := 4) (by decide) (by decide) (c := c) hr ht
    have G := Gt.of hT
    have l1 := LowH.tw (c := c1) hr1 ht
    have s6 : evS C M6 (E ns (some x) a3 a4 a5 a6 a7 a8 a9 a10 a11) (tw rests c tl) = .nx (E ns (some x) (some T.d) a4 a5 a6 a7 a8 a9 a10 a11) (tw r1 c1 tl) := by
      simp [M6, E, e1, setE]
    have nw := ev_new (P := prg) (k := 15) (h := tw r1 c1 tl) G
    have A := newH_at (h := tw r1 c1 tl) (T := T)
    have l2 := newH_low (T := T) l1
    have t0 : ∀ h, getD T.d (.int 0) h = some (sD T.os) := fun h => T.ix false h
    have t1 : ∀ h, getD T.d (.int 1) h = some (sD T.ts) := fun h => T.ix true h
    have cn : prg.cn = "Desk" := rfl
    have mk0 : ∀ h, mkL false [] h = .ok (.lst []) h := fun h => rfl
    have s7 : evS C M7 (E ns (some x) (some T.d) a4 a5 a6 a7 a8 a9 a10 a11) (tw r1 c1 tl) = .nx (E ns (some x) (some T.d) a4 a5 (some (.loc (tw r1 c1 tl).length)) (some T.all.d) (some (.lst (([] : List Dd).map Dd.deed))) a9 a10 a11) (newH (tw r1 c1 tl) T) := by
      have ev0 : evE C (.make "Desk.__init__" (.cons (.var 3) .nil)) (E ns (some x) (some T.d) a4 a5 a6 a7 a8 a9 a10 a11) (tw r1 c1 tl) = .ok (.loc (tw r1 c1 tl).length) (newH (tw r1 c1 tl) T) := by
        rw [evE_make]
        simp only [E, evEs_cons, evEs_nil, evE_var, List.getElem?_cons_succ, List.getElem?_cons_zero, bindOk, calls_cnU, cn]
        exact nw
      generalize newH (tw r1 c1 tl) T = h2 at ev0 ⊢
      generalize (tw r1 c1 tl).length = n at ev0 ⊢
      rw [M7, evS_unp, evE_tup, evEs_cons, ev0]
      simp [E, t0, t1, two, three, mk0, bindT, bindTs, Tb.all, Lf.d]
    have i0 : J ns 0 (E ns (some x) (some T.d) a4 a5 (some (.loc (tw r1 c1 tl).length)) (some T.all.d) (some (.lst (([] : List Dd).map Dd.deed))) a9 a10 a11) (newH (tw r1 c1 tl) T) := by
      refine ⟨T, T, T.all, _, _, _, [], [], some x, a4, a5, a9, a10, a11, r1, i1, c1, _, rfl, newH_tw, hr1, ?_, G, A, by simp [tw], by simp [tw], (fun _ h => by cases h), (fun _ h => by cases h), Nat.le_refl _⟩
      have := l2
      rw [newH_tw] at this
      exact TlF.of this
    obtain ⟨σ2, h2, e2, i2⟩ := loopJ hns ((List.range 16).map (fun (i : Nat) => D.int (i : Int))) 0 _ _ (by simp) i0
    have s8 : evS C FJ (E ns (some x) (some T.d) a4 a5 (some (.loc (tw r1 c1 tl).length)) (some T.all.d) (some (.lst (([] : List Dd).map Dd.deed))) a9 a10 a11) (newH (tw r1 c1 tl) T) = .nx σ2 h2 := evFor (evRangeOf (n := 16) (by decide) (by simp)) e2
    obtain ⟨B', T', L', n', nd', nu', ds', us', b2, b4, b5, b9, b10, b11, r3, i3, c3, tl3, rfl, rfl, hr3, ht3, G3, A3, _, _, _, _, _⟩ := i2
    have l3 := LowH.tw (c := c3) hr3 ht3
    have ct : cutX [sD T'.os, sD T'.ts, .tup (T'.cs.map rD)] none (some 2) = [sD T'.os, sD T'.ts] := cut_to (xs := [sD T'.os, sD T'.ts, .tup (T'.cs.map rD)]) 2
    have mt0 : ∀ h, mkT [] h = .ok (.tup []) h := fun h => rfl
    have s9 := evForAll (C := C) (tg := .name 5) (it := .val (.tup (.cons .non (.cons (.cut false (.var 3) .none (.some (.int 2))) (.cons (.tup .nil) .nil))))) (body := BO) (σ := E ns b2 (some T'.d) b4 b5 (some (.loc n')) (some L'.d) (some (.lst (ds'.map Dd.deed))) b9 b10 b11) (h := tw r3 c3 tl3) (h1 := tw r3 c3 tl3) (its := ⟨[.non, .tup [sD T'.os, sD T'.ts], .tup []], none⟩)
      (fun σ h => tw r3 c3 tl3 = h ∧ ∃ a5, σ = E ns b2 (some T'.d) b4 a5 (some (.loc n')) (some L'.d) (some (.lst (ds'.map Dd.deed))) b9 b10 b11) (by simp [E, Tb.d, ct, three, mt0]) (fun _ _ _ => rfl) ?_ ⟨rfl, _, rfl⟩
    · obtain ⟨σ4, h4, e4, rfl, d5, rfl⟩ := s9
      refine ⟨E ns (some x) a3 a4 a5 a6 a7 a8 a9 a10 a11, E ns b2 (some T'.d) b4 d5 (some (.loc n')) (some L'.d) (some (.lst (ds'.map Dd.deed))) b9 b10 b11, tw r3 c3 tl3, by simp [E, bindT], ?_, _, _, _, _, _, _, _, _, _, _, r3, i3, c3, tl3, rfl, rfl, hr3, ht3⟩
      rw [BK, seqNx s6, seqNx s7, seqNx s8, FO, seqOne e4]
    · rintro y hy _ _ ⟨rfl, d5, rfl⟩
      have hb : sm 4 y = true ∧ isTable y = false ∧ y.free = true := by
        simp only [List.mem_cons, List.not_mem_nil, or_false] at hy
        rcases hy with rfl | rfl | rfl
        · exact ⟨rfl, rfl, rfl⟩
        · have e1 := sm_strs (n := 2) (Nat.le_trans G3.ok.o4 (by decide)) G3.ok.os
          have e2 := sm_strs (n := 2) (Nat.le_trans G3.ok.t4 (by decide)) G3.ok.ts
          refine ⟨?_, ?_, by simp⟩
          · show (decide (([sD T'.os, sD T'.ts] : List D).length ≤ 8) && ([sD T'.os, sD T'.ts] : List D).all (sm 3)) = true
            simp only [List.all_cons, List.all_nil, e1, e2]
            rfl
          simp [isTable]
        · exact ⟨rfl, rfl, rfl⟩
      have bd := ev_bad (P := prg) (k := 15) (h := tw r3 c3 tl3) hb.1 hb.2.1 l3
      have q1 := eq1 "bad table" (by decide +kernel) (tw r3 c3 tl3)
      have hh : heardO (.ex "BadTable" (tw r3 c3 tl3)) = .ok (.tup [.str (Str.ofString "bad table")]) (tw r3 c3 tl3) := rfl
      have ev0 : evE C (.make "Desk.__init__" (.cons (.var 5) .nil)) (E ns b2 (some T'.d) b4 (some y) (some (.loc n')) (some L'.d) (some (.lst (ds'.map Dd.deed))) b9 b10 b11) (tw r3 c3 tl3) = .ex "BadTable" (tw r3 c3 tl3) := by
        rw [evE_make]
        simp only [E, evEs_cons, evEs_nil, evE_var, List.getElem?_cons_succ, List.getElem?_cons_zero, bindOk, calls_cnU, cn]
        exact bd
      refine ⟨E ns b2 (some T'.d) b4 (some y) (some (.loc n')) (some L'.d) (some (.lst (ds'.map Dd.deed))) b9 b10 b11, E ns b2 (some T'.d) b4 (some y) (some (.loc n')) (some L'.d) (some (.lst (ds'.map Dd.deed))) b9 b10 b11, tw r3 c3 tl3, by simp [E, bindT], ?_, rfl, _, rfl⟩
      rw [BO]
      refine seqOne ?_
      rw [evS_ite, evE_cmp, evE_heard, ev0, hh]
      simp [one, q1, rf]
end P23

namespace P23
open Lt PySem PySem.Spec PyProof.Rows L2 Q
abbrev top (i : Nat) : Stmt := PySem.Challenge.pw_strikesout_k23_desks.main.body.getD i (.Pass ⟨0, 0, 0, 0⟩)
def clsSt (s : Stmt) (j : Nat) : Stmt := match s with
  | .ClassDef (body := b) .. => b.getD j (.Pass ⟨0, 0, 0, 0⟩)
  | s => s
abbrev s_is_number : Stmt := top 29
theorem ck_is_number : defB prg (Mk.ms.contains "is_number") d_is_number (n_is_number.map Str.ofString) s_is_number = true := by decide +kernel
theorem bi_is_number {K : PySem.W.Frag} (kV dc pm : Value) (an : Option Addr) (cd ct : Value) : BindP K (PySem.W.fnOf (Str.ofString "is_number") (Str.ofString "is_number") (defArgs s_is_number) (defBody s_is_number) (defScope s_is_number) .none kV dc pm an cd ct) (d_is_number.ps.map Str.ofString) :=
  bindP_of 3 rfl (cut1 (allS fun _ => allS fun _ => allS fun _ => all0 rfl) fun _ => cut1 (allS fun _ => allS fun _ => all0 rfl) fun _ => cut1 (allS fun _ => all0 rfl) fun _ => cut0 rfl)
abbrev s_is_name : Stmt := top 30
theorem ck_is_name : defB prg (Mk.ms.contains "is_name") d_is_name (n_is_name.map Str.ofString) s_is_name = true := by decide +kernel
theorem bi_is_name {K : PySem.W.Frag} (kV dc pm : Value) (an : Option Addr) (cd ct : Value) : BindP K (PySem.W.fnOf (Str.ofString "is_name") (Str.ofString "is_name") (defArgs s_is_name) (defBody s_is_name) (defScope s_is_name) .none kV dc pm an cd ct) (d_is_name.ps.map Str.ofString) :=
  bindP_of 1 rfl (cut1 (allS fun _ => all0 rfl) fun _ => cut0 rfl)
abbrev s_is_rising : Stmt := top 31
theorem ck_is_rising : defB prg (Mk.ms.contains "is_rising") d_is_rising (n_is_rising.map Str.ofString) s_is_rising = true := by decide +kernel
theorem bi_is_rising {K : PySem.W.Frag} (kV dc pm : Value) (an : Option Addr) (cd ct : Value) : BindP K (PySem.W.fnOf (Str.ofString "is_rising") (Str.ofString "is_rising") (defArgs s_is_rising) (defBody s_is_rising) (defScope s_is_rising) .none kV dc pm an cd ct) (d_is_rising.ps.map Str.ofString) :=
  bindP_of 1 rfl (cut1 (allS fun _ => all0 rfl) fun _ => cut0 rfl)
abbrev s_are_choices : Stmt := top 32
theorem ck_are_choices : defB prg (Mk.ms.contains "are_choices") d_are_choices (n_are_choices.map Str.ofString) s_are_choices = true := by decide +kernel
theorem bi_are_choices {K : PySem.W.Frag} (kV dc pm : Value) (an : Option Addr) (cd ct : Value) : BindP K (PySem.W.fnOf (Str.ofString "are_choices") (Str.ofString "are_choices") (defArgs s_are_choices) (defBody s_are_choices) (defScope s_are_choices) .none kV dc pm an cd ct) (d_are_choices.ps.map Str.ofString) :=
  bindP_of 1 rfl (cut1 (allS fun _ => all0 rfl) fun _ => cut0 rfl)
abbrev s_is_cell : Stmt := top 33
theorem ck_is_cell : defB prg (Mk.ms.contains "is_cell") d_is_cell (n_is_cell.map Str.ofString) s_is_cell = true := by decide +kernel
theorem bi_is_cell {K : PySem.W.Frag} (kV dc pm : Value) (an : Option Addr) (cd ct : Value) : BindP K (PySem.W.fnOf (Str.ofString "is_cell") (Str.ofString "is_cell") (defArgs s_is_cell) (defBody s_is_cell) (defScope s_is_cell) .none kV dc pm an cd ct) (d_is_cell.ps.map Str.ofString) :=
  bindP_of 1 rfl (cut1 (allS fun _ => all0 rfl) fun _ => cut0 rfl)
abbrev s_is_table : Stmt := top 34
theorem ck_is_table : defB prg (Mk.ms.contains "is_table") d_is_table (n_is_table.map Str.ofString) s_is_table = true := by decide +kernel
theorem bi_is_table {K : PySem.W.Frag} (kV dc pm : Value) (an : Option Addr) (cd ct : Value) : BindP K (PySem.W.fnOf (Str.ofString "is_table") (Str.ofString "is_table") (defArgs s_is_table) (defBody s_is_table) (defScope s_is_table) .none kV dc pm an cd ct) (d_is_table.ps.map Str.ofString) :=
  bindP_of 1 rfl (cut1 (allS fun _ => all0 rfl) fun _ => cut0 rfl)
abbrev s_look_side : Stmt := top 35
theorem ck_look_side : defB prg (Mk.ms.contains "look_side") d_look_side (n_look_side.map Str.ofString) s_look_side = true := by decide +kernel
theorem bi_look_side {K : PySem.W.Frag} (kV dc pm : Value) (an : Option Addr) (cd ct : Value) : BindP K (PySem.W.fnOf (Str.ofString "look_side") (Str.ofString "look_side") (defArgs s_look_side) (defBody s_look_side) (defScope s_look_side) .none kV dc pm an cd ct) (d_look_side.ps.map Str.ofString) :=
  bindP_of 1 rfl (cut1 (allS fun _ => all0 rfl) fun _ => cut0 rfl)
abbrev s_look_choice : Stmt := top 36
theorem ck_look_choice : defB prg (Mk.ms.contains "look_choice") d_look_choice (n_look_choice.map Str.ofString) s_look_choice = true := by decide +kernel
theorem bi_look_choice {K : PySem.W.Frag} (kV dc pm : Value) (an : Option Addr) (cd ct : Value) : BindP K (PySem.W.fnOf (Str.ofString "look_choice") (Str.ofString "look_choice") (defArgs s_look_choice) (defBody s_look_choice) (defScope s_look_choice) .none kV dc pm an cd ct) (d_look_choice.ps.map Str.ofString) :=
  bindP_of 2 rfl (cut1 (allS fun _ => allS fun _ => all0 rfl) fun _ => cut1 (allS fun _ => all0 rfl) fun _ => cut0 rfl)
abbrev s_all_left : Stmt := top 37
theorem ck_all_left : defB prg (Mk.ms.contains "all_left") d_all_left (n_all_left.map Str.ofString) s_all_left = true := by decide +kernel
theorem bi_all_left {K : PySem.W.Frag} (kV dc pm : Value) (an : Option Addr) (cd ct : Value) : BindP K (PySem.W.fnOf (Str.ofString "all_left") (Str.ofString "all_left") (defArgs s_all_left) (defBody s_all_left) (defScope s_all_left) .none kV dc pm an cd ct) (d_all_left.ps.map Str.ofString) :=
  bindP_of 1 rfl (cut1 (allS fun _ => all0 rfl) fun _ => cut0 rfl)
abbrev s_gained : Stmt := top 38
theorem ck_gained : defB prg (Mk.ms.contains "gained") d_gained (n_gained.map Str.ofString) s_gained = true := by decide +kernel
theorem bi_gained {K : PySem.W.Frag} (kV dc pm : Value) (an : Option Addr) (cd ct : Value) : BindP K (PySem.W.fnOf (Str.ofString "gained") (Str.ofString "gained") (defArgs s_gained) (defBody s_gained) (defScope s_gained) .none kV dc pm an cd ct) (d_gained.ps.map Str.ofString) :=
  bindP_of 4 rfl (cut1 (allS fun _ => allS fun _ => allS fun _ => allS fun _ => all0 rfl) fun _ => cut1 (allS fun _ => allS fun _ => allS fun _ => all0 rfl) fun _ => cut1 (allS fun _ => allS fun _ => all0 rfl) fun _ => cut1 (allS fun _ => all0 rfl) fun _ => cut0 rfl)
abbrev s_is_more : Stmt := top 43
theorem ck_is_more : defB prg (Mk.ms.contains "is_more") d_is_more (n_is_more.map Str.ofString) s_is_more = true := by decide +kernel
theorem bi_is_more {K : PySem.W.Frag} (kV dc pm : Value) (an : Option Addr) (cd ct : Value) : BindP K (PySem.W.fnOf (Str.ofString "is_more") (Str.ofString "is_more") (defArgs s_is_more) (defBody s_is_more) (defScope s_is_more) .none kV dc pm an cd ct) (d_is_more.ps.map Str.ofString) :=
  bindP_of 5 rfl (cut1 (allS fun _ => allS fun _ => allS fun _ => allS fun _ => allS fun _ => all0 rfl) fun _ => cut1 (allS fun _ => allS fun _ => allS fun _ => allS fun _ => all0 rfl) fun _ => cut1 (allS fun _ => allS fun _ => allS fun _ => all0 rfl) fun _ => cut1 (allS fun _ => allS fun _ => all0 rfl) fun _ => cut1 (allS fun _ => all0 rfl) fun _ => cut0 rfl)
abbrev s_is_even : Stmt := top 44
theorem ck_is_even : defB prg (Mk.ms.contains "is_even") d_is_even (n_is_even.map Str.ofString) s_is_even = true := by decide +kernel
theorem bi_is_even {K : PySem.W.Frag} (kV dc pm : Value) (an : Option Addr) (cd ct : Value) : BindP K (PySem.W.fnOf (Str.ofString "is_even") (Str.ofString "is_even") (defArgs s_is_even) (defBody s_is_even) (defScope s_is_even) .none kV dc pm an cd ct) (d_is_even.ps.map Str.ofString) :=
  bindP_of 5 rfl (cut1 (allS fun _ => allS fun _ => allS fun _ => allS fun _ => allS fun _ => all0 rfl) fun _ => cut1 (allS fun _ => allS fun _ => allS fun _ => allS fun _ => all0 rfl) fun _ => cut1 (allS fun _ => allS fun _ => allS fun _ => all0 rfl) fun _ => cut1 (allS fun _ => allS fun _ => all0 rfl) fun _ => cut1 (allS fun _ => all0 rfl) fun _ => cut0 rfl)
abbrev s_all_betters : Stmt := top 45
theorem ck_all_betters : defB prg (Mk.ms.contains "all_betters") d_all_betters (n_all_betters.map Str.ofString) s_all_betters = true := by decide +kernel
theorem bi_all_betters {K : PySem.W.Frag} (kV dc pm : Value) (an : Option Addr) (cd ct : Value) : BindP K (PySem.W.fnOf (Str.ofString "all_betters") (Str.ofString "all_betters") (defArgs s_all_betters) (defBody s_all_betters) (defScope s_all_betters) .none kV dc pm an cd ct) (d_all_betters.ps.map Str.ofString) :=
  bindP_of 4 rfl (cut1 (allS fun _ => allS fun _ => allS fun _ => allS fun _ => all0 rfl) fun _ => cut1 (allS fun _ => allS fun _ => allS fun _ => all0 rfl) fun _ => cut1 (allS fun _ => allS fun _ => all0 rfl) fun _ => cut1 (allS fun _ => all0 rfl) fun _ => cut0 rfl)
abbrev s_may_strike : Stmt := top 46
theorem ck_may_strike : defB prg (Mk.ms.contains "may_strike") d_may_strike (n_may_strike.map Str.ofString) s_may_strike = true := by decide +kernel
theorem bi_may_strike {K : PySem.W.Frag} (kV dc pm : Value) (an : Option Addr) (cd ct : Value) : BindP K (PySem.W.fnOf (Str.ofString "may_strike") (Str.ofString "may_strike") (defArgs s_may_strike) (defBody s_may_strike) (defScope s_may_strike) .none kV dc pm an cd ct) (d_may_strike.ps.map Str.ofString) :=
  bindP_of 5 rfl (cut1 (allS fun _ => allS fun _ => allS fun _ => allS fun _ => allS fun _ => all0 rfl) fun _ => cut1 (allS fun _ => allS fun _ => allS fun _ => allS fun _ => all0 rfl) fun _ => cut1 (allS fun _ => allS fun _ => allS fun _ => all0 rfl) fun _ => cut1 (allS fun _ => allS fun _ => all0 rfl) fun _ => cut1 (allS fun _ => all0 rfl) fun _ => cut0 rfl)
abbrev s_all_strikes : Stmt := top 47
theorem ck_all_strikes : defB prg (Mk.ms.contains "all_strikes") d_all_strikes (n_all_strikes.map Str.ofString) s_all_strikes = true := by decide +kernel
theorem bi_all_strikes {K : PySem.W.Frag} (kV dc pm : Value) (an : Option Addr) (cd ct : Value) : BindP K (PySem.W.fnOf (Str.ofString "all_strikes") (Str.ofString "all_strikes") (defArgs s_all_strikes) (defBody s_all_strikes) (defScope s_all_strikes) .none kV dc pm an cd ct) (d_all_strikes.ps.map Str.ofString) :=
  bindP_of 3 rfl (cut1 (allS fun _ => allS fun _ => allS fun _ => all0 rfl) fun _ => cut1 (allS fun _ => allS fun _ => all0 rfl) fun _ => cut1 (allS fun _ => all0 rfl) fun _ => cut0 rfl)
abbrev s_without : Stmt := top 48
theorem ck_without : defB prg (Mk.ms.contains "without") d_without (n_without.map Str.ofString) s_without = true := by decide +kernel
theorem bi_without {K : PySem.W.Frag} (kV dc pm : Value) (an : Option Addr) (cd ct : Value) : BindP K (PySem.W.fnOf (Str.ofString "without") (Str.ofString "without") (defArgs s_without) (defBody s_without) (defScope s_without) .none kV dc pm an cd ct) (d_without.ps.map Str.ofString) :=
  bindP_of 3 rfl (cut1 (allS fun _ => allS fun _ => allS fun _ => all0 rfl) fun _ => cut1 (allS fun _ => allS fun _ => all0 rfl) fun _ => cut1 (allS fun _ => all0 rfl) fun _ => cut0 rfl)
abbrev s_with_numbers : Stmt := top 50
theorem ck_with_numbers : defB prg (Mk.ms.contains "with_numbers") d_with_numbers (n_with_numbers.map Str.ofString) s_with_numbers = true := by decide +kernel
theorem bi_with_numbers {K : PySem.W.Frag} (kV dc pm : Value) (an : Option Addr) (cd ct : Value) : BindP K (PySem.W.fnOf (Str.ofString "with_numbers") (Str.ofString "with_numbers") (defArgs s_with_numbers) (defBody s_with_numbers) (defScope s_with_numbers) .none kV dc pm an cd ct) (d_with_numbers.ps.map Str.ofString) :=
  bindP_of 4 rfl (cut1 (allS fun _ => allS fun _ => allS fun _ => allS fun _ => all0 rfl) fun _ => cut1 (allS fun _ => allS fun _ => allS fun _ => all0 rfl) fun _ => cut1 (allS fun _ => allS fun _ => all0 rfl) fun _ => cut1 (allS fun _ => all0 rfl) fun _ => cut0 rfl)
abbrev s_numbers_of : Stmt := top 51
theorem ck_numbers_of : defB prg (Mk.ms.contains "numbers_of") d_numbers_of (n_numbers_of.map Str.ofString) s_numbers_of = true := by decide +kernel
theorem bi_numbers_of {K : PySem.W.Frag} (kV dc pm : Value) (an : Option Addr) (cd ct : Value) : BindP K (PySem.W.fnOf (Str.ofString "numbers_of") (Str.ofString "numbers_of") (defArgs s_numbers_of) (defBody s_numbers_of) (defScope s_numbers_of) .none kV dc pm an cd ct) (d_numbers_of.ps.map Str.ofString) :=
  bindP_of 3 rfl (cut1 (allS fun _ => allS fun _ => allS fun _ => all0 rfl) fun _ => cut1 (allS fun _ => allS fun _ => all0 rfl) fun _ => cut1 (allS fun _ => all0 rfl) fun _ => cut0 rfl)
abbrev s__law_draw : Stmt := top 56
theorem ck__law_draw : defB prg (Mk.ms.contains "_law_draw") d__law_draw (n__law_draw.map Str.ofString) s__law_draw = true := by decide +kernel
theorem bi__law_draw {K : PySem.W.Frag} (kV dc pm : Value) (an : Option Addr) (cd ct : Value) : BindP K (PySem.W.fnOf (Str.ofString "_law_draw") (Str.ofString "_law_draw") (defArgs s__law_draw) (defBody s__law_draw) (defScope s__law_draw) .none kV dc pm an cd ct) (d__law_draw.ps.map Str.ofString) :=
  bindP_of 3 rfl (cut1 (allS fun _ => allS fun _ => allS fun _ => all0 rfl) fun _ => cut1 (allS fun _ => allS fun _ => all0 rfl) fun _ => cut1 (allS fun _ => all0 rfl) fun _ => cut0 rfl)
abbrev s__law_begun : Stmt := top 57
theorem ck__law_begun : defB prg (Mk.ms.contains "_law_begun") d__law_begun (n__law_begun.map Str.ofString) s__law_begun = true := by decide +kernel
theorem bi__law_begun {K : PySem.W.Frag} (kV dc pm : Value) (an : Option Addr) (cd ct : Value) : BindP K (PySem.W.fnOf (Str.ofString "_law_begun") (Str.ofString "_law_begun") (defArgs s__law_begun) (defBody s__law_begun) (defScope s__law_begun) .none kV dc pm an cd ct) (d__law_begun.ps.map Str.ofString) :=
  bindP_of 0 rfl (cut0 rfl)
abbrev s__law_a_table : Stmt := top 58
theorem ck__law_a_table : defB prg (Mk.ms.contains "_law_a_table") d__law_a_table (n__law_a_table.map Str.ofString) s__law_a_table = true := by decide +kernel
theorem bi__law_a_table {K : PySem.W.Frag} (kV dc pm : Value) (an : Option Addr) (cd ct : Value) : BindP K (PySem.W.fnOf (Str.ofString "_law_a_table") (Str.ofString "_law_a_table") (defArgs s__law_a_table) (defBody s__law_a_table) (defScope s__law_a_table) .none kV dc pm an cd ct) (d__law_a_table.ps.map Str.ofString) :=
  bindP_of 3 rfl (cut1 (allS fun _ => allS fun _ => allS fun _ => all0 rfl) fun _ => cut1 (allS fun _ => allS fun _ => all0 rfl) fun _ => cut1 (allS fun _ => all0 rfl) fun _ => cut0 rfl)
abbrev s__law_gain : Stmt := top 59
theorem ck__law_gain : defB prg (Mk.ms.contains "_law_gain") d__law_gain_23 (n__law_gain_23.map Str.ofString) s__law_gain = true := by decide +kernel
theorem bi__law_gain {K : PySem.W.Frag} (kV dc pm : Value) (an : Option Addr) (cd ct : Value) : BindP K (PySem.W.fnOf (Str.ofString "_law_gain") (Str.ofString "_law_gain") (defArgs s__law_gain) (defBody s__law_gain) (defScope s__law_gain) .none kV dc pm an cd ct) (d__law_gain_23.ps.map Str.ofString) :=
  bindP_of 4 rfl (cut1 (allS fun _ => allS fun _ => allS fun _ => allS fun _ => all0 rfl) fun _ => cut1 (allS fun _ => allS fun _ => allS fun _ => all0 rfl) fun _ => cut1 (allS fun _ => allS fun _ => all0 rfl) fun _ => cut1 (allS fun _ => all0 rfl) fun _ => cut0 rfl)
abbrev s__law_lines : Stmt := top 60
theorem ck__law_lines : defB prg (Mk.ms.contains "_law_lines") d__law_lines_23 (n__law_lines_23.map Str.ofString) s__law_lines = true := by decide +kernel
theorem bi__law_lines {K : PySem.W.Frag} (kV dc pm : Value) (an : Option Addr) (cd ct : Value) : BindP K (PySem.W.fnOf (Str.ofString "_law_lines") (Str.ofString "_law_lines") (defArgs s__law_lines) (defBody s__law_lines) (defScope s__law_lines) .none kV dc pm an cd ct) (d__law_lines_23.ps.map Str.ofString) :=
  bindP_of 4 rfl (cut1 (allS fun _ => allS fun _ => allS fun _ => allS fun _ => all0 rfl) fun _ => cut1 (allS fun _ => allS fun _ => allS fun _ => all0 rfl) fun _ => cut1 (allS fun _ => allS fun _ => all0 rfl) fun _ => cut1 (allS fun _ => all0 rfl) fun _ => cut0 rfl)
abbrev s__law_strikes : Stmt := top 61
theorem ck__law_strikes : defB prg (Mk.ms.contains "_law_strikes") d__law_strikes_23 (n__law_strikes_23.map Str.ofString) s__law_strikes = true := by decide +kernel
theorem bi__law_strikes {K : PySem.W.Frag} (kV dc pm : Value) (an : Option Addr) (cd ct : Value) : BindP K (PySem.W.fnOf (Str.ofString "_law_strikes") (Str.ofString "_law_strikes") (defArgs s__law_strikes) (defBody s__law_strikes) (defScope s__law_strikes) .none kV dc pm an cd ct) (d__law_strikes_23.ps.map Str.ofString) :=
  bindP_of 3 rfl (cut1 (allS fun _ => allS fun _ => allS fun _ => all0 rfl) fun _ => cut1 (allS fun _ => allS fun _ => all0 rfl) fun _ => cut1 (allS fun _ => all0 rfl) fun _ => cut0 rfl)
abbrev s__law_less : Stmt := top 62
theorem ck__law_less : defB prg (Mk.ms.contains "_law_less") d__law_less (n__law_less.map Str.ofString) s__law_less = true := by decide +kernel
theorem bi__law_less {K : PySem.W.Frag} (kV dc pm : Value) (an : Option Addr) (cd ct : Value) : BindP K (PySem.W.fnOf (Str.ofString "_law_less") (Str.ofString "_law_less") (defArgs s__law_less) (defBody s__law_less) (defScope s__law_less) .none kV dc pm an cd ct) (d__law_less.ps.map Str.ofString) :=
  bindP_of 2 rfl (cut1 (allS fun _ => allS fun _ => all0 rfl) fun _ => cut1 (allS fun _ => all0 rfl) fun _ => cut0 rfl)
abbrev s__law_with : Stmt := top 63
theorem ck__law_with : defB prg (Mk.ms.contains "_law_with") d__law_with (n__law_with.map Str.ofString) s__law_with = true := by decide +kernel
theorem bi__law_with {K : PySem.W.Frag} (kV dc pm : Value) (an : Option Addr) (cd ct : Value) : BindP K (PySem.W.fnOf (Str.ofString "_law_with") (Str.ofString "_law_with") (defArgs s__law_with) (defBody s__law_with) (defScope s__law_with) .none kV dc pm an cd ct) (d__law_with.ps.map Str.ofString) :=
  bindP_of 5 rfl (cut1 (allS fun _ => allS fun _ => allS fun _ => allS fun _ => allS fun _ => all0 rfl) fun _ => cut1 (allS fun _ => allS fun _ => allS fun _ => allS fun _ => all0 rfl) fun _ => cut1 (allS fun _ => allS fun _ => allS fun _ => all0 rfl) fun _ => cut1 (allS fun _ => allS fun _ => all0 rfl) fun _ => cut1 (allS fun _ => all0 rfl) fun _ => cut0 rfl)
abbrev s__law_a_deed : Stmt := top 64
theorem ck__law_a_deed : defB prg (Mk.ms.contains "_law_a_deed") d__law_a_deed (n__law_a_deed.map Str.ofString) s__law_a_deed = true := by decide +kernel
theorem bi__law_a_deed {K : PySem.W.Frag} (kV dc pm : Value) (an : Option Addr) (cd ct : Value) : BindP K (PySem.W.fnOf (Str.ofString "_law_a_deed") (Str.ofString "_law_a_deed") (defArgs s__law_a_deed) (defBody s__law_a_deed) (defScope s__law_a_deed) .none kV dc pm an cd ct) (d__law_a_deed.ps.map Str.ofString) :=
  bindP_of 3 rfl (cut1 (allS fun _ => allS fun _ => allS fun _ => all0 rfl) fun _ => cut1 (allS fun _ => allS fun _ => all0 rfl) fun _ => cut1 (allS fun _ => all0 rfl) fun _ => cut0 rfl)
abbrev s__law_plain : Stmt := top 65
theorem ck__law_plain : defB prg (Mk.ms.contains "_law_plain") d__law_plain (n__law_plain.map Str.ofString) s__law_plain = true := by decide +kernel
theorem bi__law_plain {K : PySem.W.Frag} (kV dc pm : Value) (an : Option Addr) (cd ct : Value) : BindP K (PySem.W.fnOf (Str.ofString "_law_plain") (Str.ofString "_law_plain") (defArgs s__law_plain) (defBody s__law_plain) (defScope s__law_plain) .none kV dc pm an cd ct) (d__law_plain.ps.map Str.ofString) :=
  bindP_of 4 rfl (cut1 (allS fun _ => allS fun _ => allS fun _ => allS fun _ => all0 rfl) fun _ => cut1 (allS fun _ => allS fun _ => allS fun _ => all0 rfl) fun _ => cut1 (allS fun _ => allS fun _ => all0 rfl) fun _ => cut1 (allS fun _ => all0 rfl) fun _ => cut0 rfl)
abbrev s__law_call : Stmt := top 66
theorem ck__law_call : defB prg (Mk.ms.contains "_law_call") d__law_call (n__law_call.map Str.ofString) s__law_call = true := by decide +kernel
theorem bi__law_call {K : PySem.W.Frag} (kV dc pm : Value) (an : Option Addr) (cd ct : Value) : BindP K (PySem.W.fnOf (Str.ofString "_law_call") (Str.ofString "_law_call") (defArgs s__law_call) (defBody s__law_call) (defScope s__law_call) .none kV dc pm an cd ct) (d__law_call.ps.map Str.ofString) :=
  bindP_of 3 rfl (cut1 (allS fun _ => allS fun _ => allS fun _ => all0 rfl) fun _ => cut1 (allS fun _ => allS fun _ => all0 rfl) fun _ => cut1 (allS fun _ => all0 rfl) fun _ => cut0 rfl)
abbrev s__law_stands : Stmt := top 67
theorem ck__law_stands : defB prg (Mk.ms.contains "_law_stands") d__law_stands (n__law_stands.map Str.ofString) s__law_stands = true := by decide +kernel
theorem bi__law_stands {K : PySem.W.Frag} (kV dc pm : Value) (an : Option Addr) (cd ct : Value) : BindP K (PySem.W.fnOf (Str.ofString "_law_stands") (Str.ofString "_law_stands") (defArgs s__law_stands) (defBody s__law_stands) (defScope s__law_stands) .none kV dc pm an cd ct) (d__law_stands.ps.map Str.ofString) :=
  bindP_of 4 rfl (cut1 (allS fun _ => allS fun _ => allS fun _ => allS fun _ => all0 rfl) fun _ => cut1 (allS fun _ => allS fun _ => allS fun _ => all0 rfl) fun _ => cut1 (allS fun _ => allS fun _ => all0 rfl) fun _ => cut1 (allS fun _ => all0 rfl) fun _ => cut0 rfl)
abbrev s_law : Stmt := top 68
theorem ck_law : defB prg (Mk.ms.contains "law") d_law_23 (n_law_23.map Str.ofString) s_law = true := by decide +kernel
theorem bi_law {K : PySem.W.Frag} (kV dc pm : Value) (an : Option Addr) (cd ct : Value) : BindP K (PySem.W.fnOf (Str.ofString "law") (Str.ofString "law") (defArgs s_law) (defBody s_law) (defScope s_law) .none kV dc pm an cd ct) (d_law_23.ps.map Str.ofString) :=
  bindP_of 1 rfl (cut1 (allS fun _ => all0 rfl) fun _ => cut0 rfl)
abbrev s_Desk___init__ : Stmt := clsSt (top 53) 0
theorem ck_Desk___init__ : defB prg (Mk.ms.contains "Desk.__init__") d_Desk___init__ (n_Desk___init__.map Str.ofString) s_Desk___init__ = true := by decide +kernel
theorem bi_Desk___init__ {K : PySem.W.Frag} (kV dc pm : Value) (an : Option Addr) (cd ct : Value) : BindP K (PySem.W.fnOf (Str.ofString "__init__") (Str.ofString "Desk.__init__") (defArgs s_Desk___init__) (defBody s_Desk___init__) (defScope s_Desk___init__) .none kV dc pm an cd ct) (d_Desk___init__.ps.map Str.ofString) :=
  bindP_of 2 rfl (cut1 (allS fun _ => allS fun _ => all0 rfl) fun _ => cut1 (allS fun _ => all0 rfl) fun _ => cut0 rfl)
abbrev s_Desk___len__ : Stmt := clsSt (top 53) 1
theorem ck_Desk___len__ : defB prg (Mk.ms.contains "Desk.__len__") d_Desk___len__ (n_Desk___len__.map Str.ofString) s_Desk___len__ = true := by decide +kernel
theorem bi_Desk___len__ {K : PySem.W.Frag} (kV dc pm : Value) (an : Option Addr) (cd ct : Value) : BindP K (PySem.W.fnOf (Str.ofString "__len__") (Str.ofString "Desk.__len__") (defArgs s_Desk___len__) (defBody s_Desk___len__) (defScope s_Desk___len__) .none kV dc pm an cd ct) (d_Desk___len__.ps.map Str.ofString) :=
  bindP_of 1 rfl (cut1 (allS fun _ => all0 rfl) fun _ => cut0 rfl)
abbrev s_Desk___str__ : Stmt := clsSt (top 53) 2
theorem ck_Desk___str__ : defB prg (Mk.ms.contains "Desk.__str__") d_Desk___str__ (n_Desk___str__.map Str.ofString) s_Desk___str__ = true := by decide +kernel
theorem bi_Desk___str__ {K : PySem.W.Frag} (kV dc pm : Value) (an : Option Addr) (cd ct : Value) : BindP K (PySem.W.fnOf (Str.ofString "__str__") (Str.ofString "Desk.__str__") (defArgs s_Desk___str__) (defBody s_Desk___str__) (defScope s_Desk___str__) .none kV dc pm an cd ct) (d_Desk___str__.ps.map Str.ofString) :=
  bindP_of 1 rfl (cut1 (allS fun _ => all0 rfl) fun _ => cut0 rfl)
abbrev s_Desk_become : Stmt := clsSt (top 53) 4
theorem ck_Desk_become : defB prg (Mk.ms.contains "Desk.become") d_Desk_become (n_Desk_become.map Str.ofString) s_Desk_become = true := by decide +kernel
theorem bi_Desk_become {K : PySem.W.Frag} (kV dc pm : Value) (an : Option Addr) (cd ct : Value) : BindP K (PySem.W.fnOf (Str.ofString "become") (Str.ofString "Desk.become") (defArgs s_Desk_become) (defBody s_Desk_become) (defScope s_Desk_become) .none kV dc pm an cd ct) (d_Desk_become.ps.map Str.ofString) :=
  bindP_of 3 rfl (cut1 (allS fun _ => allS fun _ => allS fun _ => all0 rfl) fun _ => cut1 (allS fun _ => allS fun _ => all0 rfl) fun _ => cut1 (allS fun _ => all0 rfl) fun _ => cut0 rfl)
abbrev s_Desk_strike : Stmt := clsSt (top 53) 5
theorem ck_Desk_strike : defB prg (Mk.ms.contains "Desk.strike") d_Desk_strike (n_Desk_strike.map Str.ofString) s_Desk_strike = true := by decide +kernel
theorem bi_Desk_strike {K : PySem.W.Frag} (kV dc pm : Value) (an : Option Addr) (cd ct : Value) : BindP K (PySem.W.fnOf (Str.ofString "strike") (Str.ofString "Desk.strike") (defArgs s_Desk_strike) (defBody s_Desk_strike) (defScope s_Desk_strike) .none kV dc pm an cd ct) (d_Desk_strike.ps.map Str.ofString) :=
  bindP_of 3 rfl (cut1 (allS fun _ => allS fun _ => allS fun _ => all0 rfl) fun _ => cut1 (allS fun _ => allS fun _ => all0 rfl) fun _ => cut1 (allS fun _ => all0 rfl) fun _ => cut0 rfl)
abbrev s_Desk_change : Stmt := clsSt (top 53) 6
theorem ck_Desk_change : defB prg (Mk.ms.contains "Desk.change") d_Desk_change (n_Desk_change.map Str.ofString) s_Desk_change = true := by decide +kernel
theorem bi_Desk_change {K : PySem.W.Frag} (kV dc pm : Value) (an : Option Addr) (cd ct : Value) : BindP K (PySem.W.fnOf (Str.ofString "change") (Str.ofString "Desk.change") (defArgs s_Desk_change) (defBody s_Desk_change) (defScope s_Desk_change) .none kV dc pm an cd ct) (d_Desk_change.ps.map Str.ofString) :=
  bindP_of 5 rfl (cut1 (allS fun _ => allS fun _ => allS fun _ => allS fun _ => allS fun _ => all0 rfl) fun _ => cut1 (allS fun _ => allS fun _ => allS fun _ => allS fun _ => all0 rfl) fun _ => cut1 (allS fun _ => allS fun _ => allS fun _ => all0 rfl) fun _ => cut1 (allS fun _ => allS fun _ => all0 rfl) fun _ => cut1 (allS fun _ => all0 rfl) fun _ => cut0 rfl)
abbrev s_Desk_table : Stmt := clsSt (top 53) 7
theorem ck_Desk_table : defB prg (Mk.ms.contains "Desk.table") d_Desk_table (n_Desk_table.map Str.ofString) s_Desk_table = true := by decide +kernel
theorem bi_Desk_table {K : PySem.W.Frag} (kV dc pm : Value) (an : Option Addr) (cd ct : Value) : BindP K (PySem.W.fnOf (Str.ofString "table") (Str.ofString "Desk.table") (defArgs s_Desk_table) (defBody s_Desk_table) (defScope s_Desk_table) .none kV dc pm an cd ct) (d_Desk_table.ps.map Str.ofString) :=
  bindP_of 1 rfl (cut1 (allS fun _ => all0 rfl) fun _ => cut0 rfl)
abbrev s_Desk_left : Stmt := clsSt (top 53) 8
theorem ck_Desk_left : defB prg (Mk.ms.contains "Desk.left") d_Desk_left (n_Desk_left.map Str.ofString) s_Desk_left = true := by decide +kernel
theorem bi_Desk_left {K : PySem.W.Frag} (kV dc pm : Value) (an : Option Addr) (cd ct : Value) : BindP K (PySem.W.fnOf (Str.ofString "left") (Str.ofString "Desk.left") (defArgs s_Desk_left) (defBody s_Desk_left) (defScope s_Desk_left) .none kV dc pm an cd ct) (d_Desk_left.ps.map Str.ofString) :=
  bindP_of 1 rfl (cut1 (allS fun _ => all0 rfl) fun _ => cut0 rfl)
abbrev s_Desk_waiting : Stmt := clsSt (top 53) 9
theorem ck_Desk_waiting : defB prg (Mk.ms.contains "Desk.waiting") d_Desk_waiting (n_Desk_waiting.map Str.ofString) s_Desk_waiting = true := by decide +kernel
theorem bi_Desk_waiting {K : PySem.W.Frag} (kV dc pm : Value) (an : Option Addr) (cd ct : Value) : BindP K (PySem.W.fnOf (Str.ofString "waiting") (Str.ofString "Desk.waiting") (defArgs s_Desk_waiting) (defBody s_Desk_waiting) (defScope s_Desk_waiting) .none kV dc pm an cd ct) (d_Desk_waiting.ps.map Str.ofString) :=
  bindP_of 1 rfl (cut1 (allS fun _ => all0 rfl) fun _ => cut0 rfl)
abbrev s_Desk_deeds : Stmt := clsSt (top 53) 10
theorem ck_Desk_deeds : defB prg (Mk.ms.contains "Desk.deeds") d_Desk_deeds (n_Desk_deeds.map Str.ofString) s_Desk_deeds = true := by decide +kernel
theorem bi_Desk_deeds {K : PySem.W.Frag} (kV dc pm : Value) (an : Option Addr) (cd ct : Value) : BindP K (PySem.W.fnOf (Str.ofString "deeds") (Str.ofString "Desk.deeds") (defArgs s_Desk_deeds) (defBody s_Desk_deeds) (defScope s_Desk_deeds) .none kV dc pm an cd ct) (d_Desk_deeds.ps.map Str.ofString) :=
  bindP_of 1 rfl (cut1 (allS fun _ => all0 rfl) fun _ => cut0 rfl)
abbrev s_heard : Stmt := top 55
theorem ck_heard : heardB (defScope s_heard) (defBody s_heard) = true := by decide +kernel
theorem sc_heard : FnScope heardN ["deed"] (defScope s_heard) := ⟨rfl, rfl, rfl, heardNd, rfl, by decide +kernel, by decide +kernel⟩
theorem bi_heard {K : PySem.W.Frag} (kV dc pm : Value) (an : Option Addr) (cd ct : Value) : BindP K (PySem.W.fnOf ("_law_heard" : Str) ("_law_heard" : Str) (defArgs s_heard) (defBody s_heard) (defScope s_heard) .none kV dc pm an cd ct) ["deed"] :=
  bindP_of 1 rfl (cut1 (allS fun _ => all0 rfl) fun _ => cut0 rfl)
theorem all_mk {K : PySem.W.Frag} {h : Heap} {mg : Str → Option Value} {fa f0 f1 f2 f3 f4 f5 f6 f7 f8 f9 f10 f11 f12 f13 f14 f15 f16 f17 f18 f19 f20 f21 f22 f23 f24 f25 f26 f27 f28 f29 f30 f31 f32 f33 f34 f35 f36 f37 f38 f39 f40 f41 fS fC : Addr} (X : K.In h) (G : h.Ns mainGlobals mg) (hfa : mg (Str.ofString "law") = some (.ref fa))
    {od0 an0 od1 an1 od2 an2 od3 an3 od4 an4 od5 an5 od6 an6 od7 an7 od8 an8 od9 an9 od10 an10 od11 an11 od12 an12 od13 an13 od14 an14 od15 an15 od16 an16 od17 an17 od18 an18 od19 an19 od20 an20 od21 an21 od22 an22 od23 an23 od24 an24 od25 an25 od26 an26 od27 an27 od28 an28 od29 an29 od30 an30 od31 an31 od32 an32 od33 an33 od34 an34 od35 an35 od36 an36 od37 an37 od38 an38 od39 an39 od40 an40 od41 an41 : Option Addr} {sl0 sl1 sl2 sl3 sl4 sl5 sl6 sl7 sl8 sl9 sl10 sl11 sl12 sl13 sl14 sl15 sl16 sl17 sl18 sl19 sl20 sl21 sl22 sl23 sl24 sl25 sl26 sl27 sl28 sl29 sl30 sl31 sl32 sl33 sl34 sl35 sl36 sl37 sl38 sl39 sl40 sl41 : Array (Option Value)} {oc0 kV0 dc0 pm0 cd0 ct0 oc1 kV1 dc1 pm1 cd1 ct1 oc2 kV2 dc2 pm2 cd2 ct2 oc3 kV3 dc3 pm3 cd3 ct3 oc4 kV4 dc4 pm4 cd4 ct4 oc5 kV5 dc5 pm5 cd5 ct5 oc6 kV6 dc6 pm6 cd6 ct6 oc7 kV7 dc7 pm7 cd7 ct7 oc8 kV8 dc8 pm8 cd8 ct8 oc9 kV9 dc9 pm9 cd9 ct9 oc10 kV10 dc10 pm10 cd10 ct10 oc11 kV11 dc11 pm11 cd11 ct11 oc12 kV12 dc12 pm12 cd12 ct12 oc13 kV13 dc13 pm13 cd13 ct13 oc14 kV14 dc14 pm14 cd14 ct14 oc15 kV15 dc15 pm15 cd15 ct15 oc16 kV16 dc16 pm16 cd16 ct16 oc17 kV17 dc17 pm17 cd17 ct17 oc18 kV18 dc18 pm18 cd18 ct18 oc19 kV19 dc19 pm19 cd19 ct19 oc20 kV20 dc20 pm20 cd20 ct20 oc21 kV21 dc21 pm21 cd21 ct21 oc22 kV22 dc22 pm22 cd22 ct22 oc23 kV23 dc23 pm23 cd23 ct23 oc24 kV24 dc24 pm24 cd24 ct24 oc25 kV25 dc25 pm25 cd25 ct25 oc26 kV26 dc26 pm26 cd26 ct26 oc27 kV27 dc27 pm27 cd27 ct27 oc28 kV28 dc28 pm28 cd28 ct28 oc29 kV29 dc29 pm29 cd29 ct29 oc30 kV30 dc30 pm30 cd30 ct30 oc31 kV31 dc31 pm31 cd31 ct31 oc32 kV32 dc32 pm32 cd32 ct32 oc33 kV33 dc33 pm33 cd33 ct33 oc34 kV34 dc34 pm34 cd34 ct34 oc35 kV35 dc35 pm35 cd35 ct35 oc36 kV36 dc36 pm36 cd36 ct36 oc37 kV37 dc37 pm37 cd37 ct37 oc38 kV38 dc38 pm38 cd38 ct38 oc39 kV39 dc39 pm39 cd39 ct39 oc40 kV40 dc40 pm40 cd40 ct40 oc41 kV41 dc41 pm41 cd41 ct41 : Value} {qt0 qt1 : Nat}
    (aC : PySem.W.nsIn K mainGlobals (Str.ofString "Desk") = some (some (.ref fC)))
    (a0 : PySem.W.nsIn K mainGlobals (Str.ofString "is_number") = some (some (.ref f0))) (l0 : K.lookup f0 = some ⟨oc0, od0, .func (PySem.W.fnOf (Str.ofString "is_number") (Str.ofString "is_number") (defArgs s_is_number) (defBody s_is_number) (defScope s_is_number) .none kV0 dc0 pm0 an0 cd0 ct0), sl0⟩) (c0 : PySem.W.codeIn K cd0 (Str.ofString "is_number") = true) (k0 : PySem.W.keepIn K (.ref f0) = true)
    (a1 : PySem.W.nsIn K mainGlobals (Str.ofString "is_name") = some (some (.ref f1))) (l1 : K.lookup f1 = some ⟨oc1, od1, .func (PySem.W.fnOf (Str.ofString "is_name") (Str.ofString "is_name") (defArgs s_is_name) (defBody s_is_name) (defScope s_is_name) .none kV1 dc1 pm1 an1 cd1 ct1), sl1⟩) (c1 : PySem.W.codeIn K cd1 (Str.ofString "is_name") = true) (k1 : PySem.W.keepIn K (.ref f1) = true)
    (a2 : PySem.W.nsIn K mainGlobals (Str.ofString "is_rising") = some (some (.ref f2))) (l2 : K.lookup f2 = some ⟨oc2, od2, .func (PySem.W.fnOf (Str.ofString "is_rising") (Str.ofString "is_rising") (defArgs s_is_rising) (defBody s_is_rising) (defScope s_is_rising) .none kV2 dc2 pm2 an2 cd2 ct2), sl2⟩) (c2 : PySem.W.codeIn K cd2 (Str.ofString "is_rising") = true) (k2 : PySem.W.keepIn K (.ref f2) = true)
    (a3 : PySem.W.nsIn K mainGlobals (Str.ofString "are_choices") = some (some (.ref f3))) (l3 : K.lookup f3 = some ⟨oc3, od3, .func (PySem.W.fnOf (Str.ofString "are_choices") (Str.ofString "are_choices") (defArgs s_are_choices) (defBody s_are_choices) (defScope s_are_choices) .none kV3 dc3 pm3 an3 cd3 ct3), sl3⟩) (c3 : PySem.W.codeIn K cd3 (Str.ofString "are_choices") = true) (k3 : PySem.W.keepIn K (.ref f3) = true)
    (a4 : PySem.W.nsIn K mainGlobals (Str.ofString "is_cell") = some (some (.ref f4))) (l4 : K.lookup f4 = some ⟨oc4, od4, .func (PySem.W.fnOf (Str.ofString "is_cell") (Str.ofString "is_cell") (defArgs s_is_cell) (defBody s_is_cell) (defScope s_is_cell) .none kV4 dc4 pm4 an4 cd4 ct4), sl4⟩) (c4 : PySem.W.codeIn K cd4 (Str.ofString "is_cell") = true) (k4 : PySem.W.keepIn K (.ref f4) = true)
    (a5 : PySem.W.nsIn K mainGlobals (Str.ofString "is_table") = some (some (.ref f5))) (l5 : K.lookup f5 = some ⟨oc5, od5, .func (PySem.W.fnOf (Str.ofString "is_table") (Str.ofString "is_table") (defArgs s_is_table) (defBody s_is_table) (defScope s_is_table) .none kV5 dc5 pm5 an5 cd5 ct5), sl5⟩) (c5 : PySem.W.codeIn K cd5 (Str.ofString "is_table") = true) (k5 : PySem.W.keepIn K (.ref f5) = true)
    (a6 : PySem.W.nsIn K mainGlobals (Str.ofString "look_side") = some (some (.ref f6))) (l6 : K.lookup f6 = some ⟨oc6, od6, .func (PySem.W.fnOf (Str.ofString "look_side") (Str.ofString "look_side") (defArgs s_look_side) (defBody s_look_side) (defScope s_look_side) .none kV6 dc6 pm6 an6 cd6 ct6), sl6⟩) (c6 : PySem.W.codeIn K cd6 (Str.ofString "look_side") = true) (k6 : PySem.W.keepIn K (.ref f6) = true)
    (a7 : PySem.W.nsIn K mainGlobals (Str.ofString "look_choice") = some (some (.ref f7))) (l7 : K.lookup f7 = some ⟨oc7, od7, .func (PySem.W.fnOf (Str.ofString "look_choice") (Str.ofString "look_choice") (defArgs s_look_choice) (defBody s_look_choice) (defScope s_look_choice) .none kV7 dc7 pm7 an7 cd7 ct7), sl7⟩) (c7 : PySem.W.codeIn K cd7 (Str.ofString "look_choice") = true) (k7 : PySem.W.keepIn K (.ref f7) = true)
    (a8 : PySem.W.nsIn K mainGlobals (Str.ofString "all_left") = some (some (.ref f8))) (l8 : K.lookup f8 = some ⟨oc8, od8, .func (PySem.W.fnOf (Str.ofString "all_left") (Str.ofString "all_left") (defArgs s_all_left) (defBody s_all_left) (defScope s_all_left) .none kV8 dc8 pm8 an8 cd8 ct8), sl8⟩) (c8 : PySem.W.codeIn K cd8 (Str.ofString "all_left") = true) (k8 : PySem.W.keepIn K (.ref f8) = true)
    (a9 : PySem.W.nsIn K mainGlobals (Str.ofString "gained") = some (some (.ref f9))) (l9 : K.lookup f9 = some ⟨oc9, od9, .func (PySem.W.fnOf (Str.ofString "gained") (Str.ofString "gained") (defArgs s_gained) (defBody s_gained) (defScope s_gained) .none kV9 dc9 pm9 an9 cd9 ct9), sl9⟩) (c9 : PySem.W.codeIn K cd9 (Str.ofString "gained") = true) (k9 : PySem.W.keepIn K (.ref f9) = true)
    (a10 : PySem.W.nsIn K mainGlobals (Str.ofString "is_more") = some (some (.ref f10))) (l10 : K.lookup f10 = some ⟨oc10, od10, .func (PySem.W.fnOf (Str.ofString "is_more") (Str.ofString "is_more") (defArgs s_is_more) (defBody s_is_more) (defScope s_is_more) .none kV10 dc10 pm10 an10 cd10 ct10), sl10⟩) (c10 : PySem.W.codeIn K cd10 (Str.ofString "is_more") = true) (k10 : PySem.W.keepIn K (.ref f10) = true)
    (a11 : PySem.W.nsIn K mainGlobals (Str.ofString "is_even") = some (some (.ref f11))) (l11 : K.lookup f11 = some ⟨oc11, od11, .func (PySem.W.fnOf (Str.ofString "is_even") (Str.ofString "is_even") (defArgs s_is_even) (defBody s_is_even) (defScope s_is_even) .none kV11 dc11 pm11 an11 cd11 ct11), sl11⟩) (c11 : PySem.W.codeIn K cd11 (Str.ofString "is_even") = true) (k11 : PySem.W.keepIn K (.ref f11) = true)
    (a12 : PySem.W.nsIn K mainGlobals (Str.ofString "all_betters") = some (some (.ref f12))) (l12 : K.lookup f12 = some ⟨oc12, od12, .func (PySem.W.fnOf (Str.ofString "all_betters") (Str.ofString "all_betters") (defArgs s_all_betters) (defBody s_all_betters) (defScope s_all_betters) .none kV12 dc12 pm12 an12 cd12 ct12), sl12⟩) (c12 : PySem.W.codeIn K cd12 (Str.ofString "all_betters") = true) (k12 : PySem.W.keepIn K (.ref f12) = true)
    (a13 : PySem.W.nsIn K mainGlobals (Str.ofString "may_strike") = some (some (.ref f13))) (l13 : K.lookup f13 = some ⟨oc13, od13, .func (PySem.W.fnOf (Str.ofString "may_strike") (Str.ofString "may_strike") (defArgs s_may_strike) (defBody s_may_strike) (defScope s_may_strike) .none kV13 dc13 pm13 an13 cd13 ct13), sl13⟩) (c13 : PySem.W.codeIn K cd13 (Str.ofString "may_strike") = true) (k13 : PySem.W.keepIn K (.ref f13) = true)
    (a14 : PySem.W.nsIn K mainGlobals (Str.ofString "all_strikes") = some (some (.ref f14))) (l14 : K.lookup f14 = some ⟨oc14, od14, .func (PySem.W.fnOf (Str.ofString "all_strikes") (Str.ofString "all_strikes") (defArgs s_all_strikes) (defBody s_all_strikes) (defScope s_all_strikes) .none kV14 dc14 pm14 an14 cd14 ct14), sl14⟩) (c14 : PySem.W.codeIn K cd14 (Str.ofString "all_strikes") = true) (k14 : PySem.W.keepIn K (.ref f14) = true)
    (a15 : PySem.W.nsIn K mainGlobals (Str.ofString "without") = some (some (.ref f15))) (l15 : K.lookup f15 = some ⟨oc15, od15, .func (PySem.W.fnOf (Str.ofString "without") (Str.ofString "without") (defArgs s_without) (defBody s_without) (defScope s_without) .none kV15 dc15 pm15 an15 cd15 ct15), sl15⟩) (c15 : PySem.W.codeIn K cd15 (Str.ofString "without") = true) (k15 : PySem.W.keepIn K (.ref f15) = true)
    (a16 : PySem.W.nsIn K mainGlobals (Str.ofString "with_numbers") = some (some (.ref f16))) (l16 : K.lookup f16 = some ⟨oc16, od16, .func (PySem.W.fnOf (Str.ofString "with_numbers") (Str.ofString "with_numbers") (defArgs s_with_numbers) (defBody s_with_numbers) (defScope s_with_numbers) .none kV16 dc16 pm16 an16 cd16 ct16), sl16⟩) (c16 : PySem.W.codeIn K cd16 (Str.ofString "with_numbers") = true) (k16 : PySem.W.keepIn K (.ref f16) = true)
    (a17 : PySem.W.nsIn K mainGlobals (Str.ofString "numbers_of") = some (some (.ref f17))) (l17 : K.lookup f17 = some ⟨oc17, od17, .func (PySem.W.fnOf (Str.ofString "numbers_of") (Str.ofString "numbers_of") (defArgs s_numbers_of) (defBody s_numbers_of) (defScope s_numbers_of) .none kV17 dc17 pm17 an17 cd17 ct17), sl17⟩) (c17 : PySem.W.codeIn K cd17 (Str.ofString "numbers_of") = true) (k17 : PySem.W.keepIn K (.ref f17) = true)
    (a18 : PySem.W.nsIn K mainGlobals (Str.ofString "_law_draw") = some (some (.ref f18))) (l18 : K.lookup f18 = some ⟨oc18, od18, .func (PySem.W.fnOf (Str.ofString "_law_draw") (Str.ofString "_law_draw") (defArgs s__law_draw) (defBody s__law_draw) (defScope s__law_draw) .none kV18 dc18 pm18 an18 cd18 ct18), sl18⟩) (c18 : PySem.W.codeIn K cd18 (Str.ofString "_law_draw") = true) (k18 : PySem.W.keepIn K (.ref f18) = true)
    (a19 : PySem.W.nsIn K mainGlobals (Str.ofString "_law_begun") = some (some (.ref f19))) (l19 : K.lookup f19 = some ⟨oc19, od19, .func (PySem.W.fnOf (Str.ofString "_law_begun") (Str.ofString "_law_begun") (defArgs s__law_begun) (defBody s__law_begun) (defScope s__law_begun) .none kV19 dc19 pm19 an19 cd19 ct19), sl19⟩) (c19 : PySem.W.codeIn K cd19 (Str.ofString "_law_begun") = true) (k19 : PySem.W.keepIn K (.ref f19) = true)
    (a20 : PySem.W.nsIn K mainGlobals (Str.ofString "_law_a_table") = some (some (.ref f20))) (l20 : K.lookup f20 = some ⟨oc20, od20, .func (PySem.W.fnOf (Str.ofString "_law_a_table") (Str.ofString "_law_a_table") (defArgs s__law_a_table) (defBody s__law_a_table) (defScope s__law_a_table) .none kV20 dc20 pm20 an20 cd20 ct20), sl20⟩) (c20 : PySem.W.codeIn K cd20 (Str.ofString "_law_a_table") = true) (k20 : PySem.W.keepIn K (.ref f20) = true)
    (a21 : PySem.W.nsIn K mainGlobals (Str.ofString "_law_gain") = some (some (.ref f21))) (l21 : K.lookup f21 = some ⟨oc21, od21, .func (PySem.W.fnOf (Str.ofString "_law_gain") (Str.ofString "_law_gain") (defArgs s__law_gain) (defBody s__law_gain) (defScope s__law_gain) .none kV21 dc21 pm21 an21 cd21 ct21), sl21⟩) (c21 : PySem.W.codeIn K cd21 (Str.ofString "_law_gain") = true) (k21 : PySem.W.keepIn K (.ref f21) = true)
    (a22 : PySem.W.nsIn K mainGlobals (Str.ofString "_law_lines") = some (some (.ref f22))) (l22 : K.lookup f22 = some ⟨oc22, od22, .func (PySem.W.fnOf (Str.ofString "_law_lines") (Str.ofString "_law_lines") (defArgs s__law_lines) (defBody s__law_lines) (defScope s__law_lines) .none kV22 dc22 pm22 an22 cd22 ct22), sl22⟩) (c22 : PySem.W.codeIn K cd22 (Str.ofString "_law_lines") = true) (k22 : PySem.W.keepIn K (.ref f22) = true)
    (a23 : PySem.W.nsIn K mainGlobals (Str.ofString "_law_strikes") = some (some (.ref f23))) (l23 : K.lookup f23 = some ⟨oc23, od23, .func (PySem.W.fnOf (Str.ofString "_law_strikes") (Str.ofString "_law_strikes") (defArgs s__law_strikes) (defBody s__law_strikes) (defScope s__law_strikes) .none kV23 dc23 pm23 an23 cd23 ct23), sl23⟩) (c23 : PySem.W.codeIn K cd23 (Str.ofString "_law_strikes") = true) (k23 : PySem.W.keepIn K (.ref f23) = true)
    (a24 : PySem.W.nsIn K mainGlobals (Str.ofString "_law_less") = some (some (.ref f24))) (l24 : K.lookup f24 = some ⟨oc24, od24, .func (PySem.W.fnOf (Str.ofString "_law_less") (Str.ofString "_law_less") (defArgs s__law_less) (defBody s__law_less) (defScope s__law_less) .none kV24 dc24 pm24 an24 cd24 ct24), sl24⟩) (c24 : PySem.W.codeIn K cd24 (Str.ofString "_law_less") = true) (k24 : PySem.W.keepIn K (.ref f24) = true)
    (a25 : PySem.W.nsIn K mainGlobals (Str.ofString "_law_with") = some (some (.ref f25))) (l25 : K.lookup f25 = some ⟨oc25, od25, .func (PySem.W.fnOf (Str.ofString "_law_with") (Str.ofString "_law_with") (defArgs s__law_with) (defBody s__law_with) (defScope s__law_with) .none kV25 dc25 pm25 an25 cd25 ct25), sl25⟩) (c25 : PySem.W.codeIn K cd25 (Str.ofString "_law_with") = true) (k25 : PySem.W.keepIn K (.ref f25) = true)
    (a26 : PySem.W.nsIn K mainGlobals (Str.ofString "_law_a_deed") = some (some (.ref f26))) (l26 : K.lookup f26 = some ⟨oc26, od26, .func (PySem.W.fnOf (Str.ofString "_law_a_deed") (Str.ofString "_law_a_deed") (defArgs s__law_a_deed) (defBody s__law_a_deed) (defScope s__law_a_deed) .none kV26 dc26 pm26 an26 cd26 ct26), sl26⟩) (c26 : PySem.W.codeIn K cd26 (Str.ofString "_law_a_deed") = true) (k26 : PySem.W.keepIn K (.ref f26) = true)
    (a27 : PySem.W.nsIn K mainGlobals (Str.ofString "_law_plain") = some (some (.ref f27))) (l27 : K.lookup f27 = some ⟨oc27, od27, .func (PySem.W.fnOf (Str.ofString "_law_plain") (Str.ofString "_law_plain") (defArgs s__law_plain) (defBody s__law_plain) (defScope s__law_plain) .none kV27 dc27 pm27 an27 cd27 ct27), sl27⟩) (c27 : PySem.W.codeIn K cd27 (Str.ofString "_law_plain") = true) (k27 : PySem.W.keepIn K (.ref f27) = true)
    (a28 : PySem.W.nsIn K mainGlobals (Str.ofString "_law_call") = some (some (.ref f28))) (l28 : K.lookup f28 = some ⟨oc28, od28, .func (PySem.W.fnOf (Str.ofString "_law_call") (Str.ofString "_law_call") (defArgs s__law_call) (defBody s__law_call) (defScope s__law_call) .none kV28 dc28 pm28 an28 cd28 ct28), sl28⟩) (c28 : PySem.W.codeIn K cd28 (Str.ofString "_law_call") = true) (k28 : PySem.W.keepIn K (.ref f28) = true)
    (a29 : PySem.W.nsIn K mainGlobals (Str.ofString "_law_stands") = some (some (.ref f29))) (l29 : K.lookup f29 = some ⟨oc29, od29, .func (PySem.W.fnOf (Str.ofString "_law_stands") (Str.ofString "_law_stands") (defArgs s__law_stands) (defBody s__law_stands) (defScope s__law_stands) .none kV29 dc29 pm29 an29 cd29 ct29), sl29⟩) (c29 : PySem.W.codeIn K cd29 (Str.ofString "_law_stands") = true) (k29 : PySem.W.keepIn K (.ref f29) = true)
    (a30 : PySem.W.nsIn K mainGlobals (Str.ofString "law") = some (some (.ref f30))) (l30 : K.lookup f30 = some ⟨oc30, od30, .func (PySem.W.fnOf (Str.ofString "law") (Str.ofString "law") (defArgs s_law) (defBody s_law) (defScope s_law) .none kV30 dc30 pm30 an30 cd30 ct30), sl30⟩) (c30 : PySem.W.codeIn K cd30 (Str.ofString "law") = true) (k30 : PySem.W.keepIn K (.ref f30) = true)
    (a31 : PySem.W.findIn K (.ref fC) (Str.ofString "__init__") = some (some (.ref f31))) (l31 : K.lookup f31 = some ⟨oc31, od31, .func (PySem.W.fnOf (Str.ofString "__init__") (Str.ofString "Desk.__init__") (defArgs s_Desk___init__) (defBody s_Desk___init__) (defScope s_Desk___init__) .none kV31 dc31 pm31 an31 cd31 ct31), sl31⟩) (c31 : PySem.W.codeIn K cd31 (Str.ofString "Desk.__init__") = true) (k31 : PySem.W.keepIn K (.ref f31) = true)
    (i31 : PySem.W.isFn K (.ref f31) = true)
    (a32 : PySem.W.findIn K (.ref fC) (Str.ofString "__len__") = some (some (.ref f32))) (l32 : K.lookup f32 = some ⟨oc32, od32, .func (PySem.W.fnOf (Str.ofString "__len__") (Str.ofString "Desk.__len__") (defArgs s_Desk___len__) (defBody s_Desk___len__) (defScope s_Desk___len__) .none kV32 dc32 pm32 an32 cd32 ct32), sl32⟩) (c32 : PySem.W.codeIn K cd32 (Str.ofString "Desk.__len__") = true) (k32 : PySem.W.keepIn K (.ref f32) = true)
    (i32 : PySem.W.isFn K (.ref f32) = true)
    (a33 : PySem.W.findIn K (.ref fC) (Str.ofString "__str__") = some (some (.ref f33))) (l33 : K.lookup f33 = some ⟨oc33, od33, .func (PySem.W.fnOf (Str.ofString "__str__") (Str.ofString "Desk.__str__") (defArgs s_Desk___str__) (defBody s_Desk___str__) (defScope s_Desk___str__) .none kV33 dc33 pm33 an33 cd33 ct33), sl33⟩) (c33 : PySem.W.codeIn K cd33 (Str.ofString "Desk.__str__") = true) (k33 : PySem.W.keepIn K (.ref f33) = true)
    (i33 : PySem.W.isFn K (.ref f33) = true)
    (a34 : PySem.W.findIn K (.ref fC) (Str.ofString "become") = some (some (.ref f34))) (l34 : K.lookup f34 = some ⟨oc34, od34, .func (PySem.W.fnOf (Str.ofString "become") (Str.ofString "Desk.become") (defArgs s_Desk_become) (defBody s_Desk_become) (defScope s_Desk_become) .none kV34 dc34 pm34 an34 cd34 ct34), sl34⟩) (c34 : PySem.W.codeIn K cd34 (Str.ofString "Desk.become") = true) (k34 : PySem.W.keepIn K (.ref f34) = true)
    (i34 : PySem.W.isFn K (.ref f34) = true)
    (a35 : PySem.W.findIn K (.ref fC) (Str.ofString "strike") = some (some (.ref f35))) (l35 : K.lookup f35 = some ⟨oc35, od35, .func (PySem.W.fnOf (Str.ofString "strike") (Str.ofString "Desk.strike") (defArgs s_Desk_strike) (defBody s_Desk_strike) (defScope s_Desk_strike) .none kV35 dc35 pm35 an35 cd35 ct35), sl35⟩) (c35 : PySem.W.codeIn K cd35 (Str.ofString "Desk.strike") = true) (k35 : PySem.W.keepIn K (.ref f35) = true)
    (i35 : PySem.W.isFn K (.ref f35) = true)
    (a36 : PySem.W.findIn K (.ref fC) (Str.ofString "change") = some (some (.ref f36))) (l36 : K.lookup f36 = some ⟨oc36, od36, .func (PySem.W.fnOf (Str.ofString "change") (Str.ofString "Desk.change") (defArgs s_Desk_change) (defBody s_Desk_change) (defScope s_Desk_change) .none kV36 dc36 pm36 an36 cd36 ct36), sl36⟩) (c36 : PySem.W.codeIn K cd36 (Str.ofString "Desk.change") = true) (k36 : PySem.W.keepIn K (.ref f36) = true)
    (i36 : PySem.W.isFn K (.ref f36) = true)
    (a37 : PySem.W.findIn K (.ref fC) (Str.ofString "table") = some (some (.ref f37))) (l37 : K.lookup f37 = some ⟨oc37, od37, .func (PySem.W.fnOf (Str.ofString "table") (Str.ofString "Desk.table") (defArgs s_Desk_table) (defBody s_Desk_table) (defScope s_Desk_table) .none kV37 dc37 pm37 an37 cd37 ct37), sl37⟩) (c37 : PySem.W.codeIn K cd37 (Str.ofString "Desk.table") = true) (k37 : PySem.W.keepIn K (.ref f37) = true)
    (i37 : PySem.W.isFn K (.ref f37) = true)
    (a38 : PySem.W.findIn K (.ref fC) (Str.ofString "left") = some (some (.ref f38))) (l38 : K.lookup f38 = some ⟨oc38, od38, .func (PySem.W.fnOf (Str.ofString "left") (Str.ofString "Desk.left") (defArgs s_Desk_left) (defBody s_Desk_left) (defScope s_Desk_left) .none kV38 dc38 pm38 an38 cd38 ct38), sl38⟩) (c38 : PySem.W.codeIn K cd38 (Str.ofString "Desk.left") = true) (k38 : PySem.W.keepIn K (.ref f38) = true)
    (i38 : PySem.W.isFn K (.ref f38) = true)
    (a39 : PySem.W.findIn K (.ref fC) (Str.ofString "waiting") = some (some (.ref f39))) (l39 : K.lookup f39 = some ⟨oc39, od39, .func (PySem.W.fnOf (Str.ofString "waiting") (Str.ofString "Desk.waiting") (defArgs s_Desk_waiting) (defBody s_Desk_waiting) (defScope s_Desk_waiting) .none kV39 dc39 pm39 an39 cd39 ct39), sl39⟩) (c39 : PySem.W.codeIn K cd39 (Str.ofString "Desk.waiting") = true) (k39 : PySem.W.keepIn K (.ref f39) = true)
    (i39 : PySem.W.isFn K (.ref f39) = true)
    (a40 : PySem.W.findIn K (.ref fC) (Str.ofString "deeds") = some (some (.ref f40))) (l40 : K.lookup f40 = some ⟨oc40, od40, .func (PySem.W.fnOf (Str.ofString "deeds") (Str.ofString "Desk.deeds") (defArgs s_Desk_deeds) (defBody s_Desk_deeds) (defScope s_Desk_deeds) .none kV40 dc40 pm40 an40 cd40 ct40), sl40⟩) (c40 : PySem.W.codeIn K cd40 (Str.ofString "Desk.deeds") = true) (k40 : PySem.W.keepIn K (.ref f40) = true)
    (i40 : PySem.W.isFn K (.ref f40) = true)
    (a41 : PySem.W.nsIn K mainGlobals (Str.ofString "_law_heard") = some (some (.ref f41))) (l41 : K.lookup f41 = some ⟨oc41, od41, .func (PySem.W.fnOf (Str.ofString "_law_heard") (Str.ofString "_law_heard") (defArgs s_heard) (defBody s_heard) (defScope s_heard) .none kV41 dc41 pm41 an41 cd41 ct41), sl41⟩) (c41 : PySem.W.codeIn K cd41 (Str.ofString "_law_heard") = true) (k41 : PySem.W.keepIn K (.ref f41) = true)
    (se : PySem.W.nsIn K mainGlobals (Str.ofString "StrikeError") = some (some (.ref fS)))
    (q0 : PySem.W.nsIn K mainGlobals (Str.ofString "LETTERS") = some (some (.str (Str.ofString "abcdefghijklmnopqrstuvwxyz") qt0)))
    (q1 : PySem.W.nsIn K mainGlobals (Str.ofString "FAR") = some (some (.int 99 qt1)))
    (z0 : PySem.W.nsIn K mainGlobals (Str.ofString "isinstance") = some none)
    (z1 : PySem.W.nsIn K mainGlobals (Str.ofString "len") = some none)
    (z2 : PySem.W.nsIn K mainGlobals (Str.ofString "all") = some none)
    (z3 : PySem.W.nsIn K mainGlobals (Str.ofString "any") = some none)
    (z4 : PySem.W.nsIn K mainGlobals (Str.ofString "abs") = some none)
    (z5 : PySem.W.nsIn K mainGlobals (Str.ofString "tuple") = some none)
    (z6 : PySem.W.nsIn K mainGlobals (Str.ofString "list") = some none)
    (z7 : PySem.W.nsIn K mainGlobals (Str.ofString "int") = some none)
    (z8 : PySem.W.nsIn K mainGlobals (Str.ofString "bool") = some none)
    (z9 : PySem.W.nsIn K mainGlobals (Str.ofString "str") = some none)
    (z10 : PySem.W.nsIn K mainGlobals (Str.ofString "range") = some none)
    (z11 : PySem.W.nsIn K mainGlobals (Str.ofString "enumerate") = some none)
    (z12 : PySem.W.nsIn K mainGlobals (Str.ofString "zip") = some none)
    (z13 : PySem.W.nsIn K mainGlobals (Str.ofString "ValueError") = some none)
    (z14 : PySem.W.nsIn K mainGlobals (Str.ofString "min") = some none)
    (z15 : PySem.W.nsIn K mainGlobals (Str.ofString "max") = some none)
    (z16 : PySem.W.nsIn K mainGlobals (Str.ofString "sorted") = some none)
    (z17 : PySem.W.nsIn K mainGlobals (Str.ofString "dict") = some none)
    (z18 : PySem.W.nsIn K mainGlobals (Str.ofString "set") = some none)
    (ex : exNames.all (exfB K) = true)
    (cb : clsfB prg K = true)
    {ts : List Addr} (tb : tabsB K ts = true) (tt : ∀ P ∈ ts, h.get? P = some { cls := .none, data := .fields #[] })
    : AtHead prg K mg fa h := by
  have e := hfa.symm.trans (PySem.W.mg_of X G a30)
  cases e
  have eC : clsOf K prg.cn = fC := by show clsOf K "Desk" = fC; unfold clsOf; rw [aC]
  have F0 := defF_mk (P := prg) (d := d_is_number) X G ck_is_number bi_is_number a0 l0 c0 k0
  have F1 := defF_mk (P := prg) (d := d_is_name) X G ck_is_name bi_is_name a1 l1 c1 k1
  have F2 := defF_mk (P := prg) (d := d_is_rising) X G ck_is_rising bi_is_rising a2 l2 c2 k2
  have F3 := defF_mk (P := prg) (d := d_are_choices) X G ck_are_choices bi_are_choices a3 l3 c3 k3
  have F4 := defF_mk (P := prg) (d := d_is_cell) X G ck_is_cell bi_is_cell a4 l4 c4 k4
  have F5 := defF_mk (P := prg) (d := d_is_table) X G ck_is_table bi_is_table a5 l5 c5 k5
  have F6 := defF_mk (P := prg) (d := d_look_side) X G ck_look_side bi_look_side a6 l6 c6 k6
  have F7 := defF_mk (P := prg) (d := d_look_choice) X G ck_look_choice bi_look_choice a7 l7 c7 k7
  have F8 := defF_mk (P := prg) (d := d_all_left) X G ck_all_left bi_all_left a8 l8 c8 k8
  have F9 := defF_mk (P := prg) (d := d_gained) X G ck_gained bi_gained a9 l9 c9 k9
  have F10 := defF_mk (P := prg) (d := d_is_more) X G ck_is_more bi_is_more a10 l10 c10 k10
  have F11 := defF_mk (P := prg) (d := d_is_even) X G ck_is_even bi_is_even a11 l11 c11 k11
  have F12 := defF_mk (P := prg) (d := d_all_betters) X G ck_all_betters bi_all_betters a12 l12 c12 k12
  have F13 := defF_mk (P := prg) (d := d_may_strike) X G ck_may_strike bi_may_strike a13 l13 c13 k13
  have F14 := defF_mk (P := prg) (d := d_all_strikes) X G ck_all_strikes bi_all_strikes a14 l14 c14 k14
  have F15 := defF_mk (P := prg) (d := d_without) X G ck_without bi_without a15 l15 c15 k15
  have F16 := defF_mk (P := prg) (d := d_with_numbers) X G ck_with_numbers bi_with_numbers a16 l16 c16 k16
  have F17 := defF_mk (P := prg) (d := d_numbers_of) X G ck_numbers_of bi_numbers_of a17 l17 c17 k17
  have F18 := defF_mk (P := prg) (d := d__law_draw) X G ck__law_draw bi__law_draw a18 l18 c18 k18
  have F19 := defF_mk (P := prg) (d := d__law_begun) X G ck__law_begun bi__law_begun a19 l19 c19 k19
  have F20 := defF_mk (P := prg) (d := d__law_a_table) X G ck__law_a_table bi__law_a_table a20 l20 c20 k20
  have F21 := defF_mk (P := prg) (d := d__law_gain_23) X G ck__law_gain bi__law_gain a21 l21 c21 k21
  have F22 := defF_mk (P := prg) (d := d__law_lines_23) X G ck__law_lines bi__law_lines a22 l22 c22 k22
  have F23 := defF_mk (P := prg) (d := d__law_strikes_23) X G ck__law_strikes bi__law_strikes a23 l23 c23 k23
  have F24 := defF_mk (P := prg) (d := d__law_less) X G ck__law_less bi__law_less a24 l24 c24 k24
  have F25 := defF_mk (P := prg) (d := d__law_with) X G ck__law_with bi__law_with a25 l25 c25 k25
  have F26 := defF_mk (P := prg) (d := d__law_a_deed) X G ck__law_a_deed bi__law_a_deed a26 l26 c26 k26
  have F27 := defF_mk (P := prg) (d := d__law_plain) X G ck__law_plain bi__law_plain a27 l27 c27 k27
  have F28 := defF_mk (P := prg) (d := d__law_call) X G ck__law_call bi__law_call a28 l28 c28 k28
  have F29 := defF_mk (P := prg) (d := d__law_stands) X G ck__law_stands bi__law_stands a29 l29 c29 k29
  have F30 := defF_mk (P := prg) (d := d_law_23) X G ck_law bi_law a30 l30 c30 k30
  have F31 := defF_mt (P := prg) (K := K) (mg := mg) (f := "Desk.__init__") (m := Str.ofString "__init__") (d := d_Desk___init__) ck_Desk___init__ bi_Desk___init__ (by rw [eC]; exact a31) l31 c31 k31 i31 rfl (by decide +kernel)
  have F32 := defF_mt (P := prg) (K := K) (mg := mg) (f := "Desk.__len__") (m := Str.ofString "__len__") (d := d_Desk___len__) ck_Desk___len__ bi_Desk___len__ (by rw [eC]; exact a32) l32 c32 k32 i32 rfl (by decide +kernel)
  have F33 := defF_mt (P := prg) (K := K) (mg := mg) (f := "Desk.__str__") (m := Str.ofString "__str__") (d := d_Desk___str__) ck_Desk___str__ bi_Desk___str__ (by rw [eC]; exact a33) l33 c33 k33 i33 rfl (by decide +kernel)
  have F34 := defF_mt (P := prg) (K := K) (mg := mg) (f := "Desk.become") (m := Str.ofString "become") (d := d_Desk_become) ck_Desk_become bi_Desk_become (by rw [eC]; exact a34) l34 c34 k34 i34 rfl (by decide +kernel)
  have F35 := defF_mt (P := prg) (K := K) (mg := mg) (f := "Desk.strike") (m := Str.ofString "strike") (d := d_Desk_strike) ck_Desk_strike bi_Desk_strike (by rw [eC]; exact a35) l35 c35 k35 i35 rfl (by decide +kernel)
  have F36 := defF_mt (P := prg) (K := K) (mg := mg) (f := "Desk.change") (m := Str.ofString "change") (d := d_Desk_change) ck_Desk_change bi_Desk_change (by rw [eC]; exact a36) l36 c36 k36 i36 rfl (by decide +kernel)
  have F37 := defF_mt (P := prg) (K := K) (mg := mg) (f := "Desk.table") (m := Str.ofString "table") (d := d_Desk_table) ck_Desk_table bi_Desk_table (by rw [eC]; exact a37) l37 c37 k37 i37 rfl (by decide +kernel)
  have F38 := defF_mt (P := prg) (K := K) (mg := mg) (f := "Desk.left") (m := Str.ofString "left") (d := d_Desk_left) ck_Desk_left bi_Desk_left (by rw [eC]; exact a38) l38 c38 k38 i38 rfl (by decide +kernel)
  have F39 := defF_mt (P := prg) (K := K) (mg := mg) (f := "Desk.waiting") (m := Str.ofString "waiting") (d := d_Desk_waiting) ck_Desk_waiting bi_Desk_waiting (by rw [eC]; exact a39) l39 c39 k39 i39 rfl (by decide +kernel)
  have F40 := defF_mt (P := prg) (K := K) (mg := mg) (f := "Desk.deeds") (m := Str.ofString "deeds") (d := d_Desk_deeds) ck_Desk_deeds bi_Desk_deeds (by rw [eC]; exact a40) l40 c40 k40 i40 rfl (by decide +kernel)
  have tb' := tabsB_ok tb
  have T : TextF prg K mg := by
    refine ⟨AllT.get (.cons ⟨_, _, _, _, F0⟩ (.cons ⟨_, _, _, _, F1⟩ (.cons ⟨_, _, _, _, F2⟩ (.cons ⟨_, _, _, _, F3⟩ (.cons ⟨_, _, _, _, F4⟩ (.cons ⟨_, _, _, _, F5⟩ (.cons ⟨_, _, _, _, F6⟩ (.cons ⟨_, _, _, _, F7⟩ (.cons ⟨_, _, _, _, F8⟩ (.cons ⟨_, _, _, _, F9⟩ (.cons ⟨_, _, _, _, F10⟩ (.cons ⟨_, _, _, _, F11⟩ (.cons ⟨_, _, _, _, F12⟩ (.cons ⟨_, _, _, _, F13⟩ (.cons ⟨_, _, _, _, F14⟩ (.cons ⟨_, _, _, _, F15⟩ (.cons ⟨_, _, _, _, F16⟩ (.cons ⟨_, _, _, _, F17⟩ (.cons ⟨_, _, _, _, F18⟩ (.cons ⟨_, _, _, _, F19⟩ (.cons ⟨_, _, _, _, F20⟩ (.cons ⟨_, _, _, _, F21⟩ (.cons ⟨_, _, _, _, F22⟩ (.cons ⟨_, _, _, _, F23⟩ (.cons ⟨_, _, _, _, F24⟩ (.cons ⟨_, _, _, _, F25⟩ (.cons ⟨_, _, _, _, F26⟩ (.cons ⟨_, _, _, _, F27⟩ (.cons ⟨_, _, _, _, F28⟩ (.cons ⟨_, _, _, _, F29⟩ (.cons ⟨_, _, _, _, F30⟩ (.cons ⟨_, _, _, _, F31⟩ (.cons ⟨_, _, _, _, F32⟩ (.cons ⟨_, _, _, _, F33⟩ (.cons ⟨_, _, _, _, F34⟩ (.cons ⟨_, _, _, _, F35⟩ (.cons ⟨_, _, _, _, F36⟩ (.cons ⟨_, _, _, _, F37⟩ (.cons ⟨_, _, _, _, F38⟩ (.cons ⟨_, _, _, _, F39⟩ (.cons ⟨_, _, _, _, F40⟩ (AllT.nil)))))))))))))))))))))))))))))))))))))))))), AllC.get (.cons (cst_str X G q0) (.cons (cst_int X G q1) (AllC.nil))), fun x hx => ?_, AllS.get (AllS.nil), fun _ x hx => exfB_ok X G (List.all_eq_true.mp ex x hx), fun _ => clsfB_ok X G cb, fun _ => ⟨rfl, heardD_mk X G sc_heard ck_heard bi_heard a41 l41 c41 k41 se⟩, fun f hf => let ⟨c, Pt, e, _⟩ := tb'.1 f hf; ⟨c, Pt, e⟩, tb'.2⟩
    simp only [bltNs, List.mem_cons, List.not_mem_nil, or_false] at hx
    rcases hx with rfl | rfl | rfl | rfl | rfl | rfl | rfl | rfl | rfl | rfl | rfl | rfl | rfl | rfl | rfl | rfl | rfl | rfl | rfl
    · exact PySem.W.mg_none_of X G z0
    · exact PySem.W.mg_none_of X G z1
    · exact PySem.W.mg_none_of X G z2
    · exact PySem.W.mg_none_of X G z3
    · exact PySem.W.mg_none_of X G z4
    · exact PySem.W.mg_none_of X G z5
    · exact PySem.W.mg_none_of X G z6
    · exact PySem.W.mg_none_of X G z7
    · exact PySem.W.mg_none_of X G z8
    · exact PySem.W.mg_none_of X G z9
    · exact PySem.W.mg_none_of X G z10
    · exact PySem.W.mg_none_of X G z11
    · exact PySem.W.mg_none_of X G z12
    · exact PySem.W.mg_none_of X G z13
    · exact PySem.W.mg_none_of X G z14
    · exact PySem.W.mg_none_of X G z15
    · exact PySem.W.mg_none_of X G z16
    · exact PySem.W.mg_none_of X G z17
    · exact PySem.W.mg_none_of X G z18
  exact ⟨T, ⟨_, _, _, _, rfl, rfl, F30, fun s u => .of_eq rfl⟩, fun f hf c Pt e => by
    obtain ⟨c', P', e', h1, h2, h3⟩ := tb'.1 f hf
    rw [e] at e'
    cases e'
    exact ⟨tt _ h3, h1, h2⟩⟩
end P23
open PySem PySem.W PyProof.Rows in
set_option maxRecDepth 100000 in
set_option maxHeartbeats 0 in
theorem PySem.Challenge.cw_strikesout_k23_desks_holds : PySem.Challenge.rw_strikesout_k23_desks.Holds := by
  w_on; o_law; k_head; (case hw => w_witness2)
  k_fill
  refine Lt.law_end (l := PySem.Challenge.rw_strikesout_k23_desks) (P := P23.prg) 20 rfl rfl rfl ⟨rfl, by decide, by decide⟩ P23.says (fun w h Y => PySem.W.km_in_of Y) ?F
  case F =>
    intro w mg fa h Y KX G hmg
    refine' P23.all_mk KX G hmg ?aC ?a0 ?l0 ?c0 ?k0 ?a1 ?l1 ?c1 ?k1 ?a2 ?l2 ?c2 ?k2 ?a3 ?l3 ?c3 ?k3 ?a4 ?l4 ?c4 ?k4 ?a5 ?l5 ?c5 ?k5 ?a6 ?l6 ?c6 ?k6 ?a7 ?l7 ?c7 ?k7 ?a8 ?l8 ?c8 ?k8 ?a9 ?l9 ?c9 ?k9 ?a10 ?l10 ?c10 ?k10 ?a11 ?l11 ?c11 ?k11 ?a12 ?l12 ?c12 ?k12 ?a13 ?l13 ?c13 ?k13 ?a14 ?l14 ?c14 ?k14 ?a15 ?l15 ?c15 ?k15 ?a16 ?l16 ?c16 ?k16 ?a17 ?l17 ?c17 ?k17 ?a18 ?l18 ?c18 ?k18 ?a19 ?l19 ?c19 ?k19 ?a20 ?l20 ?c20 ?k20 ?a21 ?l21 ?c21 ?k21 ?a22 ?l22 ?c22 ?k22 ?a23 ?l23 ?c23 ?k23 ?a24 ?l24 ?c24 ?k24 ?a25 ?l25 ?c25 ?k25 ?a26 ?l26 ?c26 ?k26 ?a27 ?l27 ?c27 ?k27 ?a28 ?l28 ?c28 ?k28 ?a29 ?l29 ?c29 ?k29 ?a30 ?l30 ?c30 ?k30 ?a31 ?l31 ?c31 ?k31 ?i31 ?a32 ?l32 ?c32 ?k32 ?i32 ?a33 ?l33 ?c33 ?k33 ?i33 ?a34 ?l34 ?c34 ?k34 ?i34 ?a35 ?l35 ?c35 ?k35 ?i35 ?a36 ?l36 ?c36 ?k36 ?i36 ?a37 ?l37 ?c37 ?k37 ?i37 ?a38 ?l38 ?c38 ?k38 ?i38 ?a39 ?l39 ?c39 ?k39 ?i39 ?a40 ?l40 ?c40 ?k40 ?i40 ?a41 ?l41 ?c41 ?k41 ?se ?q0 ?q1 ?z0 ?z1 ?z2 ?z3 ?z4 ?z5 ?z6 ?z7 ?z8 ?z9 ?z10 ?z11 ?z12 ?z13 ?z14 ?z15 ?z16 ?z17 ?z18 ?ex ?cb ?tb ?tt
    (case aC => k_is)
    (case a0 => k_is)
    (case l0 => k_is)
    (case c0 => k_is)
    (case k0 => k_is)
    (case a1 => k_is)
    (case l1 => k_is)
    (case c1 => k_is)
    (case k1 => k_is)
    (case a2 => k_is)
    (case l2 => k_is)
    (case c2 => k_is)
    (case k2 => k_is)
    (case a3 => k_is)
    (case l3 => k_is)
    (case c3 => k_is)
    (case k3 => k_is)
    (case a4 => k_is)
    (case l4 => k_is)
    (case c4 => k_is)
    (case k4 => k_is)
    (case a5 => k_is)
    (case l5 => k_is)
    (case c5 => k_is)
    (case k5 => k_is)
    (case a6 => k_is)
    (case l6 => k_is)
    (case c6 => k_is)
    (case k6 => k_is)
    (case a7 => k_is)
    (case l7 => k_is)
    (case c7 => k_is)
    (case k7 => k_is)
    (case a8 => k_is)
    (case l8 => k_is)
    (case c8 => k_is)
    (case k8 => k_is)
    (case a9 => k_is)
    (case l9 => k_is)
    (case c9 => k_is)
    (case k9 => k_is)
    (case a10 => k_is)
    (case l10 => k_is)
    (case c10 => k_is)
    (case k10 => k_is)
    (case a11 => k_is)
    (case l11 => k_is)
    (case c11 => k_is)
    (case k11 => k_is)
    (case a12 => k_is)
    (case l12 => k_is)
    (case c12 => k_is)
    (case k12 => k_is)
    (case a13 => k_is)
    (case l13 => k_is)
    (case c13 => k_is)
    (case k13 => k_is)
    (case a14 => k_is)
    (case l14 => k_is)
    (case c14 => k_is)
    (case k14 => k_is)
    (case a15 => k_is)
    (case l15 => k_is)
    (case c15 => k_is)
    (case k15 => k_is)
    (case a16 => k_is)
    (case l16 => k_is)
    (case c16 => k_is)
    (case k16 => k_is)
    (case a17 => k_is)
    (case l17 => k_is)
    (case c17 => k_is)
    (case k17 => k_is)
    (case a18 => k_is)
    (case l18 => k_is)
    (case c18 => k_is)
    (case k18 => k_is)
    (case a19 => k_is)
    (case l19 => k_is)
    (case c19 => k_is)
    (case k19 => k_is)
    (case a20 => k_is)
    (case l20 => k_is)
    (case c20 => k_is)
    (case k20 => k_is)
    (case a21 => k_is)
    (case l21 => k_is)
    (case c21 => k_is)
    (case k21 => k_is)
    (case a22 => k_is)
    (case l22 => k_is)
    (case c22 => k_is)
    (case k22 => k_is)
    (case a23 => k_is)
    (case l23 => k_is)
    (case c23 => k_is)
    (case k23 => k_is)
    (case a24 => k_is)
    (case l24 => k_is)
    (case c24 => k_is)
    (case k24 => k_is)
    (case a25 => k_is)
    (case l25 => k_is)
    (case c25 => k_is)
    (case k25 => k_is)
    (case a26 => k_is)
    (case l26 => k_is)
    (case c26 => k_is)
    (case k26 => k_is)
    (case a27 => k_is)
    (case l27 => k_is)
    (case c27 => k_is)
    (case k27 => k_is)
    (case a28 => k_is)
    (case l28 => k_is)
    (case c28 => k_is)
    (case k28 => k_is)
    (case a29 => k_is)
    (case l29 => k_is)
    (case c29 => k_is)
    (case k29 => k_is)
    (case a30 => k_is)
    (case l30 => k_is)
    (case c30 => k_is)
    (case k30 => k_is)
    (case a31 => k_is)
    (case l31 => k_is)
    (case c31 => k_is)
    (case k31 => k_is)
    (case i31 => k_is)
    (case a32 => k_is)
    (case l32 => k_is)
    (case c32 => k_is)
    (case k32 => k_is)
    (case i32 => k_is)
    (case a33 => k_is)
    (case l33 => k_is)
    (case c33 => k_is)
    (case k33 => k_is)
    (case i33 => k_is)
    (case a34 => k_is)
    (case l34 => k_is)
    (case c34 => k_is)
    (case k34 => k_is)
    (case i34 => k_is)
    (case a35 => k_is)
    (case l35 => k_is)
    (case c35 => k_is)
    (case k35 => k_is)
    (case i35 => k_is)
    (case a36 => k_is)
    (case l36 => k_is)
    (case c36 => k_is)
    (case k36 => k_is)
    (case i36 => k_is)
    (case a37 => k_is)
    (case l37 => k_is)
    (case c37 => k_is)
    (case k37 => k_is)
    (case i37 => k_is)
    (case a38 => k_is)
    (case l38 => k_is)
    (case c38 => k_is)
    (case k38 => k_is)
    (case i38 => k_is)
    (case a39 => k_is)
    (case l39 => k_is)
    (case c39 => k_is)
    (case k39 => k_is)
    (case i39 => k_is)
    (case a40 => k_is)
    (case l40 => k_is)
    (case c40 => k_is)
    (case k40 => k_is)
    (case i40 => k_is)
    (case a41 => k_is)
    (case l41 => k_is)
    (case c41 => k_is)
    (case k41 => k_is)
    (case se => k_is)
    (case q0 => k_is)
    (case q1 => k_is)
    (case z0 => k_is)
    (case z1 => k_is)
    (case z2 => k_is)
    (case z3 => k_is)
    (case z4 => k_is)
    (case z5 => k_is)
    (case z6 => k_is)
    (case z7 => k_is)
    (case z8 => k_is)
    (case z9 => k_is)
    (case z10 => k_is)
    (case z11 => k_is)
    (case z12 => k_is)
    (case z13 => k_is)
    (case z14 => k_is)
    (case z15 => k_is)
    (case z16 => k_is)
    (case z17 => k_is)
    (case z18 => k_is)
    (case tt => exact PySem.W.km_tabs_of Y)
    (case ex => kernel_rfl)
    (case cb => kernel_rfl)
    (case tb => kernel_rfl)

