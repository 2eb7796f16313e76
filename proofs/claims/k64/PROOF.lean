import PyProof.Rows.All
import Wide.All
import OpenK.AllK
import Wide.FinOn
import HandS.ForMost
import KE.KDictKeyed
import KE.KDictWalk
import HandS.TupAny
import HandS.TupMul
import HandS.Style
import HandS.Deep
import HandS.SortInts
import HandS.TupLen
import KE.KDictPairs
import KE.KEqDict
import HandS.IsInst
import HandS.More
import KE.GoesMore
import KE.GoesEnum
import KE.GoesZip
import HandS.Walk
import HandS.Codes
import HandS.Defaults
import HandS.Ends
import HandS.Head0
import HandS.Head1
import HandS.Head2
import HandS.HeadEnd
import HandS.HeadHook1
import HandS.HeadHook2
import HandS.Words
import HandS.WordsExc
import PySem.Challenge.RW_lefthalfdone_k64_whole_what_stands_behin
set_option Elab.async false
set_option linter.all false
set_option maxHeartbeats 0
set_option maxRecDepth 100000
/-! Mp1: a reader of the program's text over plain data: values are PyData, a def's names are slots, a call goes through an oracle. -/
namespace Mp
open PySem

abbrev D := PyData
/-- a name's slot: unset; a value that is never written; a list or dict that this name alone holds; such a one while a loop walks it; one that the caller lent to be written -/
inductive Slot where
  | un | fz (d : D) | ow (d : D) | lk (d : D) | rf (d : D)
abbrev Env := List Slot
/-- what an expression gives: a value; a list or dict just made; what a slot holds -/
inductive Res where
  | val (d : D) | new (d : D) | plc (i : Nat)
abbrev EvF := Env → Option (Res × Env)
/-- what is walked: the items, the slots that are locked for it -/
abbrev ItF := Env → Option (List D × List Nat × Env)
inductive Flow where
  | nx | ct | bk | rt (fresh : Bool) (d : D)
abbrev StF := Env → Option (Flow × Env)
/-- a target: what is stored -/
abbrev TgF := Res → Env → Option Env

/-! ### slots -/
def get (env : Env) (i : Nat) : Slot := env.getD i .un
def cont (env : Env) (i : Nat) : Option D :=
  match get env i with
  | .un => none
  | .fz d => some d
  | .ow d => some d
  | .lk d => some d
  | .rf d => some d
def deref (env : Env) : Res → Option D
  | .val d => some d
  | .new d => some d
  | .plc i => cont env i
/-- the value is kept somewhere: the slot's list is never written again -/
def take (env : Env) : Res → Option (D × Env)
  | .val d => some (d, env)
  | .new d => some (d, env)
  | .plc i => match get env i with
    | .ow d => some (d, env.set i (.fz d))
    | .fz d => some (d, env)
    | _ => none
def takeAll : List Res → Env → Option (List D × Env)
  | [], env => some ([], env)
  | r :: rs, env => (take env r).bind fun p => (takeAll rs p.2).bind fun q => some (p.1 :: q.1, q.2)
/-- .. but what was just made stays so -/
def takeP : List Res → Env → Option (List Res × Env)
  | [], env => some ([], env)
  | .new d :: rs, env => (takeP rs env).bind fun q => some (.new d :: q.1, q.2)
  | r :: rs, env => (take env r).bind fun p => (takeP rs p.2).bind fun q => some (.val p.1 :: q.1, q.2)

/-! ### what holds no list and no dict -/
mutual
def pureD : D → Bool
  | .none => true
  | .bool _ => true
  | .int _ => true
  | .str _ => true
  | .list _ => false
  | .tuple xs => pureL xs
  | .dict _ => false
def pureL : List D → Bool
  | [] => true
  | x :: xs => pureD x && pureL xs
end
def purePs (kvs : List (D × D)) : Bool := kvs.all fun p => pureD p.1 && pureD p.2
/-- .. but the value itself -/
def flatD : D → Bool
  | .list xs => pureL xs
  | .dict kvs => purePs kvs
  | d => pureD d

/-! ### operations on values -/
def okN (n : Nat) : Bool := decide (n ≤ 16777216)
def mulOk (i j : Int) : Bool := (decide (-(2 ^ 64) < i) && decide (i < 2 ^ 64)) || (decide (-(2 ^ 64) < j) && decide (j < 2 ^ 64))
def binD : Operator → D → D → Option Res
  | .Add, .int i, .int j => some (.val (.int (i + j)))
  | .Sub, .int i, .int j => some (.val (.int (i - j)))
  | .Mult, .int i, .int j => if mulOk i j then some (.val (.int (i * j))) else none
  | .Mod, .int i, .int j => if decide (0 < j) then some (.val (.int (i % j))) else none
  | .FloorDiv, .int i, .int j => if decide (0 < j) && decide (j < 1073741824) then some (.val (.int (i / j))) else none
  | .Pow, .int i, .int j => if decide (0 ≤ j) && decide (j ≤ 1000) && decide (i.natAbs < 2 ^ 64) then some (.val (.int (i ^ j.toNat))) else none
  | .Add, .list xs, .list ys => if okN (xs.length + ys.length) then some (.new (.list (xs ++ ys))) else none
  | .Add, .tuple xs, .tuple ys => if okN (xs.length + ys.length) then some (.val (.tuple (xs ++ ys))) else none
  | .Mult, .tuple xs, .int j => if decide (2 ≤ j) && decide (j ≤ 1000) && decide (0 < xs.length) && decide (xs.length ≤ 1000) then some (.val (.tuple (List.replicate j.toNat xs).flatten)) else none
  | _, _, _ => none
def negD : D → Option D
  | .int i => some (.int (-i))
  | _ => none
/-- how deep, but for dicts -/
def shaped (d : D) : Bool := SeqAt.shaped d
def lenD : D → Option Nat
  | .list xs => some xs.length
  | .tuple xs => some xs.length
  | .dict kvs => some kvs.length
  | _ => none
def eqD (a b : D) : Option Bool := if shaped a && shaped b then some (PyData.eqv a b) else none
def inD (a : D) : D → Option Bool
  | .list ds => if shaped a && shaped (.list ds) then some (ds.any fun z => PyData.eqv z a) else none
  | .tuple ds => if shaped a && shaped (.tuple ds) then some (ds.any fun z => PyData.eqv z a) else none
  | _ => none
def isNoneD : D → Bool
  | .none => true
  | _ => false
end Mp

/-! Mp2: dicts and built-ins on plain data; the reader. -/
namespace Mp
open PySem

/-! ### dicts -/
def scalK : D → Bool
  | .int _ => true
  | .str _ => true
  | _ => false
mutual
def nestK : D → Bool
  | .none => true
  | .bool _ => true
  | .int _ => true
  | .str _ => true
  | .list _ => false
  | .tuple xs => nestKs xs
  | .dict _ => false
def nestKs : List D → Bool
  | [] => true
  | x :: xs => nestK x && nestKs xs
end
def tupK : D → Bool
  | .tuple xs => nestKs xs && decide (PyData.depth (.tuple xs) ≤ 8)
  | _ => false
def kvOk (kvs : List (D × D)) (k : D) : Bool := (scalK k && kvs.all fun p => scalK p.1) || (tupK k && kvs.all fun p => tupK p.1)
def dGet (kvs : List (D × D)) (k : D) : Option D := (kvs.find? fun p => PyData.eqv p.1 k).map (·.2)
def dHas (kvs : List (D × D)) (k : D) : Bool := kvs.any fun p => PyData.eqv p.1 k
def dPut (kvs : List (D × D)) (k v : D) : List (D × D) :=
  if dHas kvs k then kvs.map fun p => if PyData.eqv p.1 k then (p.1, v) else p else kvs ++ [(k, v)]
def dDrop (kvs : List (D × D)) (k : D) : List (D × D) := kvs.filter fun p => !PyData.eqv p.1 k
def dMerge (kvs more : List (D × D)) : List (D × D) := more.foldl (fun acc p => dPut acc p.1 p.2) kvs
/-- pairs as a dict's entries -/
def pairsD : List D → Option (List (D × D))
  | [] => some []
  | .tuple [k, v] :: r => (pairsD r).map ((k, v) :: ·)
  | _ :: _ => none
def keysOk (kvs : List (D × D)) : Bool := (kvs.all fun p => scalK p.1) || (kvs.all fun p => tupK p.1)

/-! ### ints of a list -/
def intsD : List D → Option (List Int)
  | [] => some []
  | .int i :: r => (intsD r).map (i :: ·)
  | _ :: _ => none
def boolsD : List D → Option (List Bool)
  | [] => some []
  | .bool b :: r => (boolsD r).map (b :: ·)
  | _ :: _ => none
def insI (x : Int) : List Int → List Int
  | [] => [x]
  | y :: ys => if x ≤ y then x :: y :: ys else y :: insI x ys
def sortI : List Int → List Int
  | [] => []
  | x :: xs => insI x (sortI xs)
def minI : Int → List Int → Int
  | m, [] => m
  | m, x :: xs => minI (if x < m then x else m) xs
def maxI : Int → List Int → Int
  | m, [] => m
  | m, x :: xs => maxI (if x > m then x else m) xs

/-! ### built-ins -/
def bLen (d : D) : Option Res := (lenD d).map fun n => .val (.int n)
def bTuple : D → Option Res
  | .list xs => some (.val (.tuple xs))
  | .tuple xs => some (.val (.tuple xs))
  | _ => none
def bInt : D → Option Res
  | .int i => some (.val (.int i))
  | _ => none
def bAbs : D → Option Res
  | .int i => some (.val (.int (if i < 0 then -i else i)))
  | _ => none
def bList : D → Option Res
  | .list xs => some (.new (.list xs))
  | .tuple xs => some (.new (.list xs))
  | .dict kvs => if kvs.all fun p => scalK p.1 then some (.new (.list (kvs.map (·.1)))) else none
  | _ => none
def bDict : D → Option Res
  | .list xs => (pairsD xs).bind fun ps => if keysOk ps then some (.new (.dict (dMerge [] ps))) else none
  | _ => none
def bSorted : D → Option Res
  | .list xs => (intsD xs).map fun ns => .new (.list ((sortI ns).map .int))
  | .dict kvs => if decide (kvs.length < 64) then (intsD (kvs.map (·.1))).map fun ns => .new (.list ((sortI ns).map .int)) else none
  | _ => none
def bMin : D → Option Res
  | .list xs => (intsD xs).bind fun ns => (match ns with
      | [] => none
      | m :: r => some (.val (.int (minI m r))))
  | _ => none
def bMax : D → Option Res
  | .list xs => (intsD xs).bind fun ns => (match ns with
      | [] => none
      | m :: r => some (.val (.int (maxI m r))))
  | _ => none
def bAll : D → Option Res
  | .list xs => (boolsD xs).map fun bs => .val (.bool (bs.all id))
  | _ => none
def bAny : D → Option Res
  | .list xs => (boolsD xs).map fun bs => .val (.bool (bs.any id))
  | _ => none
def b1D (f : Str) (d : D) : Option Res :=
  if f = "len" then bLen d
  else if f = "tuple" then bTuple d
  else if f = "int" then bInt d
  else if f = "abs" then bAbs d
  else if f = "list" then bList d
  else if f = "dict" then bDict d
  else if f = "sorted" then bSorted d
  else if f = "min" then bMin d
  else if f = "max" then bMax d
  else if f = "all" then bAll d
  else if f = "any" then bAny d
  else none
def bMin2 : D → D → Option Res
  | .int i, .int j => some (.val (.int (if j < i then j else i)))
  | _, _ => none
def bMax2 : D → D → Option Res
  | .int i, .int j => some (.val (.int (if j > i then j else i)))
  | _, _ => none
def b2D (f : Str) (a b : D) : Option Res :=
  if f = "min" then bMin2 a b
  else if f = "max" then bMax2 a b
  else none
def isD : D → Bool
  | .dict _ => true
  | _ => false
def tyD : D → String
  | .none => "NoneType"
  | .bool _ => "bool"
  | .int _ => "int"
  | .str _ => "str"
  | .list _ => "list"
  | .tuple _ => "tuple"
  | .dict _ => "dict"
def isInst (d : D) (T : Str) : Option Bool :=
  if isD d then none
  else if T = "tuple" then some (decide (tyD d = "tuple"))
  else if T = "int" then some (decide (tyD d = "int") || decide (tyD d = "bool"))
  else if T = "bool" then some (decide (tyD d = "bool"))
  else if T = "str" then some (decide (tyD d = "str"))
  else if T = "list" then some (decide (tyD d = "list"))
  else none
def ixD (d i : D) : Option D :=
  match d, i with
  | .list xs, .int j => L2.atI xs j
  | .tuple xs, .int j => L2.atI xs j
  | .dict kvs, k => if kvOk kvs k then dGet kvs k else none
  | _, _ => none
def cutD (xs : List D) (lo hi : Option Int) : List D := (xs.drop (HT.sIx xs.length 0 lo)).take (HT.sIx xs.length xs.length hi - HT.sIx xs.length 0 lo)
def partD : D → Option (Option Int)
  | .none => some none
  | .int i => some (some i)
  | _ => none
def slD (d : D) (lo hi : Option Int) : Option Res :=
  match d with
  | .list xs => some (.new (.list (cutD xs lo hi)))
  | .tuple xs => some (.val (.tuple (cutD xs lo hi)))
  | _ => none
/-- == of two dicts -/
def dictEq (a b : List (D × D)) : Bool := a.length == b.length && a.all fun p => match dGet b p.1 with
  | some v => PyData.eqv p.2 v
  | none => false
def eqX (a b : D) : Option Bool := match a, b with
  | .dict x, .dict y => if (x.all fun p => tupK p.1) && (y.all fun p => tupK p.1) && (x.all fun p => shaped p.2) && (y.all fun p => shaped p.2) then some (dictEq x y) else none
  | _, _ => eqD a b
def truthD : D → Option Bool
  | .bool b => some b
  | _ => none
def cmpD : CmpOp → D → D → Option Bool
  | .Lt, .int i, .int j => some (decide (i < j))
  | .LtE, .int i, .int j => some (decide (i ≤ j))
  | .Gt, .int i, .int j => some (decide (j < i))
  | .GtE, .int i, .int j => some (decide (j ≤ i))
  | .Eq, a, b => eqX a b
  | .NotEq, a, b => (eqX a b).map (!·)
  | .Is, a, .none => some (isNoneD a)
  | .IsNot, a, .none => some (!isNoneD a)
  | .Is, a, .bool b => some (match a with | .bool c => c == b | _ => false)
  | .In, a, .dict kvs => if kvOk kvs a then some (dHas kvs a) else none
  | .NotIn, a, .dict kvs => if kvOk kvs a then some (!dHas kvs a) else none
  | .In, a, b => inD a b
  | .NotIn, a, b => (inD a b).map (!·)
  | _, _, _ => none
end Mp

/-! Mp3: the reader, construct by construct, and the text read. -/
namespace Mp
open PySem

/-! ### expressions -/
def eC (d : D) : EvF := fun env => some (.val d, env)
def eVar (i : Nat) : EvF := fun env => match get env i with
  | .un => none
  | .fz d => some (.val d, env)
  | .ow _ => some (.plc i, env)
  | .lk _ => some (.plc i, env)
  | .rf _ => some (.plc i, env)
/-- the parts, from the left -/
def eAll : List EvF → Env → Option (List Res × Env)
  | [], env => some ([], env)
  | f :: fs, env => (f env).bind fun p => (eAll fs p.2).bind fun q => some (p.1 :: q.1, q.2)
def eTup (fs : List EvF) : EvF := fun env => (eAll fs env).bind fun p => (takeAll p.1 p.2).bind fun q => if okN q.1.length then some (.val (.tuple q.1), q.2) else none
def eLst (fs : List EvF) : EvF := fun env => (eAll fs env).bind fun p => (takeAll p.1 p.2).bind fun q => if okN q.1.length then some (.new (.list q.1), q.2) else none
def eUse (f : EvF) : Env → Option (D × Env) := fun env => (f env).bind fun p => (deref p.2 p.1).map fun d => (d, p.2)
/-- two values and what comes of them; one -/
def eOp (k : D → D → Option Res) (f g : EvF) : EvF := fun env => (f env).bind fun p => (g p.2).bind fun q => (deref q.2 p.1).bind fun a => (deref q.2 q.1).bind fun b => (k a b).map fun r => (r, q.2)
def eUn (k : D → Option Res) (f : EvF) : EvF := fun env => (f env).bind fun p => (deref p.2 p.1).bind fun a => (k a).map fun r => (r, p.2)
def bRes (o : Option Bool) : Option Res := o.map fun c => .val (.bool c)
def vRes (o : Option D) : Option Res := o.map .val
def eBin (op : Operator) : EvF → EvF → EvF := eOp (binD op)
def eNeg : EvF → EvF := eUn fun a => vRes (negD a)
/-- a test -/
def tst (f : EvF) : Env → Option (Bool × Env) := fun env => (eUse f env).bind fun p => (truthD p.1).map fun b => (b, p.2)
def eNot (f : EvF) : EvF := fun env => (tst f env).map fun p => (.val (.bool (!p.1)), p.2)
def eAnd (f g : EvF) : EvF := fun env => (tst f env).bind fun p => if p.1 then g p.2 else some (.val (.bool false), p.2)
def eOr (f g : EvF) : EvF := fun env => (tst f env).bind fun p => if p.1 then some (.val (.bool true), p.2) else g p.2
def eIf (t f g : EvF) : EvF := fun env => (tst t env).bind fun p => if p.1 then f p.2 else g p.2
def eCmp (op : CmpOp) : EvF → EvF → EvF := eOp fun a b => bRes (cmpD op a b)
def eCh (op1 op2 : CmpOp) (f g h : EvF) : EvF := fun env => (f env).bind fun p => (g p.2).bind fun q => (deref q.2 p.1).bind fun a => (deref q.2 q.1).bind fun b => (cmpD op1 a b).bind fun c =>
  if c then (h q.2).bind fun s => (deref s.2 q.1).bind fun b => (deref s.2 s.1).bind fun x => (bRes (cmpD op2 b x)).map fun r => (r, s.2) else some (.val (.bool false), q.2)
def eIx : EvF → EvF → EvF := eOp fun a b => vRes (ixD a b)
def ePart (o : Option EvF) : Env → Option (Option Int × Env) := fun env => match o with
  | none => some (none, env)
  | some f => (eUse f env).bind fun p => (match p.1 with
    | .int i => some (some i, p.2)
    | _ => none)
def eSl (f : EvF) (lo hi : Option EvF) : EvF := fun env => (f env).bind fun p => (ePart lo p.2).bind fun l => (ePart hi l.2).bind fun h => (deref h.2 p.1).bind fun a => (slD a l.1 h.1).map fun r => (r, h.2)
def eB1 (f : Str) : EvF → EvF := eUn (b1D f)
def eB2 (f : Str) : EvF → EvF → EvF := eOp (b2D f)
def eInst (f : EvF) (T : Str) : EvF := eUn (fun a => bRes (isInst a T)) f
/-- {k: v} -/
def eDict : List (EvF × EvF) → EvF
  | [] => fun env => some (.new (.dict []), env)
  | [(f, g)] => fun env => (f env).bind fun p => (g p.2).bind fun q => (take q.2 p.1).bind fun a => (take a.2 q.1).bind fun b => if scalK a.1 then some (.new (.dict [(a.1, b.1)]), b.2) else none
  | _ => fun _ => none

/-! ### methods -/
/-- a list or dict that a slot holds is written -/
def put (env : Env) (i : Nat) (d : D) : Option Env := match get env i with
  | .ow _ => some (env.set i (.ow d))
  | .rf _ => some (env.set i (.rf d))
  | _ => none
def lstAt (env : Env) (r : Res) : Bool := match deref env r with
  | some (.list _) => true
  | _ => false
def dicAt (env : Env) (r : Res) : Bool := match deref env r with
  | some (.dict _) => true
  | _ => false
def guard1 (b : Bool) : Option Unit := if b then some () else none
def eAppend (f g : EvF) : EvF := fun env => (f env).bind fun p => (guard1 (lstAt p.2 p.1)).bind fun _ => (g p.2).bind fun q => (take q.2 q.1).bind fun a => (match p.1 with
  | .plc i => (match cont a.2 i with
    | some (.list xs) => if decide (xs.length < 16777216) then (put a.2 i (.list (xs ++ [a.1]))).map fun e => (.val .none, e) else none
    | _ => none)
  | _ => none)
def eExtend (f g : EvF) : EvF := fun env => (f env).bind fun p => (guard1 (lstAt p.2 p.1)).bind fun _ => (g p.2).bind fun q => (deref q.2 q.1).bind fun a => (match p.1, a with
  | .plc i, .list ys => (match cont q.2 i with
    | some (.list xs) => if okN (xs.length + ys.length) then (put q.2 i (.list (xs ++ ys))).map fun e => (.val .none, e) else none
    | _ => none)
  | _, _ => none)
def eUpdate (f g : EvF) : EvF := fun env => (f env).bind fun p => (guard1 (dicAt p.2 p.1)).bind fun _ => (g p.2).bind fun q => (deref q.2 q.1).bind fun a => (match p.1, a with
  | .plc i, .dict more => (match cont q.2 i with
    | some (.dict kvs) => if okN (kvs.length + more.length) && keysOk (kvs ++ more) then (put q.2 i (.dict (dMerge kvs more))).map fun e => (.val .none, e) else none
    | _ => none)
  | _, _ => none)
def eSetdef (f g h : EvF) : EvF := fun env => (f env).bind fun p => (guard1 (dicAt p.2 p.1)).bind fun _ => (g p.2).bind fun q => (h q.2).bind fun s => (take s.2 q.1).bind fun k => (take k.2 s.1).bind fun v => (match p.1 with
  | .plc i => (match cont v.2 i with
    | some (.dict kvs) => if tupK k.1 && (kvs.all fun p => tupK p.1) && decide (kvs.length < 16777216) then (match dGet kvs k.1 with
        | some x => some (.val x, v.2)
        | none => (put v.2 i (.dict (dPut kvs k.1 v.1))).map fun e => (.val v.1, e)) else none
    | _ => none)
  | _ => none)
def eGet2 (f g h : EvF) : EvF := fun env => (f env).bind fun p => (guard1 (dicAt p.2 p.1)).bind fun _ => (g p.2).bind fun q => (h q.2).bind fun s => (deref s.2 p.1).bind fun a => (deref s.2 q.1).bind fun k => (take s.2 s.1).bind fun v => (match a with
  | .dict kvs => if kvOk kvs k then some (.val ((dGet kvs k).getD v.1), v.2) else none
  | _ => none)
/-- xs.pop(i), d.pop(k) -/
def ePop (f g : EvF) : EvF := fun env => (f env).bind fun p => (guard1 (lstAt p.2 p.1 || dicAt p.2 p.1)).bind fun _ => (g p.2).bind fun q => (deref q.2 q.1).bind fun a => (match p.1 with
  | .plc i => (match cont q.2 i with
    | some (.list xs) => (match a with
      | .int j => if decide (-(2 ^ 63) ≤ j) && decide (j < 2 ^ 63) then (seqIndex? j xs.length).bind fun k => (xs[k]?).bind fun x => (put q.2 i (.list (xs.eraseIdx k))).map fun e => (.val x, e) else none
      | _ => none)
    | some (.dict kvs) => if tupK a && (kvs.all fun p => tupK p.1) then (dGet kvs a).bind fun x => (put q.2 i (.dict (dDrop kvs a))).map fun e => (.val x, e) else none
    | _ => none)
  | _ => none)

/-! ### targets -/
def gNm (i : Nat) : TgF := fun r env => match r with
  | .val d => some (env.set i (.fz d))
  | .new d => some (env.set i (.ow d))
  | .plc j => (take env (.plc j)).map fun p => p.2.set i (.fz p.1)
def gAll : List TgF → List Res → Env → Option Env
  | [], [], env => some env
  | g :: gs, r :: rs, env => (g r env).bind fun e => gAll gs rs e
  | _, _, _ => none
def gTp (gs : List TgF) : TgF := fun r env => match r with
  | .val (.tuple ds) => gAll gs (ds.map .val) env
  | _ => none
def gSb (f g : EvF) : TgF := fun r env => (take env r).bind fun a => (f a.2).bind fun p => (g p.2).bind fun q => (match p.1 with
  | .plc i => (match cont q.2 i with
    | some (.list xs) => (deref q.2 q.1).bind fun k => (match k with
      | .int j => (L2.ixN xs.length j).bind fun m => put q.2 i (.list (xs.set m a.1))
      | _ => none)
    | some (.dict kvs) => (take q.2 q.1).bind fun k => if kvOk kvs k.1 && decide (kvs.length < 16777216) then put k.2 i (.dict (dPut kvs k.1 a.1)) else none
    | _ => none)
  | _ => none)

/-! ### what is walked -/
def rangeD (lo : Int) (n : Nat) : List D := (List.range n).map fun (i : Nat) => .int (lo + i)
def itRange1 (f : EvF) : ItF := fun env => (eUse f env).bind fun p => (match p.1 with
  | .int j => if decide (-(2 ^ 62) ≤ j) && decide (j < 2 ^ 62) then some (rangeD 0 j.toNat, [], p.2) else none
  | _ => none)
def itRange2 (f g : EvF) : ItF := fun env => (f env).bind fun p => (g p.2).bind fun q => (deref q.2 p.1).bind fun a => (deref q.2 q.1).bind fun b => (match a, b with
  | .int i, .int j => if decide (-(2 ^ 62) ≤ i) && decide (i < 2 ^ 62) && decide (-(2 ^ 62) ≤ j) && decide (j < 2 ^ 62) then some (rangeD i (j - i).toNat, [], q.2) else none
  | _, _ => none)
/-- a slot's list or dict is locked for a walk -/
def lock (env : Env) : Res → Option (D × List Nat × Env)
  | .val d => some (d, [], env)
  | .new d => some (d, [], env)
  | .plc i => (match get env i with
    | .ow d => some (d, [i], env.set i (.lk d))
    | .lk d => some (d, [], env)
    | .fz d => some (d, [], env)
    | _ => none)
def unlk : List Nat → Env → Env
  | [], env => env
  | i :: is, env => unlk is (match get env i with
    | .lk d => env.set i (.ow d)
    | _ => env)
/-- a list, a tuple, a dict's keys -/
def seqD : D → Option (List D)
  | .list xs => some xs
  | .tuple xs => some xs
  | .dict kvs => some (kvs.map (·.1))
  | _ => none
def itSeq (f : EvF) : ItF := fun env => (f env).bind fun p => (lock p.2 p.1).bind fun a => (seqD a.1).map fun xs => (xs, a.2)
def enumGo : Nat → List D → List D
  | _, [] => []
  | i, x :: xs => .tuple [.int (i : Nat), x] :: enumGo (i + 1) xs
def lstD : D → Option (List D)
  | .list xs => some xs
  | .tuple xs => some xs
  | _ => none
def itEnum (f : EvF) : ItF := fun env => (f env).bind fun p => (lock p.2 p.1).bind fun a => (lstD a.1).map fun xs => (enumGo 0 xs, a.2)
def zipD : List D → List D → List D
  | x :: xs, y :: ys => .tuple [x, y] :: zipD xs ys
  | _, _ => []
def itZip (f g : EvF) : ItF := fun env => (f env).bind fun p => (g p.2).bind fun q => (lock q.2 p.1).bind fun a => (lock a.2.2 q.1).bind fun b => (lstD a.1).bind fun xs => (lstD b.1).map fun ys => (zipD xs ys, a.2.1 ++ b.2.1, b.2.2)
def itEnumZip (f g : EvF) : ItF := fun env => (itZip f g env).map fun p => (enumGo 0 p.1, p.2)
def itItems (f : EvF) : ItF := fun env => (f env).bind fun p => (lock p.2 p.1).bind fun a => (match a.1 with
  | .dict kvs => some (kvs.map fun kv => .tuple [kv.1, kv.2], a.2)
  | _ => none)

/-! ### comprehensions -/
def wipeE (env : Env) : List Nat → Env
  | [] => env
  | v :: vs => (wipeE env vs).set v .un
/-- behind a turn the names of the block are what they were outside -/
def back (env : Env) (own : List Nat) (e : Env) : Env := own.foldl (fun e i => e.set i (get env i)) e
def free (env : Env) (i : Nat) : Bool := match get env i with
  | .un => true
  | .fz _ => true
  | _ => false
def tsts : List EvF → Env → Option (Bool × Env)
  | [], env => some (true, env)
  | f :: fs, env => (tst f env).bind fun p => if p.1 then tsts fs p.2 else some (false, p.2)
def lcGo (own : List Nat) (tg : TgF) (ifs : List EvF) (elt : EvF) : List D → Env → Option (List D × Env)
  | [], env => some ([], env)
  | x :: xs, env => (tg (.val x) (wipeE env own)).bind fun e1 => (tsts ifs e1).bind fun b =>
      if b.1 then (elt b.2).bind fun r => (take r.2 r.1).bind fun d => (lcGo own tg ifs elt xs (back env own d.2)).bind fun q => some (d.1 :: q.1, q.2)
      else lcGo own tg ifs elt xs (back env own b.2)
def eLc (own : List Nat) (tg : TgF) (it : ItF) (ifs : List EvF) (elt : EvF) : EvF := fun env => (it env).bind fun p =>
  if okN p.1.length && own.all (free p.2.2) then (lcGo own tg ifs elt p.1 p.2.2).map fun q => (.new (.list q.1), unlk p.2.1 q.2) else none
def dcGo (own : List Nat) (tg : TgF) (ifs : List EvF) (k v : EvF) : List D → List (D × D) → Env → Option (List (D × D) × Env)
  | [], acc, env => some (acc, env)
  | x :: xs, acc, env => (tg (.val x) (wipeE env own)).bind fun e1 => (tsts ifs e1).bind fun b =>
      if b.1 then (k b.2).bind fun r => (v r.2).bind fun s => (take s.2 r.1).bind fun a => (take a.2 s.1).bind fun c =>
        if kvOk acc a.1 then dcGo own tg ifs k v xs (dPut acc a.1 c.1) (back env own c.2) else none
      else dcGo own tg ifs k v xs acc (back env own b.2)
def eDc (own : List Nat) (tg : TgF) (it : ItF) (ifs : List EvF) (k v : EvF) : EvF := fun env => (it env).bind fun p =>
  if okN p.1.length && own.all (free p.2.2) then (dcGo own tg ifs k v p.1 [] p.2.2).map fun q => (.new (.dict q.1), unlk p.2.1 q.2) else none

/-! ### calls -/
/-- a call's answer: whether it is a list or dict that nobody else holds; the value; what the lent ones hold behind it -/
abbrev Call := Str → List D → Option (Bool × D × List D)
/-- what is handed over: a lent argument is a slot that holds a list or dict -/
def argsOf (env : Env) : List Res → List Bool → Option (List D)
  | [], [] => some []
  | r :: rs, b :: bs => (if b then (match r with
      | .plc i => (match get env i with
        | .ow d => some d
        | .rf d => some d
        | _ => none)
      | _ => none) else deref env r).bind fun d => (argsOf env rs bs).map (d :: ·)
  | _, _ => none
def lentOf : List Res → List Bool → List Nat
  | .plc i :: rs, true :: bs => i :: lentOf rs bs
  | _ :: rs, _ :: bs => lentOf rs bs
  | _, _ => []
def keptOf : List Res → List Bool → List Nat
  | .plc i :: rs, false :: bs => i :: keptOf rs bs
  | _ :: rs, _ :: bs => keptOf rs bs
  | _, _ => []
def puts : List Nat → List D → Env → Option Env
  | [], [], env => some env
  | i :: is, d :: ds, env => (put env i d).bind fun e => puts is ds e
  | _, _, _ => none
def freezes : List Nat → Env → Option Env
  | [], env => some env
  | i :: is, env => (take env (.plc i)).bind fun p => freezes is p.2
def flatR (b : Bool) (d : D) (outs : List D) : Bool := (if b then flatD d else pureD d) && outs.all flatD
def eCall (call : Call) (f : Str) (lent : List Bool) (fs : List EvF) : EvF := fun env => (eAll fs env).bind fun p =>
  (argsOf p.2 p.1 lent).bind fun ds =>
    if (lentOf p.1 lent).all (fun i => !(keptOf p.1 lent).contains i) && decide ((lentOf p.1 lent).Nodup) then
      (call f ds).bind fun a =>
        (if flatR a.1 a.2.1 a.2.2 then some p.2 else freezes (keptOf p.1 lent) p.2).bind fun e =>
          (puts (lentOf p.1 lent) a.2.2 e).map fun e => (if a.1 then .new a.2.1 else .val a.2.1, e)
    else none

/-! ### statements -/
def sAsg (tg : TgF) (f : EvF) : StF := fun env => (f env).bind fun p => (tg p.1 p.2).map fun e => (.nx, e)
def sPar (tgs : List TgF) (fs : List EvF) : StF := fun env => (eAll fs env).bind fun p => (takeP p.1 p.2).bind fun q => (gAll tgs q.1 q.2).map fun e => (.nx, e)
def augF : Operator → Option (Int → Int → Int)
  | .Add => some fun x y => x + y
  | .Sub => some fun x y => x - y
  | _ => none
def intOf : D → Option Int
  | .int x => some x
  | _ => none
def intAt : Slot → Option Int
  | .fz d => intOf d
  | _ => none
def sAug (i : Nat) (op : Operator) (f : EvF) : StF := fun env => (augF op).bind fun F => (intAt (get env i)).bind fun x => (eUse f env).bind fun p => (intOf p.1).map fun y => (.nx, p.2.set i (.fz (.int (F x y))))
def sExpr (f : EvF) : StF := fun env => (f env).bind fun p => some (.nx, p.2)
def sRet (f : EvF) : StF := fun env => (f env).bind fun p => (match p.1 with
  | .val d => some (.rt false d, p.2)
  | .new d => some (.rt true d, p.2)
  | .plc i => (match get p.2 i with
    | .ow d => some (.rt true d, p.2.set i .un)
    | .lk d => some (.rt true d, p.2.set i .un)
    | .fz d => some (.rt false d, p.2)
    | _ => none))
def sIf (t : EvF) (a b : StF) : StF := fun env => (tst t env).bind fun p => if p.1 then a p.2 else b p.2
def sSeq (a b : StF) : StF := fun env => (a env).bind fun p => (match p.1 with
  | .nx => b p.2
  | f => some (f, p.2))
def sNil : StF := fun env => some (.nx, env)
def sCont : StF := fun env => some (.ct, env)
def sBreak : StF := fun env => some (.bk, env)
def forGo (tg : TgF) (body : StF) : List D → StF
  | [], env => some (.nx, env)
  | x :: xs, env => (tg (.val x) env).bind fun e => (body e).bind fun p => (match p.1 with
    | .nx => forGo tg body xs p.2
    | .ct => forGo tg body xs p.2
    | .bk => some (.nx, p.2)
    | .rt b d => some (.rt b d, p.2))
def sFor (tg : TgF) (it : ItF) (body : StF) : StF := fun env => (it env).bind fun p => (forGo tg body p.1 p.2.2).map fun q => (q.1, unlk p.2.1 q.2)
def whGo (t : EvF) (body : StF) : Nat → StF
  | 0, _ => none
  | n + 1, env => (tst t env).bind fun b => if b.1 then (body b.2).bind fun p => (match p.1 with
      | .nx => whGo t body n p.2
      | .ct => whGo t body n p.2
      | .bk => some (.nx, p.2)
      | .rt b d => some (.rt b d, p.2)) else some (.nx, b.2)
def sWhile (F : Nat) (t : EvF) (body : StF) : StF := whGo t body F
end Mp

/-! Mp4: the text read. -/
namespace Mp
open PySem

structure Ctx where
  N : List Str
  sc : Scope
  asg : Str → Bool
  glob : Str → Option D
  fns : Str → Option (List Str × List Bool)
  blt : Str → Bool
  kw : Str → Nat → Bool
  call : Call
  F : Nat

def fail : EvF := fun _ => none
def failS : StF := fun _ => none
def isLoc (sc : Scope) (x : Str) : Bool := match sc.names.lookup x with
  | some .local => true
  | some .cell => true
  | _ => false
def isVis (sc : Scope) (x : Str) : Bool := match sc.names.lookup x with
  | some .local => true
  | some .cell => true
  | some .free => true
  | _ => false
def isGlob (sc : Scope) (x : Str) : Bool := match sc.names.lookup x with
  | some .globalImplicit => true
  | _ => false
/-- where a name stands -/
def slotOf : List Str → Str → Option Nat
  | [], _ => none
  | y :: ys, x => if y = x then some 0 else (slotOf ys x).map (· + 1)
def dbg (x : Str) : Bool := (x == ("__debug__" : Str)) || (x == ("__classdict__" : Str))
def nameE (C : Ctx) (x : Str) : EvF :=
  if dbg x then fail else if isVis C.sc x then (match slotOf C.N x with | some i => eVar i | none => fail)
  else if isGlob C.sc x then (match C.glob x with | some d => eC d | none => fail)
  else fail
/-- a built-in name that the module has not bound -/
def isB (C : Ctx) (x : Str) : Bool := isGlob C.sc x && C.blt x
/-- the names of a block with their places -/
def ownOf (N : List Str) (scope : Scope) : List (Str × Nat) := scope.names.filterMap fun y => match y.2 with
  | .local => (slotOf N y.1).map fun i => (y.1, i)
  | .cell => (slotOf N y.1).map fun i => (y.1, i)
  | _ => none
def Ctx.blk (C : Ctx) (scope : Scope) : Ctx := { C with sc := L2.relS scope C.sc, asg := isLoc scope }
def allKw : List Keyword → Option (List (Str × Expr))
  | [] => some []
  | ⟨some x, e, _⟩ :: r => (allKw r).map ((x, e) :: ·)
  | ⟨none, _, _⟩ :: _ => none
def isTup : Expr → Bool
  | .Tuple _ _ _ => true
  | _ => false
def starE : Expr → Bool
  | .Starred .. => true
  | _ => false
def isSlice : Expr → Bool
  | .Slice .. => true
  | _ => false
def isSetE : Expr → Bool
  | .Set .. => true
  | _ => false
def isCall1 : Expr → Bool
  | .Call .. => true
  | _ => false
def isName : Expr → Option Str
  | .Name x _ => some x
  | _ => none
/-- names stored at once are local ones, no two alike; the parts are no constants that the compiler would fold -/
def parOk (C : Ctx) (ts es : List Expr) : Bool :=
  decide (ts.length ≤ 16) && (ts.all fun e => !starE e) && (es.all (foldedForSure 8) || !es.all (constantsAlone 8))
def const? : Const → Option D
  | .none => some .none
  | .bool b => some (.bool b)
  | .int i => some (.int i)
  | .str x => some (.str x)
  | _ => none

mutual
def evE : Nat → Ctx → Expr → EvF
  | 0, _, _ => fail
  | n + 1, C, e => match e with
    | .Constant c _ _ => (match const? c with | some d => eC d | none => fail)
    | .Name x _ => nameE C x
    | .Tuple es _ _ => eTup (evEs n C es)
    | .List es _ => eLst (evEs n C es)
    | .Dict ks vs _ => (match ks, vs with
      | [], [] => eDict []
      | [some k], [v] => eDict [(evE n C k, evE n C v)]
      | _, _ => fail)
    | .BinOp a op b _ => eBin op (evE n C a) (evE n C b)
    | .UnaryOp op a _ => (match op with
      | .Not => eNot (evE n C a)
      | .USub => eNeg (evE n C a)
      | _ => fail)
    | .BoolOp op es _ => (match es with
      | [] => fail
      | [a] => evE n C a
      | a :: b :: r => (match op with
        | .And => eAnd (evE n C a) (evE n C (.BoolOp .And (b :: r) ⟨0, 0, 0, 0⟩))
        | .Or => eOr (evE n C a) (evE n C (.BoolOp .Or (b :: r) ⟨0, 0, 0, 0⟩))))
    | .IfExp t a b _ => eIf (evE n C t) (evE n C a) (evE n C b)
    | .Compare a ops bs _ => (match ops, bs with
      | [op], [b] => if behindInMarks op b then fail else eCmp op (evE n C a) (evE n C b)
      | [op1, op2], [b, c] => if lastMarks [op1, op2] [b, c] then fail else eCh op1 op2 (evE n C a) (evE n C b) (evE n C c)
      | _, _ => fail)
    | .Subscript a i _ => (match i with
      | .Slice lo hi st _ => (match st with
        | none => eSl (evE n C a) (lo.map (evE n C)) (hi.map (evE n C))
        | some _ => fail)
      | _ => if isSlice i then fail else eIx (evE n C a) (evE n C i))
    | .ListComp elt gs scope _ => (match gs with
      | [⟨tg, it, ifs, 0⟩] => if L2.blkC C.N C.sc scope (ownOf C.N scope) && decide (ifs.length ≤ 1) && !isSetE it then
          eLc ((ownOf C.N scope).map (·.2)) (tgE n (C.blk scope) tg) (itE n C tg it) (evEs n (C.blk scope) ifs) (evE n (C.blk scope) elt) else fail
      | _ => fail)
    | .Call f args kws pos => (match f with
      | .Name x _ => if isGlob C.sc x && !dbg x then (match C.fns x with
          | some (ps, lent) => (match kws with
            | [] => if decide (args.length = ps.length) then eCall C.call x lent (evEs n C args) else fail
            | k :: ks => (match allKw (k :: ks) with
              | some es => if C.kw x args.length && decide (es.map (·.1) = ps.drop args.length) && decide (0 < args.length) then eCall C.call x lent (evEs n C args ++ evEs n C (es.map (·.2))) else fail
              | none => fail))
          | none => if C.blt x then (match kws with
            | [] => (match args with
              | [a] => eB1 x (evE n C a)
              | [a, b] => if x = "isinstance" then (match b with
                  | .Name T _ => if isB C T then eInst (evE n C a) T else fail
                  | _ => fail) else eB2 x (evE n C a) (evE n C b)
              | _ => fail)
            | _ => fail) else fail) else fail
      | .Attribute o m apos => (match o with
        | .Name x p => if apos.endLine == pos.line then (match kws with
          | [] => (match args with
            | [a] => if m = "append" then eAppend (evE n C (.Name x p)) (evE n C a) else fail
            | [a, b] => if m = "setdefault" then eSetdef (evE n C (.Name x p)) (evE n C a) (evE n C b) else fail
            | _ => fail)
          | _ => fail) else fail
        | _ => fail)
      | _ => fail)
    | _ => fail
def evEs : Nat → Ctx → List Expr → List EvF
  | 0, _, es => es.map fun _ => fail
  | n + 1, C, es => match es with
    | [] => []
    | e :: r => evE n C e :: evEs n C r
def tgE : Nat → Ctx → Expr → TgF
  | 0, _, _ => fun _ _ => none
  | n + 1, C, e => match e with
    | .Name x _ => if C.asg x then (match slotOf C.N x with | some i => gNm i | none => fun _ _ => none) else fun _ _ => none
    | .Tuple ts _ _ => if ts.all fun e => !starE e then gTp (tgEs n C ts) else fun _ _ => none
    | .Subscript o i _ => if isSlice i then fun _ _ => none else gSb (evE n C o) (evE n C i)
    | _ => fun _ _ => none
def tgEs : Nat → Ctx → List Expr → List TgF
  | 0, _, ts => ts.map fun _ => fun _ _ => none
  | n + 1, C, ts => match ts with
    | [] => []
    | t :: r => tgE n C t :: tgEs n C r
def itE : Nat → Ctx → Expr → Expr → ItF
  | 0, _, _, _ => fun _ => none
  | n + 1, C, tg, e => match e with
    | .Call f args kws _ => (match f with
      | .Name x _ => if isB C x then (match kws with
          | [] => (if x = "range" then (match args with
              | [a] => itRange1 (evE n C a)
              | [a, b] => itRange2 (evE n C a) (evE n C b)
              | _ => fun _ => none)
            else if x = "enumerate" then (match tg with
              | .Tuple _ _ _ => (match args with
                | [a] => itEnum (evE n C a)
                | _ => fun _ => none)
              | _ => fun _ => none)
            else if x = "zip" then (match tg with
              | .Tuple _ _ _ => (match args with
                | [u, v] => itZip (evE n C u) (evE n C v)
                | _ => fun _ => none)
              | _ => fun _ => none)
            else itSeq (evE n C e))
          | _ => itSeq (evE n C e)) else itSeq (evE n C e)
      | _ => itSeq (evE n C e))
    | _ => itSeq (evE n C e)
end

mutual
def evS : Nat → Ctx → Stmt → StF
  | 0, _, _ => failS
  | n + 1, C, s => match s with
    | .Return o _ => (match o with
      | some e => sRet (evE n C e)
      | none => sRet (eC .none))
    | .Assign ts e _ => (match ts with
      | [t] => (match t, e with
        | .Tuple xs _ _, .Tuple es _ _ => if parOk C xs es then sPar (tgEs n C xs) (evEs n C es) else failS
        | .List _ _, _ => failS
        | _, .SetComp _ _ _ _ => failS
        | _, .DictComp _ _ _ _ _ => failS
        | _, _ => sAsg (tgE n C t) (evE n C e))
      | _ => failS)
    | .AugAssign t op e _ => (match t with
      | .Name x _ => if C.asg x then (match slotOf C.N x with | some i => sAug i op (evE n C e) | none => failS) else failS
      | _ => failS)
    | .If t a b _ => sIf (evE n C t) (evSs n C a) (evSs n C b)
    | .For tg it body els _ => (match els with
      | [] => if isSetE it then failS else sFor (tgE n C tg) (itE n C tg it) (evSs n C body)
      | _ => failS)
    | .While t body els _ => (match els with
      | [] => sWhile C.F (evE n C t) (evSs n C body)
      | _ => failS)
    | .Expr e _ => if isCall1 e then sExpr (evE n C e) else failS
    | .Pass _ => sNil
    | .Continue _ => sCont
    | .Break _ => sBreak
    | _ => failS
def evSs : Nat → Ctx → List Stmt → StF
  | 0, _, _ => failS
  | n + 1, C, ss => match ss with
    | [] => sNil
    | [s] => evS n C s
    | s :: r => sSeq (evS n C s) (evSs n C r)
end

/-! ### a def, a program -/
structure Fn where
  name : Str
  ps : List Str
  lent : List Bool
  N : List Str
  st : Stmt
structure Pg where
  fns : List Fn
  glob : List (Str × D)
  blt : List Str
  kws : List (Str × Nat)
  F : Nat
def Pg.fn? (P : Pg) (x : Str) : Option Fn := P.fns.find? fun f => decide (f.name = x)
def Pg.sig (P : Pg) (x : Str) : Option (List Str × List Bool) := (P.fn? x).map fun f => (f.ps, f.lent)
def Pg.ctx (P : Pg) (call : Call) (f : Fn) : Ctx := { N := f.N, sc := L2.defScope f.st, asg := isLoc (L2.defScope f.st), glob := fun x => P.glob.lookup x, fns := P.sig, blt := fun x => P.blt.contains x, kw := fun x n => P.kws.contains (x, n), call := call, F := P.F }
def start (lent : List Bool) (args : List D) : Env := lent.zipWith (fun b d => if b then .rf d else .fz d) args
def outs : Env → List Bool → Option (List D)
  | _, [] => some []
  | .rf d :: env, true :: bs => (outs env bs).map (d :: ·)
  | _ :: env, false :: bs => outs env bs
  | _, _ => none
def runB (body : StF) (f : Fn) (args : List D) : Option (Bool × D × List D) :=
  if args.length = f.ps.length then (body (start f.lent args ++ List.replicate (f.N.length - args.length) .un)).bind fun p =>
    (outs p.2 f.lent).bind fun o => (match p.1 with
      | .nx => some (false, .none, o)
      | .rt b d => some (b, d, o)
      | _ => none) else none
def depth : Nat := 40
def callF (P : Pg) : Nat → Call
  | 0, _, _ => none
  | k + 1, x, args => (P.fn? x).bind fun f => runB (evSs depth (P.ctx (callF P k) f) (L2.defBody f.st)) f args
end Mp

/-! Mp5: a program's defs by its text. -/
namespace Mp
open PySem
def locsOf (sc : Scope) : List Str := sc.names.filterMap fun y => match y.2 with
  | .local => some y.1
  | .cell => some y.1
  | _ => none
def fastOf (sc : Scope) : List Str := sc.more.filterMap fun y => match y.2 with
  | .str x => some x
  | _ => none
def addN (acc : List Str) : List Str → List Str
  | [] => acc
  | x :: xs => if acc.contains x then addN acc xs else addN (acc ++ [x]) xs
def mkFn (s : Stmt) : Option Fn := match s with
  | .FunctionDef name args body _ _ _ sc _ _ _ =>
    some { name := name, ps := args.args.map (·.arg), lent := args.args.map fun a => decide (a.arg = ("box" : Str)), N := addN (addN (args.args.map (·.arg)) (locsOf sc)) (fastOf sc), st := s }
  | _ => none
def mkGlob (s : Stmt) : Option (Str × D) := match s with
  | .Assign [.Name x _] (.Constant c _ _) _ => if x = ("__name__" : Str) then none else (const? c).map fun d => (x, d)
  | _ => none
def bltNames : List Str := ["len", "tuple", "int", "abs", "list", "dict", "sorted", "min", "max", "all", "any", "isinstance", "bool", "str", "range", "enumerate", "zip"]
def mkPg (p : Program) (kws : List (Str × Nat)) (F : Nat) : Pg := { fns := p.main.body.filterMap mkFn, glob := p.main.body.filterMap mkGlob, blt := bltNames, kws := kws, F := F }
end Mp

/-! Mp6: what a value of the abstract heap tells as plain data; slots; steps. -/
namespace Mp
open PySem PySem.Spec PyProof.Rows L2

section
variable (P : Program) (w : World) (K : PySem.W.Frag)

mutual
/-- a value is that key -/
inductive KeyV (H : Hp) : NestedKey → V → Prop
  | non : KeyV H .none .non
  | bl (b : Bool) : KeyV H (.num (if b = true then 1 else 0)) (.bl b)
  | int (i : Int) : KeyV H (.num i) (.int i)
  | str (x : Str) : KeyV H (.text x) (.str x)
  | tup {a : Addr} {vs : List V} {ks : List NestedKey} : SqT K H a vs → KeyVs H ks vs → KeyV H (.tup ks) (.ref a)
inductive KeyVs (H : Hp) : List NestedKey → List V → Prop
  | nil : KeyVs H [] []
  | cons {k : NestedKey} {v : V} {ks : List NestedKey} {vs : List V} : KeyV H k v → KeyVs H ks vs → KeyVs H (k :: ks) (v :: vs)
end
/-- a dict: the object itself is tracked -/
def objAt (a : Addr) (o : Obj) : HO := .ext fun h => h.get? a = some o
def EntN (H : Hp) (p : V × V) (x : NestedKey × Addr × Value) : Prop := p.1 = .ref x.2.1 ∧ KeyV K H x.1 p.1 ∧ x.1.depth ≤ 8 ∧ RelV p.2 x.2.2
def EntS (p : V × V) (q : Key × Value) : Prop := p.1 = kV q.1 ∧ RelV p.2 q.2
/-- its entries: keys that are ints and texts, or tuples -/
def Ents (H : Hp) (a : Addr) (o : Obj) (es : Array DictEntry) (ps : List (V × V)) : Prop :=
  (∃ vs, (∀ h : Heap, h.get? a = some o → h.DictOf (mixKind P w) a vs) ∧ Paired EntS ps vs) ∨
  ∃ xs : List (NestedKey × Addr × Value), es.toList = xs.map (entryOfKey (nestedKind P w)) ∧ (xs.map (·.1)).Nodup ∧ Paired (EntN K H) ps xs
def DictM (H : Hp) (a : Addr) (ps : List (V × V)) : Prop := ∃ (o : Obj) (es : Array DictEntry) (ep : Nat),
  H a = some (objAt a o) ∧ (a == sysModules) = false ∧ o.ExactDict ∧ o.data = .dict es ep ∧ ps.length ≤ sizeLine ∧ Ents P w K H a o es ps

/-- a list that is an object of the module -/
def KLst (K : PySem.W.Frag) (a : Addr) (xs : List V) : Prop := ∃ (o : Obj) (its : Array Value) (n : Nat), K.lookup a = some o ∧ o.cls = .type "list" ∧ o.dict = none ∧ o.data = .seq its n ∧ its.size ≤ sizeLine ∧ Vals xs its.toList
/-- a list that is read and stands where Av is not -/
def LOk (H : Hp) (Av : Addr → Prop) (a : Addr) (vs : List V) : Prop := (¬ Av a ∧ Rd H a (.lst vs)) ∨ KLst K a vs
mutual
/-- the value is that data; the lists and dicts in it stand where Av is not -/
inductive Rep (H : Hp) (Av : Addr → Prop) : D → V → Prop
  | non : Rep H Av .none .non
  | bl (b : Bool) : Rep H Av (.bool b) (.bl b)
  | int (i : Int) : Rep H Av (.int i) (.int i)
  | str (x : Str) : Rep H Av (.str x) (.str x)
  | tup {a : Addr} {vs : List V} {ds : List D} : SqT K H a vs → RepL H Av ds vs → Rep H Av (.tuple ds) (.ref a)
  | lst {a : Addr} {vs : List V} {ds : List D} : LOk K H Av a vs → RepL H Av ds vs → Rep H Av (.list ds) (.ref a)
  | dic {a : Addr} {ps : List (V × V)} {kvs : List (D × D)} : ¬ Av a → DictM P w K H a ps → RepP H Av kvs ps → Rep H Av (.dict kvs) (.ref a)
inductive RepL (H : Hp) (Av : Addr → Prop) : List D → List V → Prop
  | nil : RepL H Av [] []
  | cons {d : D} {v : V} {ds : List D} {vs : List V} : Rep H Av d v → RepL H Av ds vs → RepL H Av (d :: ds) (v :: vs)
inductive RepP (H : Hp) (Av : Addr → Prop) : List (D × D) → List (V × V) → Prop
  | nil : RepP H Av [] []
  | cons {k d : D} {kv v : V} {kvs : List (D × D)} {ps : List (V × V)} : Rep H Av k kv → Rep H Av d v → RepP H Av kvs ps → RepP H Av ((k, d) :: kvs) ((kv, v) :: ps)
end
/-- what a list or dict holds that may be written -/
inductive Own (H : Hp) (Av : Addr → Prop) (a : Addr) : D → Prop
  | lst {vs : List V} {ds : List D} : H a = some (.lst vs) → RepL P w K H Av ds vs → Own H Av a (.list ds)
  | dic {ps : List (V × V)} {kvs : List (D × D)} : DictM P w K H a ps → RepP P w K H Av kvs ps → Own H Av a (.dict kvs)
/-- the value is that data, to be looked at now -/
inductive Use (H : Hp) (Av : Addr → Prop) : D → V → Prop
  | rep {d : D} {v : V} : Rep P w K H Av d v → Use H Av d v
  | own {a : Addr} {d : D} : Own P w K H Av a d → Use H Av d (.ref a)
end

section
variable {P : Program} {w : World} {K : PySem.W.Frag} {H H' : Hp} {Av Av' : Addr → Prop}

theorem KeyV.at (hT : ∀ a vs, SqT K H a vs → SqT K H' a vs) {k : NestedKey} {v : V} (h : KeyV K H k v) : KeyV K H' k v := by
  refine KeyV.rec (motive_1 := fun k v _ => KeyV K H' k v) (motive_2 := fun ks vs _ => KeyVs K H' ks vs) ?_ ?_ ?_ ?_ ?_ ?_ ?_ h
  · exact .non
  · exact fun b => .bl b
  · exact fun i => .int i
  · exact fun x => .str x
  · exact fun s _ ih => .tup (hT _ _ s) ih
  · exact .nil
  · exact fun _ _ h1 h2 => .cons h1 h2
theorem DictM.at (hT : ∀ a vs, SqT K H a vs → SqT K H' a vs) {a : Addr} {ps : List (V × V)} (h : DictM P w K H a ps) (e : ∀ o, H a = some o → H' a = some o) : DictM P w K H' a ps := by
  obtain ⟨o, es, ep, h1, h2, h3, h4, h5, h6⟩ := h
  refine ⟨o, es, ep, e _ h1, h2, h3, h4, h5, ?_⟩
  rcases h6 with h6 | ⟨xs, h6, h7, h8⟩
  · exact .inl h6
  · exact .inr ⟨xs, h6, h7, Paired.mapP h8 fun p x q => ⟨q.1, q.2.1.at hT, q.2.2⟩⟩
theorem DictM.kind {a : Addr} {ps : List (V × V)} (h : DictM P w K H a ps) : ∃ φ, H a = some (.ext φ) := let ⟨_, _, _, h1, _⟩ := h; ⟨_, h1⟩

/-- what is told of a value leans on tuples, and on the lists and dicts in it -/
theorem Rep.map (hT : ∀ a vs, SqT K H a vs → SqT K H' a vs) (hL : ∀ a vs, ¬ Av a → Rd H a (.lst vs) → ¬ Av' a ∧ Rd H' a (.lst vs))
    (hD : ∀ a ps, ¬ Av a → DictM P w K H a ps → ¬ Av' a ∧ DictM P w K H' a ps) {d : D} {v : V} (h : Rep P w K H Av d v) : Rep P w K H' Av' d v := by
  refine Rep.rec (motive_1 := fun d v _ => Rep P w K H' Av' d v) (motive_2 := fun ds vs _ => RepL P w K H' Av' ds vs) (motive_3 := fun kvs ps _ => RepP P w K H' Av' kvs ps) ?_ ?_ ?_ ?_ ?_ ?_ ?_ ?_ ?_ ?_ ?_ h
  · exact .non
  · exact fun b => .bl b
  · exact fun i => .int i
  · exact fun x => .str x
  · exact fun s _ ih => .tup (hT _ _ s) ih
  · exact fun n _ ih => .lst (n.imp (fun z => hL _ _ z.1 z.2) id) ih
  · exact fun n s _ ih => .dic (hD _ _ n s).1 (hD _ _ n s).2 ih
  · exact .nil
  · exact fun _ _ h1 h2 => .cons h1 h2
  · exact .nil
  · exact fun _ _ _ h1 h2 h3 => .cons h1 h2 h3
theorem RepL.map (hT : ∀ a vs, SqT K H a vs → SqT K H' a vs) (hL : ∀ a vs, ¬ Av a → Rd H a (.lst vs) → ¬ Av' a ∧ Rd H' a (.lst vs))
    (hD : ∀ a ps, ¬ Av a → DictM P w K H a ps → ¬ Av' a ∧ DictM P w K H' a ps) : ∀ {ds : List D} {vs : List V}, RepL P w K H Av ds vs → RepL P w K H' Av' ds vs
  | _, _, .nil => .nil
  | _, _, .cons h t => .cons (h.map hT hL hD) (RepL.map hT hL hD t)
theorem RepP.map (hT : ∀ a vs, SqT K H a vs → SqT K H' a vs) (hL : ∀ a vs, ¬ Av a → Rd H a (.lst vs) → ¬ Av' a ∧ Rd H' a (.lst vs))
    (hD : ∀ a ps, ¬ Av a → DictM P w K H a ps → ¬ Av' a ∧ DictM P w K H' a ps) : ∀ {kvs : List (D × D)} {ps : List (V × V)}, RepP P w K H Av kvs ps → RepP P w K H' Av' kvs ps
  | _, _, .nil => .nil
  | _, _, .cons h1 h2 t => .cons (h1.map hT hL hD) (h2.map hT hL hD) (RepP.map hT hL hD t)
/-- less is kept away -/
theorem Rep.anti (h : Rep P w K H Av d v) (s : ∀ a, Av' a → Av a) : Rep P w K H Av' d v := h.map (fun _ _ z => z) (fun _ _ n z => ⟨fun q => n (s _ q), z⟩) fun _ _ n z => ⟨fun q => n (s _ q), z⟩
theorem RepL.anti {ds : List D} {vs : List V} (h : RepL P w K H Av ds vs) (s : ∀ a, Av' a → Av a) : RepL P w K H Av' ds vs := h.map (fun _ _ z => z) (fun _ _ n z => ⟨fun q => n (s _ q), z⟩) fun _ _ n z => ⟨fun q => n (s _ q), z⟩
theorem RepP.anti {kvs : List (D × D)} {ps : List (V × V)} (h : RepP P w K H Av kvs ps) (s : ∀ a, Av' a → Av a) : RepP P w K H Av' kvs ps := h.map (fun _ _ z => z) (fun _ _ n z => ⟨fun q => n (s _ q), z⟩) fun _ _ n z => ⟨fun q => n (s _ q), z⟩
theorem Own.anti {a : Addr} {d : D} (h : Own P w K H Av a d) (s : ∀ a, Av' a → Av a) : Own P w K H Av' a d := by
  cases h with
  | lst e r => exact .lst e (r.anti s)
  | dic e r => exact .dic e (r.anti s)
theorem Use.anti {d : D} {v : V} (h : Use P w K H Av d v) (s : ∀ a, Av' a → Av a) : Use P w K H Av' d v := by
  cases h with
  | rep r => exact .rep (r.anti s)
  | own r => exact .own (r.anti s)
theorem RepL.length : ∀ {ds : List D} {vs : List V}, RepL P w K H Av ds vs → ds.length = vs.length
  | _, _, .nil => rfl
  | _, _, .cons _ t => by rw [List.length_cons, List.length_cons, RepL.length t]
theorem RepP.length : ∀ {kvs : List (D × D)} {ps : List (V × V)}, RepP P w K H Av kvs ps → kvs.length = ps.length
  | _, _, .nil => rfl
  | _, _, .cons _ _ t => by rw [List.length_cons, List.length_cons, RepP.length t]
theorem RepL.append : ∀ {ds es : List D} {vs us : List V}, RepL P w K H Av ds vs → RepL P w K H Av es us → RepL P w K H Av (ds ++ es) (vs ++ us)
  | _, _, _, _, .nil, s => s
  | _, _, _, _, .cons h t, s => .cons h (RepL.append t s)
theorem RepL.get : ∀ {ds : List D} {vs : List V} {i : Nat} {d : D}, RepL P w K H Av ds vs → ds[i]? = some d → ∃ v, vs[i]? = some v ∧ Rep P w K H Av d v
  | _, _, _, _, .nil, e => by simp at e
  | _, _, 0, _, .cons h _, e => by simp at e; subst e; exact ⟨_, rfl, h⟩
  | _, _, i + 1, _, .cons _ t, e => by
    obtain ⟨v, h1, h2⟩ := RepL.get (i := i) t (by simpa using e)
    exact ⟨v, by simpa using h1, h2⟩
theorem RepL.getV : ∀ {ds : List D} {vs : List V} {i : Nat} {v : V}, RepL P w K H Av ds vs → vs[i]? = some v → ∃ d, ds[i]? = some d ∧ Rep P w K H Av d v
  | _, _, _, _, .nil, e => by simp at e
  | _, _, 0, _, .cons h _, e => by simp at e; subst e; exact ⟨_, rfl, h⟩
  | _, _, i + 1, _, .cons _ t, e => by
    obtain ⟨d, h1, h2⟩ := RepL.getV (i := i) t (by simpa using e)
    exact ⟨d, by simpa using h1, h2⟩
theorem RepL.take (n : Nat) : ∀ {ds : List D} {vs : List V}, RepL P w K H Av ds vs → RepL P w K H Av (ds.take n) (vs.take n) := by
  induction n with
  | zero => intro ds vs _; simp; exact .nil
  | succ n ih =>
    intro ds vs h
    cases h with
    | nil => exact .nil
    | cons h t => exact .cons h (ih t)
theorem RepL.drop (n : Nat) : ∀ {ds : List D} {vs : List V}, RepL P w K H Av ds vs → RepL P w K H Av (ds.drop n) (vs.drop n) := by
  induction n with
  | zero => intro ds vs h; exact h
  | succ n ih =>
    intro ds vs h
    cases h with
    | nil => exact .nil
    | cons h t => exact ih t
theorem RepL.set {d : D} {v : V} (r : Rep P w K H Av d v) : ∀ {ds : List D} {vs : List V} (i : Nat), RepL P w K H Av ds vs → RepL P w K H Av (ds.set i d) (vs.set i v)
  | _, _, _, .nil => .nil
  | _, _, 0, .cons _ t => .cons r t
  | _, _, i + 1, .cons h t => .cons h (RepL.set r i t)
theorem RepL.eraseIdx : ∀ {ds : List D} {vs : List V} (i : Nat), RepL P w K H Av ds vs → RepL P w K H Av (ds.eraseIdx i) (vs.eraseIdx i)
  | _, _, _, .nil => .nil
  | _, _, 0, .cons _ t => t
  | _, _, i + 1, .cons h t => .cons h (RepL.eraseIdx i t)
theorem RepL.rep {ds : List D} {vs : List V} (h : RepL P w K H Av ds vs) : ∀ k : Nat, RepL P w K H Av (List.replicate k ds).flatten (List.replicate k vs).flatten
  | 0 => .nil
  | k + 1 => by
    rw [List.replicate_succ, List.replicate_succ, List.flatten_cons, List.flatten_cons]
    exact h.append (RepL.rep h k)

/-! ### data without lists and dicts: nothing is to be kept away -/
theorem pure_any : ∀ {d : D} {v : V}, pureD d = true → Rep P w K H Av d v → Rep P w K H Av' d v := by
  intro d v hp h
  refine Rep.rec (motive_1 := fun d v _ => pureD d = true → Rep P w K H Av' d v) (motive_2 := fun ds vs _ => pureL ds = true → RepL P w K H Av' ds vs) (motive_3 := fun kvs ps _ => True) ?_ ?_ ?_ ?_ ?_ ?_ ?_ ?_ ?_ ?_ ?_ h hp
  · exact fun _ => .non
  · exact fun b _ => .bl b
  · exact fun i _ => .int i
  · exact fun x _ => .str x
  · exact fun s _ ih hq => .tup s (ih (by unfold pureD at hq; exact hq))
  · intro a vs ds n _ ih hq; unfold pureD at hq; cases hq
  · intro a vs ds n s _ ih hq; unfold pureD at hq; cases hq
  · exact fun _ => .nil
  · intro d v ds vs _ _ h1 h2 hq
    unfold pureL at hq
    have := Bool.and_eq_true_iff.mp hq
    exact .cons (h1 this.1) (h2 this.2)
  · trivial
  · intros; trivial
theorem pure_anyL : ∀ {ds : List D} {vs : List V}, pureL ds = true → RepL P w K H Av ds vs → RepL P w K H Av' ds vs
  | _, _, _, .nil => .nil
  | _, _, hp, .cons h t => by
    unfold pureL at hp
    have q := Bool.and_eq_true_iff.mp hp
    exact .cons (pure_any q.1 h) (pure_anyL q.2 t)
theorem pure_anyP : ∀ {kvs : List (D × D)} {ps : List (V × V)}, purePs kvs = true → RepP P w K H Av kvs ps → RepP P w K H Av' kvs ps
  | _, _, _, .nil => .nil
  | _, _, hp, .cons h1 h2 t => by
    unfold purePs at hp
    rw [List.all_cons] at hp
    have q := Bool.and_eq_true_iff.mp hp
    have q1 := Bool.and_eq_true_iff.mp q.1
    exact .cons (pure_any q1.1 h1) (pure_any q1.2 h2) (pure_anyP q.2 t)
end

/-! ### slots and values -/
/-- a slot that holds a list or dict -/
def Slot.holds : Slot → Bool
  | .ow _ => true
  | .lk _ => true
  | .rf _ => true
  | _ => false
def Slot.muts : Slot → Bool
  | .ow _ => true
  | .rf _ => true
  | _ => false
def Slot.data : Slot → Option D
  | .un => none
  | .fz d => some d
  | .ow d => some d
  | .lk d => some d
  | .rf d => some d
theorem cont_data (env : Env) (i : Nat) : cont env i = (get env i).data := by
  unfold cont Slot.data
  cases get env i <;> rfl
def Hld (env : Env) (σ : L2.St) (i : Nat) (a : Addr) : Prop := (get env i).holds = true ∧ σ[i]? = some (some (.ref a))
def Held (env : Env) (σ : L2.St) (a : Addr) : Prop := ∃ i, Hld env σ i a
def Mut (env : Env) (σ : L2.St) (a : Addr) : Prop := ∃ i, (get env i).muts = true ∧ σ[i]? = some (some (.ref a))
def Avd (T : Addr → Prop) (env : Env) (σ : L2.St) (a : Addr) : Prop := T a ∨ Held env σ a
theorem muts_holds {s : Slot} (h : s.muts = true) : s.holds = true := by cases s <;> first | rfl | cases h
theorem Mut.held {env : Env} {σ : L2.St} {a : Addr} (h : Mut env σ a) : Held env σ a := let ⟨i, x, y⟩ := h; ⟨i, muts_holds x, y⟩

section
variable (P : Program) (w : World) (K : PySem.W.Frag)
def SlotOk (H : Hp) (Av : Addr → Prop) : Slot → Option V → Prop
  | .un, _ => True
  | .fz d, o => ∃ v, o = some v ∧ Rep P w K H Av d v
  | .ow d, o => ∃ a, o = some (.ref a) ∧ Own P w K H Av a d
  | .lk d, o => ∃ a, o = some (.ref a) ∧ Own P w K H Av a d
  | .rf d, o => ∃ a, o = some (.ref a) ∧ Own P w K H Av a d
structure Rel (T : Addr → Prop) (env : Env) (σ : L2.St) (H : Hp) : Prop where
  len : env.length = σ.length
  ok : ∀ i, SlotOk P w K H (Avd T env σ) (get env i) (σ[i]?).join
  one : ∀ i j a, Hld env σ i a → Hld env σ j a → i = j
  apart : ∀ a, T a → ¬ Held env σ a
  there : ∀ a, T a → H a ≠ none
end
/-- what a part of the program may do -/
structure Go (T : Addr → Prop) (env : Env) (σ : L2.St) (H : Hp) (T' : Addr → Prop) (env' : Env) (σ' : L2.St) (H' : Hp) : Prop where
  frame : ∀ a o, H a = some o → ¬ Mut env σ a → H' a = some o
  there : ∀ a, H a ≠ none → H' a ≠ none
  muts : ∀ a, Mut env' σ' a → Mut env σ a ∨ H a = none
  held : ∀ a, Held env' σ' a → Held env σ a ∨ H a = none
  lks : ∀ i d, get env' i = .lk d → get env i = .lk d ∧ σ'[i]? = σ[i]?
  rfs : ∀ i d, get env' i = .rf d → (∃ d', get env i = .rf d') ∧ σ'[i]? = σ[i]?
  sub : ∀ a, T a → T' a
  new : ∀ a, T' a → T a ∨ H a = none
theorem Go.refl {T : Addr → Prop} {env : Env} {σ : L2.St} {H : Hp} : Go T env σ H T env σ H :=
  ⟨fun _ _ e _ => e, fun _ h => h, fun _ h => .inl h, fun _ h => .inl h, fun _ _ h => ⟨h, rfl⟩, fun _ d h => ⟨⟨d, h⟩, rfl⟩, fun _ h => h, fun _ h => .inl h⟩
theorem Go.trans {T T1 T2 : Addr → Prop} {env env1 env2 : Env} {σ σ1 σ2 : L2.St} {H H1 H2 : Hp} (a : Go T env σ H T1 env1 σ1 H1) (b : Go T1 env1 σ1 H1 T2 env2 σ2 H2) : Go T env σ H T2 env2 σ2 H2 where
  frame := fun x o e n => b.frame x o (a.frame x o e n) fun m => (a.muts x m).elim n fun z => by rw [e] at z; cases z
  there := fun x h => b.there x (a.there x h)
  muts := fun x m => (b.muts x m).elim (a.muts x) fun z => .inr (by
    cases q : H x with
    | none => rfl
    | some o => exact absurd z (a.there x (by rw [q]; exact fun z => nomatch z)))
  held := fun x m => (b.held x m).elim (a.held x) fun z => .inr (by
    cases q : H x with
    | none => rfl
    | some o => exact absurd z (a.there x (by rw [q]; exact fun z => nomatch z)))
  lks := fun i d e => let ⟨e1, e2⟩ := b.lks i d e; let ⟨e3, e4⟩ := a.lks i d e1; ⟨e3, e2.trans e4⟩
  rfs := fun i d e => let ⟨⟨d1, e1⟩, e2⟩ := b.rfs i d e; let ⟨e3, e4⟩ := a.rfs i d1 e1; ⟨e3, e2.trans e4⟩
  sub := fun x h => b.sub x (a.sub x h)
  new := fun x m => (b.new x m).elim (a.new x) fun z => .inr (by
    cases q : H x with
    | none => rfl
    | some o => exact absurd z (a.there x (by rw [q]; exact fun z => nomatch z)))
end Mp

/-! Mp7: steps keep what is told; slots are read, frozen, stored. -/
namespace Mp
open PySem PySem.Spec PyProof.Rows L2
section
variable {P : Program} {w : World} {K : PySem.W.Frag} {T T0 T1 T' : Addr → Prop} {env env' env1 env2 : Env} {σ σ' σ1 σ2 : L2.St} {H H' H1 H2 : Hp}

theorem ne_none {H : Hp} {a : Addr} {o : HO} (e : H a = some o) : H a ≠ none := by rw [e]; exact fun z => nomatch z

/-! ### what a slot's list or dict is -/
def IsMut (H : Hp) (a : Addr) : Prop := (∃ vs, H a = some (.lst vs)) ∨ ∃ φ, H a = some (.ext φ)
theorem Own.isMut {Av : Addr → Prop} {a : Addr} {d : D} (h : Own P w K H Av a d) : IsMut H a := by
  cases h with
  | lst e _ => exact .inl ⟨_, e⟩
  | dic e _ => exact .inr e.kind
theorem IsMut.ne {a : Addr} (h : IsMut H a) : H a ≠ none := by
  rcases h with ⟨_, e⟩ | ⟨_, e⟩ <;> exact ne_none e
theorem IsMut.noTup {a : Addr} (h : IsMut H a) : (∀ vs, H a ≠ some (.tup vs)) ∧ ∀ o u, H a ≠ some (.frz o u) := by
  rcases h with ⟨_, e⟩ | ⟨_, e⟩ <;> (constructor <;> intros <;> rw [e] <;> exact fun z => nomatch z)
theorem Rel.own (R : Rel P w K T env σ H) {i : Nat} (h : (get env i).holds = true) : ∃ a d, σ[i]? = some (some (.ref a)) ∧ (get env i).data = some d ∧ Own P w K H (Avd T env σ) a d := by
  have q := R.ok i
  cases e : get env i with
  | un => rw [e] at h; cases h
  | fz d => rw [e] at h; cases h
  | ow d => rw [e] at q; obtain ⟨a, e1, o⟩ := q; exact ⟨a, d, Option.join_eq_some_iff.mp e1, rfl, o⟩
  | lk d => rw [e] at q; obtain ⟨a, e1, o⟩ := q; exact ⟨a, d, Option.join_eq_some_iff.mp e1, rfl, o⟩
  | rf d => rw [e] at q; obtain ⟨a, e1, o⟩ := q; exact ⟨a, d, Option.join_eq_some_iff.mp e1, rfl, o⟩
theorem Rel.heldMut (R : Rel P w K T env σ H) {a : Addr} (h : Held env σ a) : IsMut H a := by
  obtain ⟨i, h1, h2⟩ := h
  obtain ⟨b, d, e1, _, o⟩ := R.own h1
  rw [h2] at e1
  cases e1
  exact o.isMut
theorem Rel.avSome (R : Rel P w K T env σ H) {a : Addr} (h : Avd T env σ a) : H a ≠ none := h.elim (R.there a) fun z => (R.heldMut z).ne

/-! ### steps keep -/
theorem Go.tup (g : Go T env σ H T' env' σ' H') (R : Rel P w K T env σ H) (a : Addr) (vs : List V) (h : SqT K H a vs) : SqT K H' a vs := by
  rcases h with (e | ⟨o, e⟩) | h
  · exact .inl (.inl (g.frame a _ e fun m => (R.heldMut m.held).noTup.1 _ e))
  · exact .inl (.inr ⟨o, g.frame a _ e fun m => (R.heldMut m.held).noTup.2 _ _ e⟩)
  · exact .inr h
theorem Go.noAv (g : Go T env σ H T' env' σ' H') {a : Addr} (h : H a ≠ none) (n : ¬ Avd T env σ a) : ¬ Avd T' env' σ' a := by
  rintro (z | z)
  · exact (g.new a z).elim (fun q => n (.inl q)) h
  · exact (g.held a z).elim (fun q => n (.inr q)) h
theorem Go.keeps (g : Go T env σ H T' env' σ' H') {a : Addr} {o : HO} (e : H a = some o) (n : ¬ Avd T env σ a) : H' a = some o := g.frame a o e fun m => n (.inr m.held)
theorem Go.rd (g : Go T env σ H T' env' σ' H') (a : Addr) (vs : List V) (n : ¬ Avd T env σ a) (h : Rd H a (.lst vs)) : ¬ Avd T' env' σ' a ∧ Rd H' a (.lst vs) := by
  rcases h with e | ⟨o, e⟩
  · exact ⟨g.noAv (ne_none e) n, .inl (g.keeps e n)⟩
  · exact ⟨g.noAv (ne_none e) n, .inr ⟨o, g.keeps e n⟩⟩
theorem Go.dm (g : Go T env σ H T' env' σ' H') (R : Rel P w K T env σ H) (a : Addr) (ps : List (V × V)) (n : ¬ Avd T env σ a) (h : DictM P w K H a ps) : ¬ Avd T' env' σ' a ∧ DictM P w K H' a ps := by
  have hs : H a ≠ none := let ⟨_, e⟩ := h.kind; ne_none e
  exact ⟨g.noAv hs n, h.at (g.tup R) fun o e => g.keeps e n⟩
theorem Rep.step {d : D} {v : V} (h : Rep P w K H (Avd T env σ) d v) (R : Rel P w K T env σ H) (g : Go T env σ H T' env' σ' H') : Rep P w K H' (Avd T' env' σ') d v :=
  h.map (g.tup R) g.rd (g.dm R)
theorem RepL.step {ds : List D} {vs : List V} (h : RepL P w K H (Avd T env σ) ds vs) (R : Rel P w K T env σ H) (g : Go T env σ H T' env' σ' H') : RepL P w K H' (Avd T' env' σ') ds vs :=
  h.map (g.tup R) g.rd (g.dm R)
theorem RepP.step {kvs : List (D × D)} {ps : List (V × V)} (h : RepP P w K H (Avd T env σ) kvs ps) (R : Rel P w K T env σ H) (g : Go T env σ H T' env' σ' H') : RepP P w K H' (Avd T' env' σ') kvs ps :=
  h.map (g.tup R) g.rd (g.dm R)
/-- a list or dict that is not written in the step -/
theorem Own.step {a : Addr} {d : D} (h : Own P w K H (Avd T env σ) a d) (R : Rel P w K T env σ H) (g : Go T env σ H T' env' σ' H') (n : ¬ Mut env σ a) : Own P w K H' (Avd T' env' σ') a d := by
  cases h with
  | lst e r => exact .lst (g.frame a _ e n) (r.step R g)
  | dic e r => exact .dic (e.at (g.tup R) fun o q => g.frame a o q n) (r.step R g)

/-! ### results in flight: T the addresses of what was just made (and what is kept away), T0 those ahead -/
def resOf (b : Bool) (d : D) : Res := if b = true then .new d else .val d
section
variable (P : Program) (w : World) (K : PySem.W.Frag)
def InF (T0 T : Addr → Prop) (env : Env) (σ : L2.St) (H : Hp) : Res → V → Prop
  | .val d, v => Rep P w K H (Avd T env σ) d v
  | .new d, v => ∃ a, v = .ref a ∧ T a ∧ ¬ T0 a ∧ Own P w K H (Avd T env σ) a d
  | .plc i, v => σ[i]? = some (some v)
def newOf (T0 : Addr → Prop) : Res → V → (Addr → Prop)
  | .new _, v => fun a => T0 a ∨ v = .ref a
  | _, _ => T0
def InFs (T0 T : Addr → Prop) (env : Env) (σ : L2.St) (H : Hp) : List Res → List V → Prop
  | [], vs => vs = []
  | r :: rs, vs => ∃ v us, vs = v :: us ∧ InF P w K T0 T env σ H r v ∧ InFs (newOf T0 r v) T env σ H rs us
end
theorem Rel.noMut (R : Rel P w K T env σ H) {a : Addr} (h : T a) : ¬ Mut env σ a := fun m => R.apart a h m.held
theorem InF.step {r : Res} {v : V} (h : InF P w K T0 T env σ H r v) (R : Rel P w K T env σ H) (g : Go T env σ H T' env' σ H') : InF P w K T0 T' env' σ H' r v := by
  cases r with
  | val d => exact Rep.step h R g
  | new d => obtain ⟨a, e, t, n, o⟩ := h; exact ⟨a, e, g.sub a t, n, o.step R g (R.noMut t)⟩
  | plc i => exact h
theorem newOf_sub {r : Res} {v : V} {a : Addr} (h : T0 a) : newOf T0 r v a := by
  cases r <;> first | exact h | exact .inl h
theorem InF.base {r : Res} {v : V} (h : InF P w K T0 T env σ H r v) (s : ∀ a, T1 a → T0 a) : InF P w K T1 T env σ H r v := by
  cases r with
  | val d => exact h
  | new d => obtain ⟨a, e, t, n, o⟩ := h; exact ⟨a, e, t, fun z => n (s a z), o⟩
  | plc i => exact h
theorem newOf_mono {r : Res} {v : V} (s : ∀ a, T1 a → T0 a) : ∀ a, newOf T1 r v a → newOf T0 r v a := by
  intro a h
  cases r with
  | val d => exact s a h
  | new d => exact h.elim (fun z => .inl (s a z)) .inr
  | plc i => exact s a h
theorem InFs.base : ∀ {rs : List Res} {vs : List V} {T0 T1 : Addr → Prop}, InFs P w K T0 T env σ H rs vs → (∀ a, T1 a → T0 a) → InFs P w K T1 T env σ H rs vs
  | [], _, _, _, h, _ => h
  | r :: rs, _, _, _, h, s => by
    obtain ⟨v, us, e, h1, h2⟩ := h
    exact ⟨v, us, e, h1.base s, InFs.base h2 (newOf_mono s)⟩
theorem InFs.step : ∀ {rs : List Res} {vs : List V} {T0 : Addr → Prop}, InFs P w K T0 T env σ H rs vs → Rel P w K T env σ H → Go T env σ H T' env' σ H' → InFs P w K T0 T' env' σ H' rs vs
  | [], _, _, h, _, _ => h
  | r :: rs, _, _, h, R, g => by
    obtain ⟨v, us, e, h1, h2⟩ := h
    exact ⟨v, us, e, h1.step R g, InFs.step h2 R g⟩
theorem InFs.length : ∀ {rs : List Res} {vs : List V} {T0 : Addr → Prop}, InFs P w K T0 T env σ H rs vs → rs.length = vs.length
  | [], _, _, h => by subst h; rfl
  | r :: rs, _, _, h => by
    obtain ⟨v, us, rfl, _, h2⟩ := h
    rw [List.length_cons, List.length_cons, InFs.length h2]

/-! ### reading -/
theorem SlotOk.use {Av : Addr → Prop} {s : Slot} {o : Option V} {d : D} (h : SlotOk P w K H Av s o) (e : s.data = some d) : ∃ v, o = some v ∧ Use P w K H Av d v := by
  cases s with
  | un => cases e
  | fz d' => cases e; obtain ⟨v, e1, r⟩ := h; exact ⟨v, e1, .rep r⟩
  | ow d' => cases e; obtain ⟨a, e1, r⟩ := h; exact ⟨_, e1, .own r⟩
  | lk d' => cases e; obtain ⟨a, e1, r⟩ := h; exact ⟨_, e1, .own r⟩
  | rf d' => cases e; obtain ⟨a, e1, r⟩ := h; exact ⟨_, e1, .own r⟩
theorem Rel.read (R : Rel P w K T env σ H) {i : Nat} {d : D} (e : cont env i = some d) : ∃ v, σ[i]? = some (some v) ∧ Use P w K H (Avd T env σ) d v := by
  rw [cont_data] at e
  obtain ⟨v, e1, u⟩ := (R.ok i).use e
  exact ⟨v, Option.join_eq_some_iff.mp e1, u⟩
theorem InF.use {r : Res} {v : V} {d : D} (h : InF P w K T0 T env σ H r v) (R : Rel P w K T env σ H) (e : deref env r = some d) : Use P w K H (Avd T env σ) d v := by
  cases r with
  | val d' => cases e; exact .rep h
  | new d' => cases e; obtain ⟨a, rfl, _, _, o⟩ := h; exact .own o
  | plc i =>
    obtain ⟨v', e1, u⟩ := R.read e
    have h' : σ[i]? = some (some v) := h
    rw [h'] at e1
    cases e1
    exact u

/-! ### less is kept away; slots are frozen -/
/-- env' is env with some slots frozen -/
structure Sub (env' env : Env) : Prop where
  len : env'.length = env.length
  at_ : ∀ i, get env' i = get env i ∨ ∃ d, get env i = .ow d ∧ get env' i = .fz d
theorem Sub.refl : Sub env env := ⟨rfl, fun _ => .inl rfl⟩
theorem Sub.trans (a : Sub env2 env1) (b : Sub env1 env) : Sub env2 env := ⟨a.len.trans b.len, fun i => by
  rcases a.at_ i with e | ⟨d, e1, e2⟩
  · rcases b.at_ i with e' | ⟨d', e1', e2'⟩
    · exact .inl (e.trans e')
    · exact .inr ⟨d', e1', e.trans e2'⟩
  · rcases b.at_ i with e' | ⟨d', e1', e2'⟩
    · exact .inr ⟨d, e'.symm.trans e1, e2⟩
    · rw [e2'] at e1; cases e1⟩
theorem Sub.holds (s : Sub env' env) {i : Nat} (h : (get env' i).holds = true) : (get env i).holds = true := by
  rcases s.at_ i with e | ⟨d, e1, e2⟩
  · rw [← e]; exact h
  · rw [e2] at h; cases h
theorem Sub.hld (s : Sub env' env) {i : Nat} {a : Addr} (h : Hld env' σ i a) : Hld env σ i a := ⟨s.holds h.1, h.2⟩
theorem Sub.held (s : Sub env' env) {a : Addr} (h : Held env' σ a) : Held env σ a := let ⟨i, x⟩ := h; ⟨i, s.hld x⟩
theorem Sub.mut (s : Sub env' env) {a : Addr} (h : Mut env' σ a) : Mut env σ a := by
  obtain ⟨i, h1, h2⟩ := h
  refine ⟨i, ?_, h2⟩
  rcases s.at_ i with e | ⟨d, e1, e2⟩
  · rw [← e]; exact h1
  · rw [e2] at h1; cases h1
theorem Sub.avd (s : Sub env' env) (t : ∀ a, T' a → T a) {a : Addr} (h : Avd T' env' σ a) : Avd T env σ a := h.elim (fun z => .inl (t a z)) fun z => .inr (s.held z)
theorem Own.rep {Av : Addr → Prop} {a : Addr} {d : D} (h : Own P w K H Av a d) (n : ¬ Av a) : Rep P w K H Av d (.ref a) := by
  cases h with
  | lst e r => exact .lst (.inl ⟨n, .inl e⟩) r
  | dic e r => exact .dic n e r
theorem Rel.less (R : Rel P w K T env σ H) (s : Sub env' env) (t : ∀ a, T' a → T a) : Rel P w K T' env' σ H where
  len := s.len.trans R.len
  ok := fun i => by
    have q := R.ok i
    have av : ∀ a, Avd T' env' σ a → Avd T env σ a := fun a => s.avd t
    rcases s.at_ i with e | ⟨d, e1, e2⟩
    · rw [e]
      cases g : get env i with
      | un => exact trivial
      | fz d => rw [g] at q; obtain ⟨v, e1, r⟩ := q; exact ⟨v, e1, r.anti av⟩
      | ow d => rw [g] at q; obtain ⟨v, e1, r⟩ := q; exact ⟨v, e1, r.anti av⟩
      | lk d => rw [g] at q; obtain ⟨v, e1, r⟩ := q; exact ⟨v, e1, r.anti av⟩
      | rf d => rw [g] at q; obtain ⟨v, e1, r⟩ := q; exact ⟨v, e1, r.anti av⟩
    · rw [e1] at q
      rw [e2]
      obtain ⟨a, e3, r⟩ := q
      have hi : Hld env σ i a := ⟨by rw [e1]; rfl, Option.join_eq_some_iff.mp e3⟩
      refine ⟨_, e3, (r.anti av).rep ?_⟩
      rintro (z | ⟨j, z⟩)
      · exact R.apart a (t a z) ⟨i, hi⟩
      · have e := R.one i j a hi (s.hld z)
        subst e
        have := z.1
        rw [e2] at this
        cases this
  one := fun i j a h1 h2 => R.one i j a (s.hld h1) (s.hld h2)
  apart := fun a h1 h2 => R.apart a (t a h1) (s.held h2)
  there := fun a h => R.there a (t a h)
theorem Go.less {T0 : Addr → Prop} {env0 : Env} {σ0 : L2.St} {H0 : Hp} (g : Go T0 env0 σ0 H0 T env σ H) (s : Sub env' env) (t : ∀ a, T' a → T a) (t0 : ∀ a, T0 a → T' a) : Go T0 env0 σ0 H0 T' env' σ H where
  frame := g.frame
  there := g.there
  muts := fun a h => g.muts a (s.mut h)
  held := fun a h => g.held a (s.held h)
  lks := fun i d e => by
    rcases s.at_ i with e' | ⟨d', e1, e2⟩
    · exact g.lks i d (e'.symm.trans e)
    · rw [e2] at e; cases e
  rfs := fun i d e => by
    rcases s.at_ i with e' | ⟨d', e1, e2⟩
    · exact g.rfs i d (e'.symm.trans e)
    · rw [e2] at e; cases e
  sub := t0
  new := fun a h => g.new a (t a h)
theorem get_set (env : Env) (i j : Nat) (s : Slot) (h : i < env.length) : get (env.set i s) j = if j = i then s else get env j := by
  unfold get
  rw [List.getD_eq_getElem?_getD, List.getD_eq_getElem?_getD]
  by_cases e : j = i
  · subst e; rw [if_pos rfl, List.getElem?_set_self h]; rfl
  · rw [if_neg e, List.getElem?_set_ne (Ne.symm e)]
theorem get_lt {env : Env} {i : Nat} (h : get env i ≠ .un) : i < env.length := by
  by_cases e : i < env.length
  · exact e
  · refine absurd ?_ h
    unfold get
    rw [List.getD_eq_getElem?_getD, List.getElem?_eq_none (by omega)]
    rfl
theorem sub_freeze {i : Nat} {d : D} (h : get env i = .ow d) : Sub (env.set i (.fz d)) env :=
  ⟨by simp, fun j => by
    rw [get_set env i j _ (get_lt (by rw [h]; exact fun z => nomatch z))]
    by_cases e : j = i
    · subst e; rw [if_pos rfl]; exact .inr ⟨d, h, rfl⟩
    · rw [if_neg e]; exact .inl rfl⟩
theorem take_sub {r : Res} {d : D} (e : take env r = some (d, env')) : Sub env' env := by
  cases r with
  | val d' => cases e; exact .refl
  | new d' => cases e; exact .refl
  | plc i =>
    unfold take at e
    cases g : get env i with
    | un => simp only [g] at e; cases e
    | fz d' => simp only [g] at e; cases e; exact .refl
    | ow d' => simp only [g] at e; cases e; exact sub_freeze g
    | lk d' => simp only [g] at e; cases e
    | rf d' => simp only [g] at e; cases e
theorem InF.sub {r : Res} {v : V} (h : InF P w K T0 T env σ H r v) (s : Sub env' env) : InF P w K T0 T env' σ H r v := by
  cases r with
  | val d => exact Rep.anti h fun a => s.avd fun _ z => z
  | new d => obtain ⟨a, e, t, n, o⟩ := h; exact ⟨a, e, t, n, o.anti fun a => s.avd fun _ z => z⟩
  | plc i => exact h
/-- what was just made is not kept away any more -/
def less (T : Addr → Prop) : Res → V → (Addr → Prop)
  | .new _, v => fun a => T a ∧ v ≠ .ref a
  | _, _ => T
theorem less_sub {r : Res} {v : V} {a : Addr} (h : less T r v a) : T a := by
  cases r <;> first | exact h | exact h.1
theorem less_base {r : Res} {v : V} {a : Addr} (h : InF P w K T0 T env σ H r v) (t : ∀ a, T0 a → T a) (z : T0 a) : less T r v a := by
  cases r with
  | val d => exact t a z
  | plc i => exact t a z
  | new d =>
    obtain ⟨b, rfl, tb, n, o⟩ := h
    refine ⟨t a z, fun e => ?_⟩
    cases e
    exact n z
theorem take_ok {r : Res} {v : V} {d : D} (h : InF P w K T0 T env σ H r v) (R : Rel P w K T env σ H) (e : take env r = some (d, env')) :
    Rel P w K (less T r v) env' σ H ∧ Rep P w K H (Avd (less T r v) env' σ) d v := by
  have s := take_sub e
  refine ⟨R.less s fun a => less_sub, ?_⟩
  cases r with
  | val d' => cases e; exact h
  | new d' =>
    cases e
    obtain ⟨a, rfl, t, n, o⟩ := h
    refine (o.anti fun b => s.avd fun c => less_sub).rep ?_
    rintro (z | z)
    · exact z.2 rfl
    · exact R.apart a t (s.held z)
  | plc i =>
    have R' : Rel P w K T env' σ H := R.less s fun _ z => z
    have h' : σ[i]? = some (some v) := h
    have q := R'.ok i
    have g : get env' i = .fz d := by
      unfold take at e
      cases g : get env i with
      | un => simp only [g] at e; cases e
      | fz d' => simp only [g] at e; cases e; exact g
      | ow d' =>
        simp only [g] at e
        cases e
        rw [get_set env i i _ (get_lt (by rw [g]; exact fun z => nomatch z)), if_pos rfl]
      | lk d' => simp only [g] at e; cases e
      | rf d' => simp only [g] at e; cases e
    rw [g] at q
    obtain ⟨u, e1, r⟩ := q
    rw [h'] at e1
    cases e1
    exact r
theorem InFs.less : ∀ {rs : List Res} {vs : List V} {T0 : Addr → Prop} {r : Res} {v : V}, InFs P w K (newOf T0 r v) T env σ H rs vs → Sub env' env → InFs P w K T0 (less T r v) env' σ H rs vs
  | [], _, _, _, _, h, _ => h
  | q :: qs, _, T0, r, v, h, s => by
    obtain ⟨u, us, e, h1, h2⟩ := h
    refine ⟨u, us, e, ?_, ?_⟩
    · cases q with
      | val d => exact Rep.anti h1 fun a => s.avd fun b => less_sub
      | plc i => exact h1
      | new d =>
        obtain ⟨a, rfl, t, n, o⟩ := h1
        refine ⟨a, rfl, ?_, fun z => n (newOf_sub z), o.anti fun b => s.avd fun c => less_sub⟩
        cases r with
        | val _ => exact t
        | plc _ => exact t
        | new _ => exact ⟨t, fun e => n (.inr e)⟩
    · have e2 : ∀ a, newOf (newOf T0 q u) r v a → newOf (newOf T0 r v) q u a := by
        intro a z
        cases q <;> cases r <;> simp only [newOf] at z ⊢ <;> first | exact z | (rcases z with (z | z) | z <;> simp [z]) | (rcases z with z | z <;> simp [z])
      exact InFs.less (InFs.base h2 e2) s
theorem takeAll_ok : ∀ {rs : List Res} {vs : List V} {T env env' ds}, InFs P w K T0 T env σ H rs vs → Rel P w K T env σ H → (∀ a, T0 a → T a) → takeAll rs env = some (ds, env') →
    Sub env' env ∧ Rel P w K T0 env' σ H ∧ RepL P w K H (Avd T0 env' σ) ds vs
  | [], _, T, env, env', ds, h, R, t, e => by
    cases e
    subst h
    exact ⟨.refl, R.less .refl t, .nil⟩
  | r :: rs, _, T, env, env', ds, h, R, t, e => by
    obtain ⟨v, us, rfl, h1, h2⟩ := h
    unfold takeAll at e
    obtain ⟨⟨d, e1⟩, he1, e⟩ := Option.bind_eq_some_iff.mp e
    obtain ⟨⟨ds', e2⟩, he2, e⟩ := Option.bind_eq_some_iff.mp e
    cases e
    obtain ⟨R1, r1⟩ := take_ok h1 R he1
    have s1 := take_sub he1
    have h2' := InFs.less (env' := e1) h2 s1
    obtain ⟨s2, R2, r2⟩ := takeAll_ok (T := Mp.less T r v) h2' R1 (fun a z => less_base h1 t z) he2
    refine ⟨s2.trans s1, R2, .cons ?_ r2⟩
    refine r1.anti fun a z => ?_
    rcases z with z | z
    · exact .inl (less_base h1 t z)
    · exact .inr (s2.held z)
end
end Mp

/-! Mp8: operations by values. -/
namespace Mp
open PySem PySem.Spec PyProof.Rows L2
section
variable {P : Program} {w : World} {K : PySem.W.Frag} {H H' : Hp} {Av : Addr → Prop} {d : D} {v : V} {a : Addr}

/-! ### what a value is by its data -/
theorem Use.none (h : Use P w K H Av .none v) : v = .non := by
  cases h with
  | rep r => cases r; rfl
  | own r => cases r
theorem Use.bool {b : Bool} (h : Use P w K H Av (.bool b) v) : v = .bl b := by
  cases h with
  | rep r => cases r; rfl
  | own r => cases r
theorem Use.int {i : Int} (h : Use P w K H Av (.int i) v) : v = .int i := by
  cases h with
  | rep r => cases r; rfl
  | own r => cases r
theorem Use.str {x : Str} (h : Use P w K H Av (.str x) v) : v = .str x := by
  cases h with
  | rep r => cases r; rfl
  | own r => cases r
theorem Use.tup {ds : List D} (h : Use P w K H Av (.tuple ds) v) : ∃ a vs, v = .ref a ∧ SqT K H a vs ∧ RepL P w K H Av ds vs := by
  cases h with
  | rep r => cases r with | tup s r => exact ⟨_, _, rfl, s, r⟩
  | own r => cases r
theorem Use.lst {ds : List D} (h : Use P w K H Av (.list ds) v) : ∃ a vs, v = .ref a ∧ SqL K H a vs ∧ RepL P w K H Av ds vs := by
  cases h with
  | rep r => cases r with | lst n r => exact ⟨_, _, rfl, n.imp (fun z => z.2) id, r⟩
  | own r => cases r with | lst e r => exact ⟨_, _, rfl, .inl (.inl e), r⟩
theorem Use.dic {kvs : List (D × D)} (h : Use P w K H Av (.dict kvs) v) : ∃ a ps, v = .ref a ∧ DictM P w K H a ps ∧ RepP P w K H Av kvs ps := by
  cases h with
  | rep r => cases r with | dic n s r => exact ⟨_, _, rfl, s, r⟩
  | own r => cases r with | dic e r => exact ⟨_, _, rfl, e, r⟩

/-! ### what an operation gives -/
def Grow (H H' : Hp) : Prop := H' = H ∨ ∃ p vs, H p = none ∧ H' = upd H p (.tup vs)
section
variable (P : Program) (w : World) (K : PySem.W.Frag)
/-- a new list or dict o at p -/
inductive Made (H : Hp) (Av : Addr → Prop) (p : Addr) : HO → D → Prop
  | lst {vs : List V} {ds : List D} : RepL P w K H Av ds vs → Made H Av p (.lst vs) (.list ds)
  | dic {o : HO} {ps : List (V × V)} {kvs : List (D × D)} : DictM P w K (upd H p o) p ps → RepP P w K H Av kvs ps → Made H Av p o (.dict kvs)
def VOut (H : Hp) (Av : Addr → Prop) : Res → V → Hp → Prop
  | .val d, z, H' => Grow H H' ∧ Rep P w K H' Av d z
  | .new d, z, H' => ∃ p o, z = .ref p ∧ H p = none ∧ H' = upd H p o ∧ Made P w K H Av p o d
  | .plc _, _, _ => False
end
theorem Grow.keep (g : Grow H H') : ∀ b o, H b = some o → H' b = some o := by
  rcases g with rfl | ⟨p, vs, n, rfl⟩
  · exact fun _ _ e => e
  · exact fun b o e => by rw [upd_ne (ne_of_none e n)]; exact e
theorem keep_rep (k : ∀ b o, H b = some o → H' b = some o) (h : Rep P w K H Av d v) : Rep P w K H' Av d v := by
  have hT : ∀ a vs, SqT K H a vs → SqT K H' a vs := fun a vs z => z.imp (fun z => z.imp (k a _) fun ⟨o, e⟩ => ⟨o, k a _ e⟩) id
  exact h.map hT (fun a vs n z => ⟨n, z.imp (k a _) fun ⟨o, e⟩ => ⟨o, k a _ e⟩⟩) fun a ps n z => ⟨n, z.at hT fun o e => k a o e⟩
theorem keep_repL (k : ∀ b o, H b = some o → H' b = some o) {ds : List D} {vs : List V} (h : RepL P w K H Av ds vs) : RepL P w K H' Av ds vs := by
  have hT : ∀ a vs, SqT K H a vs → SqT K H' a vs := fun a vs z => z.imp (fun z => z.imp (k a _) fun ⟨o, e⟩ => ⟨o, k a _ e⟩) id
  exact h.map hT (fun a vs n z => ⟨n, z.imp (k a _) fun ⟨o, e⟩ => ⟨o, k a _ e⟩⟩) fun a ps n z => ⟨n, z.at hT fun o e => k a o e⟩
theorem keep_repP (k : ∀ b o, H b = some o → H' b = some o) {ds : List (D × D)} {vs : List (V × V)} (h : RepP P w K H Av ds vs) : RepP P w K H' Av ds vs := by
  have hT : ∀ a vs, SqT K H a vs → SqT K H' a vs := fun a vs z => z.imp (fun z => z.imp (k a _) fun ⟨o, e⟩ => ⟨o, k a _ e⟩) id
  exact h.map hT (fun a vs n z => ⟨n, z.imp (k a _) fun ⟨o, e⟩ => ⟨o, k a _ e⟩⟩) fun a ps n z => ⟨n, z.at hT fun o e => k a o e⟩
theorem new_keep {p : Addr} {o : HO} (n : H p = none) : ∀ b u, H b = some u → upd H p o b = some u := fun b u e => by rw [upd_ne (ne_of_none e n)]; exact e
end

section
variable {P : Program} {w : World} {K : PySem.W.Frag} {T T' : Addr → Prop} {env : Mp.Env} {σ : L2.St} {H H' : Hp}
theorem Rel.kept (R : Rel P w K T env σ H) (k : ∀ b o, H b = some o → H' b = some o) : Rel P w K T env σ H' where
  len := R.len
  ok := fun i => by
    have q := R.ok i
    have hT : ∀ a vs, SqT K H a vs → SqT K H' a vs := fun a vs z => z.imp (fun z => z.imp (k a _) fun ⟨o, e⟩ => ⟨o, k a _ e⟩) id
    have ow : ∀ a d, Own P w K H (Avd T env σ) a d → Own P w K H' (Avd T env σ) a d := fun a d h => by
      cases h with
      | lst e r => exact .lst (k _ _ e) (keep_repL k r)
      | dic e r => exact .dic (e.at hT fun o e => k a o e) (keep_repP k r)
    cases g : get env i with
    | un => exact trivial
    | fz d => rw [g] at q; obtain ⟨v, e1, r⟩ := q; exact ⟨v, e1, keep_rep k r⟩
    | ow d => rw [g] at q; obtain ⟨v, e1, r⟩ := q; exact ⟨v, e1, ow _ _ r⟩
    | lk d => rw [g] at q; obtain ⟨v, e1, r⟩ := q; exact ⟨v, e1, ow _ _ r⟩
    | rf d => rw [g] at q; obtain ⟨v, e1, r⟩ := q; exact ⟨v, e1, ow _ _ r⟩
  one := R.one
  apart := R.apart
  there := fun a h => by
    have := R.there a h
    cases q : H a with
    | none => exact absurd q this
    | some o => exact ne_none (k a o q)
theorem Go.kept (k : ∀ b o, H b = some o → H' b = some o) : Go T env σ H T env σ H' where
  frame := fun a o e _ => k a o e
  there := fun a h => by
    cases q : H a with
    | none => exact absurd q h
    | some o => exact ne_none (k a o q)
  muts := fun _ h => .inl h
  held := fun _ h => .inl h
  lks := fun _ _ h => ⟨h, rfl⟩
  rfs := fun _ d h => ⟨⟨d, h⟩, rfl⟩
  sub := fun _ h => h
  new := fun _ h => .inl h
def plus (T : Addr → Prop) (p : Addr) : Addr → Prop := fun a => T a ∨ a = p
theorem Go.fresh {p : Addr} {o : HO} (n : H p = none) : Go T env σ H (plus T p) env σ (upd H p o) where
  frame := fun a u e _ => new_keep n a u e
  there := fun a h => by
    cases q : H a with
    | none => exact absurd q h
    | some u => exact ne_none (new_keep n a u q)
  muts := fun _ h => .inl h
  held := fun _ h => .inl h
  lks := fun _ _ h => ⟨h, rfl⟩
  rfs := fun _ d h => ⟨⟨d, h⟩, rfl⟩
  sub := fun _ h => .inl h
  new := fun a h => h.elim .inl fun e => .inr (by rw [e]; exact n)
theorem Rel.fresh {p : Addr} {o : HO} (R : Rel P w K T env σ H) (n : H p = none) : Rel P w K (plus T p) env σ (upd H p o) where
  len := R.len
  ok := fun i => by
    have q := R.ok i
    have g : Go T env σ H (plus T p) env σ (upd H p o) := Go.fresh n
    have k := new_keep (o := o) n
    have ow : ∀ a d, Own P w K H (Avd T env σ) a d → Own P w K (upd H p o) (Avd (plus T p) env σ) a d := fun a d h => by
      cases h with
      | lst e r => exact .lst (k _ _ e) (r.step R g)
      | dic e r => exact .dic (e.at (g.tup R) fun o e => k a o e) (r.step R g)
    cases e : get env i with
    | un => exact trivial
    | fz d => rw [e] at q; obtain ⟨v, e1, r⟩ := q; exact ⟨v, e1, r.step R g⟩
    | ow d => rw [e] at q; obtain ⟨v, e1, r⟩ := q; exact ⟨v, e1, ow _ _ r⟩
    | lk d => rw [e] at q; obtain ⟨v, e1, r⟩ := q; exact ⟨v, e1, ow _ _ r⟩
    | rf d => rw [e] at q; obtain ⟨v, e1, r⟩ := q; exact ⟨v, e1, ow _ _ r⟩
  one := R.one
  apart := fun a h z => by
    rcases h with h | rfl
    · exact R.apart a h z
    · exact (R.heldMut z).ne n
  there := fun a h => by
    rcases h with h | rfl
    · have := R.there a h
      cases q : H a with
      | none => exact absurd q this
      | some u => exact ne_none (new_keep n a u q)
    · rw [upd_same]; exact fun z => nomatch z
theorem VOut.go {r : Res} {z : V} (R : Rel P w K T env σ H) (h : VOut P w K H (Avd T env σ) r z H') : ∃ T', Go T env σ H T' env σ H' ∧ Rel P w K T' env σ H' ∧ InF P w K T T' env σ H' r z := by
  cases r with
  | val d => exact ⟨T, Go.kept h.1.keep, R.kept h.1.keep, h.2⟩
  | new d =>
    obtain ⟨p, o, rfl, n, rfl, m⟩ := h
    have g : Go T env σ H (plus T p) env σ (upd H p o) := Go.fresh n
    refine ⟨plus T p, g, R.fresh n, p, rfl, .inr rfl, fun t => R.there p t n, ?_⟩
    cases m with
    | lst r => exact .lst upd_same (r.step R g)
    | dic e r => exact .dic e (r.step R g)
  | plc i => exact h.elim
end

section
variable {X : Cx}
def OpV (X : Cx) (f : Value → Value → Sem Value) (g : D → D → Option Res) : Prop :=
  ∀ (Av : Addr → Prop) (a b : D) (r : Res) (pins : List (Addr × Obj)) (s : Shared) (σ : L2.St) (H : Hp) (x y : V) (v u : Value) (Q : VK), Inv X pins σ H s → RelV x v → RelV y u →
    Use X.prog X.w X.K H Av a x → Use X.prog X.w X.K H Av b y → g a b = some r → (∀ z H', VOut X.prog X.w X.K H Av r z H' → Q z H') → wpAny (model X.prog X.w) X.A (f v u) (EP X pins σ Q) X.xe s
theorem vval {P : Program} {w : World} {K : PySem.W.Frag} {H : Hp} {Av : Addr → Prop} {d : D} {z : V} (h : Rep P w K H Av d z) : VOut P w K H Av (.val d) z H := ⟨.inl rfl, h⟩
theorem vtup {P : Program} {w : World} {K : PySem.W.Frag} {H : Hp} {Av : Addr → Prop} {ds : List D} {vs : List V} {p : Addr} (n : H p = none) (h : RepL P w K H Av ds vs) :
    VOut P w K H Av (.val (.tuple ds)) (.ref p) (upd H p (.tup vs)) :=
  ⟨.inr ⟨p, vs, n, rfl⟩, .tup (.inl (.inl upd_same)) (keep_repL (new_keep n) h)⟩
theorem vlst {P : Program} {w : World} {K : PySem.W.Frag} {H : Hp} {Av : Addr → Prop} {ds : List D} {vs : List V} {p : Addr} (n : H p = none) (h : RepL P w K H Av ds vs) :
    VOut P w K H Av (.new (.list ds)) (.ref p) (upd H p (.lst vs)) := ⟨p, _, rfl, n, rfl, .lst h⟩
theorem okN_le {n : Nat} (h : okN n = true) : n ≤ sizeLine := by
  have := of_decide_eq_true h
  rw [sizeLine_eq]
  exact this
/-- two lists that are read, joined -/
theorem cat_lists {pins : List (Addr × Obj)} {s : Shared} {σ : L2.St} {H : Hp} {l b : Addr} {xs ys : List V} {Q : VK} (I : Inv X pins σ H s) (h1 : SqL X.K H l xs) (h2 : SqL X.K H b ys) (hz : xs.length + ys.length ≤ sizeLine)
    (q : ∀ p, H p = none → Q (.ref p) (upd H p (.lst (xs ++ ys)))) : wpAny (model X.prog X.w) X.A (binaryOp .Add (.ref l) (.ref b)) (EP X pins σ Q) X.xe s := by
  obtain ⟨vs, r1, p1, z1⟩ := I.list h1
  obtain ⟨us, r2, p2, z2⟩ := I.list h2
  obtain ⟨⟨c1, d1, t1, s1⟩, g1, k1, n1, m1⟩ := p1.isList
  obtain ⟨⟨c2, d2, t2, s2⟩, g2, k2, n2, m2⟩ := p2.isList
  dsimp only at k1 m1 k2 m2
  cases k1; cases m1; cases k2; cases m2
  have l1 := r1.length
  have l2 := r2.length
  have sz : vs.toArray.size + us.toArray.size ≤ sizeLine := by rw [List.size_toArray, List.size_toArray]; omega
  refine concat_meets ⟨_, g1, rfl⟩ ⟨_, g2, rfl⟩ noFill_list_add seq_list_add PySem.F.slot_list_add PySem.F.entry_list_add (PySem.F.args_list_add_2 _ _)
    (list_addW l b vs.toArray us.toArray n1 n2 d1 d2 s1 s2 sz) ⟨g1, g2, ?_⟩
  have j : vs.toArray ++ us.toArray = (vs ++ us).toArray := by simp
  rw [j]
  exact ⟨.ref _, _, I.lnew (t' := s.toks) (r1.append r2) (by rw [List.length_append]; exact hz), rfl, q _ I.fresh⟩
theorem bin_ok (op : Operator) : OpV X (binaryOp op) (binD op) := by
  intro Av a b r pins s σ H x y v u Q I rx ry ua ub e q
  unfold binD at e
  split at e
  · cases ua.int; cases ub.int; cases e
    exact op_add pins s σ H _ _ v u Q I rx ry ⟨_, _, rfl, rfl, q _ _ (vval (.int _))⟩
  · cases ua.int; cases ub.int; cases e
    exact op_sub pins s σ H _ _ v u Q I rx ry ⟨_, _, rfl, rfl, q _ _ (vval (.int _))⟩
  · cases ua.int; cases ub.int
    split at e
    · rename_i i j c
      cases e
      refine op_mul pins s σ H _ _ v u Q I rx ry ⟨_, _, rfl, rfl, ?_, q _ _ (vval (.int _))⟩
      unfold mulOk at c
      simp only [Bool.or_eq_true, Bool.and_eq_true, decide_eq_true_eq] at c
      exact c
    · cases e
  · cases ua.int; cases ub.int
    split at e
    · rename_i c
      cases e
      exact op_mod pins s σ H _ _ v u Q I rx ry ⟨_, _, rfl, rfl, of_decide_eq_true c, q _ _ (vval (.int _))⟩
    · cases e
  · cases ua.int; cases ub.int
    split at e
    · rename_i c
      cases e
      have c := Bool.and_eq_true_iff.mp c
      exact op_fdiv pins s σ H _ _ v u Q I rx ry ⟨_, _, rfl, rfl, ⟨of_decide_eq_true c.1, of_decide_eq_true c.2⟩, q _ _ (vval (.int _))⟩
    · cases e
  · cases ua.int; cases ub.int
    split at e
    · rename_i c
      cases e
      have c := Bool.and_eq_true_iff.mp c
      have c1 := Bool.and_eq_true_iff.mp c.1
      refine op_pow pins s σ H _ _ v u Q I rx ry ⟨_, _, rfl, rfl, ⟨of_decide_eq_true c1.1, ?_, of_decide_eq_true c.2⟩, q _ _ (vval (.int _))⟩
      have := of_decide_eq_true c1.2
      omega
    · cases e
  · obtain ⟨l, vs, rfl, h1, r1⟩ := ua.lst
    obtain ⟨m, us, rfl, h2, r2⟩ := ub.lst
    split at e
    · rename_i c
      cases e
      cases rx; cases ry
      have z := okN_le c
      rw [r1.length, r2.length] at z
      exact cat_lists I h1 h2 z fun p n => q _ _ (vlst n (r1.append r2))
    · cases e
  · obtain ⟨l, vs, rfl, h1, r1⟩ := ua.tup
    obtain ⟨m, us, rfl, h2, r2⟩ := ub.tup
    split at e
    · rename_i c
      cases e
      have z := okN_le c
      rw [r1.length, r2.length] at z
      refine op_catA pins s σ H _ _ v u Q I rx ry ⟨l, m, vs, us, rfl, rfl, h1, h2, z, fun e => ?_, fun _ e => ?_, fun _ _ p n => q _ _ (vtup n (r1.append r2))⟩
      · subst e
        cases r1
        exact q _ _ (vval (.tup h2 r2))
      · subst e
        cases r2
        rw [List.append_nil] at q
        exact q _ _ (vval (.tup h1 r1))
    · cases e
  · obtain ⟨l, vs, rfl, h1, r1⟩ := ua.tup
    cases ub.int
    split at e
    · rename_i c
      cases e
      simp only [Bool.and_eq_true, decide_eq_true_eq] at c
      obtain ⟨⟨⟨c1, c2⟩, c3⟩, c4⟩ := c
      have hl := r1.length
      refine op_repT pins s σ H _ _ v u Q I rx ry ⟨l, _, vs, rfl, rfl, h1, fun z => ?_, c1, c2, by omega, fun p n => q _ _ (vtup n (r1.rep _))⟩
      subst z
      cases r1
      simp at c3
    · cases e
  · cases e
end
end Mp

/-! Mp9: keys, dicts. -/
namespace Mp
open PySem PySem.Spec PyProof.Rows L2

/-! ### data as keys -/
mutual
def keyN : D → NestedKey
  | .none => .none
  | .bool b => .num (if b = true then 1 else 0)
  | .int i => .num i
  | .str x => .text x
  | .tuple xs => .tup (keyNs xs)
  | .list _ => .none
  | .dict _ => .none
def keyNs : List D → List NestedKey
  | [] => []
  | x :: xs => keyN x :: keyNs xs
end
mutual
theorem eqv_beq : ∀ a b : D, nestK a = true → nestK b = true → PyData.eqv a b = NestedKey.beq (keyN a) (keyN b)
  | .none, b, _, h => by cases b <;> first | (unfold nestK at h; cases h; done) | simp [PyData.eqv, keyN, NestedKey.beq]
  | .bool a, b, _, h => by
    cases b with
    | none => simp [PyData.eqv, keyN, NestedKey.beq]
    | bool b => cases a <;> cases b <;> simp [PyData.eqv, keyN, NestedKey.beq]
    | int j => simp [PyData.eqv, keyN, NestedKey.beq]; cases a <;> rfl
    | str x => simp [PyData.eqv, keyN, NestedKey.beq]
    | tuple x => simp [PyData.eqv, keyN, NestedKey.beq]
    | list x => unfold nestK at h; cases h
    | dict x => unfold nestK at h; cases h
  | .int i, b, _, h => by
    cases b with
    | none => simp [PyData.eqv, keyN, NestedKey.beq]
    | bool b => simp [PyData.eqv, keyN, NestedKey.beq]; cases b <;> rfl
    | int j => simp [PyData.eqv, keyN, NestedKey.beq]; rfl
    | str x => simp [PyData.eqv, keyN, NestedKey.beq]
    | tuple x => simp [PyData.eqv, keyN, NestedKey.beq]
    | list x => unfold nestK at h; cases h
    | dict x => unfold nestK at h; cases h
  | .str x, b, _, h => by
    cases b with
    | none => simp [PyData.eqv, keyN, NestedKey.beq]
    | bool b => simp [PyData.eqv, keyN, NestedKey.beq]
    | int j => simp [PyData.eqv, keyN, NestedKey.beq]
    | str y => simp [PyData.eqv, keyN, NestedKey.beq]; rfl
    | tuple x => simp [PyData.eqv, keyN, NestedKey.beq]
    | list x => unfold nestK at h; cases h
    | dict x => unfold nestK at h; cases h
  | .tuple xs, b, h1, h => by
    cases b with
    | none => simp [PyData.eqv, keyN, NestedKey.beq]
    | bool b => simp [PyData.eqv, keyN, NestedKey.beq]
    | int j => simp [PyData.eqv, keyN, NestedKey.beq]
    | str y => simp [PyData.eqv, keyN, NestedKey.beq]
    | tuple ys =>
      unfold nestK at h1 h
      simp only [PyData.eqv, keyN, NestedKey.beq]
      exact eqv_beqs xs ys h1 h
    | list x => unfold nestK at h; cases h
    | dict x => unfold nestK at h; cases h
  | .list xs, b, h1, h => by unfold nestK at h1; cases h1
  | .dict xs, b, h1, h => by unfold nestK at h1; cases h1
theorem eqv_beqs : ∀ a b : List D, nestKs a = true → nestKs b = true → PyData.eqvAll a b = NestedKey.beqAll (keyNs a) (keyNs b)
  | [], [], _, _ => by simp [PyData.eqvAll, keyNs, NestedKey.beqAll]
  | [], _ :: _, _, _ => by simp [PyData.eqvAll, keyNs, NestedKey.beqAll]
  | _ :: _, [], _, _ => by simp [PyData.eqvAll, keyNs, NestedKey.beqAll]
  | x :: xs, y :: ys, h1, h2 => by
    unfold nestKs at h1 h2
    have q1 := Bool.and_eq_true_iff.mp h1
    have q2 := Bool.and_eq_true_iff.mp h2
    simp only [PyData.eqvAll, keyNs, NestedKey.beqAll]
    rw [eqv_beq x y q1.1 q2.1, eqv_beqs xs ys q1.2 q2.2]
end
theorem eqv_key {a b : D} (h1 : nestK a = true) (h2 : nestK b = true) : PyData.eqv a b = decide (keyN a = keyN b) := by rw [eqv_beq a b h1 h2, NestedKey.decide_eq]
mutual
theorem keyN_depth : ∀ a : D, nestK a = true → (keyN a).depth = PyData.depth a
  | .none, _ => by simp [keyN, NestedKey.depth, PyData.depth]
  | .bool _, _ => by simp [keyN, NestedKey.depth, PyData.depth]
  | .int _, _ => by simp [keyN, NestedKey.depth, PyData.depth]
  | .str _, _ => by simp [keyN, NestedKey.depth, PyData.depth]
  | .tuple xs, h => by
    unfold nestK at h
    simp only [keyN, NestedKey.depth, PyData.depth]
    rw [keyNs_depth xs h]
  | .list xs, h => by unfold nestK at h; cases h
  | .dict xs, h => by unfold nestK at h; cases h
theorem keyNs_depth : ∀ a : List D, nestKs a = true → NestedKey.depthAll (keyNs a) = PyData.depthAll a
  | [], _ => by simp [keyNs, NestedKey.depthAll, PyData.depthAll]
  | x :: xs, h => by
    unfold nestKs at h
    have q := Bool.and_eq_true_iff.mp h
    simp only [keyNs, NestedKey.depthAll, PyData.depthAll]
    rw [keyN_depth x q.1, keyNs_depth xs q.2]
end
theorem tupK_nest {k : D} (h : tupK k = true) : nestK k = true ∧ (keyN k).depth ≤ 8 ∧ ∃ xs, k = .tuple xs := by
  cases k with
  | tuple xs =>
    unfold tupK at h
    have q := Bool.and_eq_true_iff.mp h
    have n : nestK (.tuple xs) = true := by unfold nestK; exact q.1
    exact ⟨n, by rw [keyN_depth _ n]; exact of_decide_eq_true q.2, xs, rfl⟩
  | _ => cases h
def keyS : D → Key
  | .int i => .inl i
  | .str x => .inr x
  | _ => .inl 0
theorem eqv_keyS {a b : D} (h1 : scalK a = true) (h2 : scalK b = true) : PyData.eqv a b = decide (keyS a = keyS b) := by
  cases a <;> first | (cases h1; done) | skip
  all_goals (cases b <;> first | (cases h2; done) | skip)
  all_goals simp [PyData.eqv, keyS]
  all_goals rfl

section
variable {P : Program} {w : World} {K : PySem.W.Frag} {H H' : Hp} {Av : Addr → Prop}
theorem Rep.keyS {k : D} {v : V} (h : Rep P w K H Av k v) (s : scalK k = true) : v = kV (keyS k) := by
  cases h <;> first | rfl | cases s
mutual
theorem Rep.keyV : ∀ (k : D) (v : V), Rep P w K H Av k v → nestK k = true → KeyV K H (keyN k) v
  | .none, v, h, _ => by cases h; unfold keyN; exact .non
  | .bool b, v, h, _ => by cases h; unfold keyN; exact .bl b
  | .int i, v, h, _ => by cases h; unfold keyN; exact .int i
  | .str x, v, h, _ => by cases h; unfold keyN; exact .str x
  | .tuple xs, v, h, n => by
    cases h with
    | tup s r => unfold keyN; unfold nestK at n; exact .tup s (RepL.keyV xs _ r n)
  | .list xs, v, h, n => by unfold nestK at n; cases n
  | .dict xs, v, h, n => by unfold nestK at n; cases n
theorem RepL.keyV : ∀ (ks : List D) (vs : List V), RepL P w K H Av ks vs → nestKs ks = true → KeyVs K H (keyNs ks) vs
  | [], vs, h, _ => by cases h; unfold keyNs; exact .nil
  | x :: xs, vs, h, n => by
    cases h with
    | cons h t =>
      unfold nestKs at n
      have q := Bool.and_eq_true_iff.mp n
      unfold keyNs
      exact .cons (Rep.keyV x _ h q.1) (RepL.keyV xs _ t q.2)
end
end
section
variable {X : Cx} {pins : List (Addr × Obj)} {σ : L2.St} {H : Hp} {s : Shared}
mutual
theorem KeyV.nested (I : Inv X pins σ H s) : ∀ (k : NestedKey) (v : V) (u : Value), KeyV X.K H k v → RelV v u → NestedIs s.heap k u
  | .none, v, u, h, r => by
    cases h
    have e : u = Value.none := r
    rw [e]
    exact .none
  | .num i, v, u, h, r => by
    generalize hk : NestedKey.num i = k at h
    cases h with
    | bl b =>
      have e : u = Value.bool b := r
      rw [e]
      exact .bool rfl
    | int j =>
      obtain ⟨t, rfl⟩ := r
      exact .int j t
    | non => cases hk
    | str x => cases hk
    | tup a b => cases hk
  | .text x, v, u, h, r => by
    cases h
    obtain ⟨t, rfl⟩ := r
    exact .text x t
  | .tup ks, v, u, h, r => by
    cases h with
    | tup sq kv =>
      rename_i a vs
      have e : u = Value.ref a := r
      rw [e]
      obtain ⟨its, rv, ⟨o, ho, hc, n, hd⟩, _⟩ := I.tuple sq
      refine .tup ho hc hd ?_
      have := KeyVs.nested I ks vs its kv rv
      simpa using this
theorem KeyVs.nested (I : Inv X pins σ H s) : ∀ (ks : List NestedKey) (vs : List V) (us : List Value), KeyVs X.K H ks vs → Vals vs us → NestedAll s.heap ks us
  | [], vs, us, h, r => by
    cases h
    cases r
    exact .nil
  | k :: ks, vs, us, h, r => by
    cases h with
    | cons h t =>
      cases r with
      | cons r rt => exact .cons (KeyV.nested I k _ _ h r) (KeyVs.nested I ks _ _ t rt)
end
end
end Mp

/-! Mp10: dicts read and written. -/
namespace Mp
open PySem PySem.Spec PyProof.Rows L2

/-! ### entries of any kind -/
section
variable {P : Program} {w : World} {K : PySem.W.Frag} {H : Hp} {Av : Addr → Prop} {α κ : Type} [DecidableEq κ]
theorem find_any {β : Type} (f : β → Bool) : ∀ l : List β, (l.find? f).isSome = l.any f
  | [] => rfl
  | x :: l => by
    rw [List.find?_cons, List.any_cons]
    cases h : f x with
    | true => rfl
    | false => rw [Bool.false_or]; exact find_any f l
theorem gen_find {E : V × V → α → Prop} {kx : α → κ} {kd : D → κ} {vx : α → Value} {ok : D → Bool} {k : D}
    (hk : ∀ d p x, ok d = true → Rep P w K H Av d p.1 → E p x → kx x = kd d) (he : ∀ a b, ok a = true → ok b = true → PyData.eqv a b = decide (kd a = kd b)) (hv : ∀ p x, E p x → RelV p.2 (vx x)) (o : ok k = true) :
    ∀ {kvs : List (D × D)} {ps : List (V × V)} {xs : List α}, RepP P w K H Av kvs ps → Paired E ps xs → (kvs.all fun p => ok p.1) = true →
      (match kvs.find? fun p => PyData.eqv p.1 k with
        | some p => ∃ x v, xs.find? (fun x => decide (kx x = kd k)) = some x ∧ RelV v (vx x) ∧ Rep P w K H Av p.2 v
        | none => xs.find? (fun x => decide (kx x = kd k)) = none)
  | [], _, _, .nil, .nil, _ => rfl
  | (c, d) :: kvs, _, _, .cons h1 h2 t, .cons e et, a => by
    rw [List.all_cons] at a
    have q := Bool.and_eq_true_iff.mp a
    have z := hk _ _ _ q.1 h1 e
    have ih := gen_find hk he hv o t et q.2
    rw [List.find?_cons, List.find?_cons]
    dsimp only
    rw [he c k q.1 o, z]
    by_cases b : kd c = kd k
    · rw [decide_eq_true b]
      exact ⟨_, _, rfl, hv _ _ e, h2⟩
    · rw [decide_eq_false b]
      exact ih
theorem gen_any {E : V × V → α → Prop} {kx : α → κ} {kd : D → κ} {ok : D → Bool} {k : D}
    (hk : ∀ d p x, ok d = true → Rep P w K H Av d p.1 → E p x → kx x = kd d) (he : ∀ a b, ok a = true → ok b = true → PyData.eqv a b = decide (kd a = kd b)) (o : ok k = true) :
    ∀ {kvs : List (D × D)} {ps : List (V × V)} {xs : List α}, RepP P w K H Av kvs ps → Paired E ps xs → (kvs.all fun p => ok p.1) = true → dHas kvs k = xs.any fun x => decide (kx x = kd k)
  | [], _, _, .nil, .nil, _ => rfl
  | (c, d) :: kvs, _, _, .cons h1 h2 t, .cons e et, a => by
    rw [List.all_cons] at a
    have q := Bool.and_eq_true_iff.mp a
    have z := hk _ _ _ q.1 h1 e
    have ih := gen_any hk he o t et q.2
    unfold dHas at ih ⊢
    rw [List.any_cons, List.any_cons, ih]
    dsimp only
    rw [he c k q.1 o, z]
theorem gen_map {E : V × V → α → Prop} {kx : α → κ} {kd : D → κ} {ok : D → Bool} {k d : D} {v : V} {rp : α → α}
    (hk : ∀ d p x, ok d = true → Rep P w K H Av d p.1 → E p x → kx x = kd d) (he : ∀ a b, ok a = true → ok b = true → PyData.eqv a b = decide (kd a = kd b)) (o : ok k = true)
    (hr : ∀ p x, E p x → E (p.1, v) (rp x)) (rd : Rep P w K H Av d v) :
    ∀ {kvs : List (D × D)} {ps : List (V × V)} {xs : List α}, RepP P w K H Av kvs ps → Paired E ps xs → (kvs.all fun p => ok p.1) = true →
      ∃ ps', RepP P w K H Av (kvs.map fun p => if PyData.eqv p.1 k then (p.1, d) else p) ps' ∧ Paired E ps' (xs.map fun x => if kx x = kd k then rp x else x)
  | [], _, _, .nil, .nil, _ => ⟨[], .nil, .nil⟩
  | (c, b) :: kvs, _, _, .cons h1 h2 t, .cons e et, a => by
    rw [List.all_cons] at a
    have q := Bool.and_eq_true_iff.mp a
    have z := hk _ _ _ q.1 h1 e
    obtain ⟨ps', i1, i2⟩ := gen_map hk he o hr rd t et q.2
    rw [List.map_cons, List.map_cons]
    dsimp only
    rw [he c k q.1 o, z]
    by_cases b : kd c = kd k
    · rw [decide_eq_true b, if_pos rfl, if_pos b]
      exact ⟨_, .cons h1 rd i1, .cons (hr _ _ e) i2⟩
    · rw [decide_eq_false b, if_neg Bool.false_ne_true, if_neg b]
      exact ⟨_, .cons h1 h2 i1, .cons e i2⟩
theorem RepP.snoc {k d : D} {kv v : V} (h1 : Rep P w K H Av k kv) (h2 : Rep P w K H Av d v) : ∀ {kvs : List (D × D)} {ps : List (V × V)}, RepP P w K H Av kvs ps → RepP P w K H Av (kvs ++ [(k, d)]) (ps ++ [(kv, v)])
  | _, _, .nil => .cons h1 h2 .nil
  | _, _, .cons a b t => .cons a b (RepP.snoc h1 h2 t)
theorem gen_drop {E : V × V → α → Prop} {kx : α → κ} {kd : D → κ} {ok : D → Bool} {k : D}
    (hk : ∀ d p x, ok d = true → Rep P w K H Av d p.1 → E p x → kx x = kd d) (he : ∀ a b, ok a = true → ok b = true → PyData.eqv a b = decide (kd a = kd b)) (o : ok k = true) :
    ∀ {kvs : List (D × D)} {ps : List (V × V)} {xs : List α}, RepP P w K H Av kvs ps → Paired E ps xs → (kvs.all fun p => ok p.1) = true →
      ∃ ps', RepP P w K H Av (dDrop kvs k) ps' ∧ Paired E ps' (xs.filter fun x => decide (kx x ≠ kd k))
  | [], _, _, .nil, .nil, _ => ⟨[], .nil, .nil⟩
  | (c, b) :: kvs, _, _, .cons h1 h2 t, .cons e et, a => by
    rw [List.all_cons] at a
    have q := Bool.and_eq_true_iff.mp a
    have z := hk _ _ _ q.1 h1 e
    obtain ⟨ps', i1, i2⟩ := gen_drop hk he o t et q.2
    unfold dDrop at i1 ⊢
    rw [List.filter_cons, List.filter_cons]
    dsimp only
    rw [he c k q.1 o, z]
    by_cases b : kd c = kd k
    · rw [decide_eq_true b, decide_eq_false (fun n => n b)]
      exact ⟨_, i1, i2⟩
    · rw [decide_eq_false b, decide_eq_true b]
      exact ⟨_, .cons h1 h2 i1, .cons e i2⟩
end

/-! ### the two kinds -/
section
variable {P : Program} {w : World} {K : PySem.W.Frag} {H : Hp} {Av : Addr → Prop}
theorem entS_key (d : D) (p : V × V) (x : Key × Value) (o : scalK d = true) (r : Rep P w K H Av d p.1) (e : EntS p x) : x.1 = keyS d := by
  have h := r.keyS o
  rw [e.1] at h
  exact kV_inj h
theorem RepP.allN : ∀ {kvs : List (D × D)} {ps : List (V × V)} {xs : List (NestedKey × Addr × Value)}, RepP P w K H Av kvs ps → Paired (EntN K H) ps xs → (kvs.all fun p => scalK p.1) = true → kvs = []
  | [], _, _, _, _, _ => rfl
  | (c, d) :: kvs, _, _, .cons h1 h2 t, .cons e et, a => by
    rw [List.all_cons] at a
    have q := Bool.and_eq_true_iff.mp a
    have h := h1.keyS q.1
    have z := (show _ = V.ref _ from e.1).symm.trans h
    cases hk : keyS c <;> rw [hk] at z <;> cases z
theorem RepP.allS : ∀ {kvs : List (D × D)} {ps : List (V × V)} {xs : List (Key × Value)}, RepP P w K H Av kvs ps → Paired EntS ps xs → (kvs.all fun p => tupK p.1) = true → kvs = []
  | [], _, _, _, _, _ => rfl
  | (c, d) :: kvs, _, _, .cons h1 h2 t, .cons e et, a => by
    rw [List.all_cons] at a
    have q := Bool.and_eq_true_iff.mp a
    obtain ⟨_, _, xs, rfl⟩ := tupK_nest q.1
    cases h1 with
    | tup s r =>
      have h := e.1
      generalize hk : kV _ = y at h
      dsimp only at h
      subst h
      unfold kV at hk
      split at hk <;> cases hk
end
section
variable {X : Cx} {pins : List (Addr × Obj)} {σ : L2.St} {H : Hp} {s : Shared} {Av : Addr → Prop} {a : Addr} {ps : List (V × V)} {kvs : List (D × D)}
theorem entN_key (I : Inv X pins σ H s) (d : D) (p : V × V) (x : NestedKey × Addr × Value) (o : tupK d = true) (r : Rep X.prog X.w X.K H Av d p.1) (e : EntN X.K H p x) : x.1 = keyN d := by
  obtain ⟨n, _, _⟩ := tupK_nest o
  have k1 := Rep.keyV d _ r n
  have k2 := e.2.1
  rw [e.1] at k1 k2
  exact NestedIs.inj _ _ _ (KeyV.nested I _ _ (.ref x.2.1) k2 rfl) (KeyV.nested I _ _ (.ref x.2.1) k1 rfl)
theorem obj_at (I : Inv X pins σ H s) {o : Obj} (h : H a = some (objAt a o)) : s.heap.get? a = some o := (I.hok a _ h).1
theorem scal_view (I : Inv X pins σ H s) (m : DictM X.prog X.w X.K H a ps) (r : RepP X.prog X.w X.K H Av kvs ps) (h : (kvs.all fun p => scalK p.1) = true) :
    (a == sysModules) = false ∧ ps.length ≤ sizeLine ∧ ∃ vs, s.heap.DictOf (mixKind X.prog X.w) a vs ∧ Paired EntS ps vs := by
  obtain ⟨o, es, ep, h1, h2, h3, h4, h5, h6⟩ := m
  refine ⟨h2, h5, ?_⟩
  have g := obj_at I h1
  rcases h6 with ⟨vs, h6, h7⟩ | ⟨xs, h6, h7, h8⟩
  · exact ⟨vs, h6 _ g, h7⟩
  · have e := r.allN h8 h
    subst e
    cases r
    cases h8
    have e0 : es = #[] := by
      apply Array.ext'
      rw [h6]
      rfl
    subst e0
    exact ⟨[], ⟨o, #[], ep, g, h3, h4, fun e he => (by simp at he), .nil, .nil⟩, .nil⟩
theorem tup_view (I : Inv X pins σ H s) (m : DictM X.prog X.w X.K H a ps) (r : RepP X.prog X.w X.K H Av kvs ps) (h : (kvs.all fun p => tupK p.1) = true) :
    (a == sysModules) = false ∧ ps.length ≤ sizeLine ∧ ∃ xs, s.heap.DictOfH (nestedKind X.prog X.w) a xs ∧ Paired (EntN X.K H) ps xs := by
  obtain ⟨o, es, ep, h1, h2, h3, h4, h5, h6⟩ := m
  refine ⟨h2, h5, ?_⟩
  have g := obj_at I h1
  rcases h6 with ⟨vs, h6, h7⟩ | ⟨xs, h6, h7, h8⟩
  · have e := r.allS h7 h
    subst e
    cases r
    cases h7
    obtain ⟨o', es', ep', g', k3, k4, _, k5, _⟩ := h6 _ g
    rw [g] at g'
    cases g'
    rw [h4] at k4
    cases k4
    generalize hl : es.toList = l at k5
    cases k5
    exact ⟨[], ⟨o, es, ep, g, h3, h4, by rw [hl]; rfl, (fun x hx => by simp at hx), .nil⟩, .nil⟩
  · refine ⟨xs, ⟨o, es, ep, g, h3, h4, h6, fun x hx => ?_, h7⟩, h8⟩
    have : ∃ p, EntN X.K H p x := by
      clear h6 h7 h5 r
      induction h8 with
      | nil => simp at hx
      | cons e t ih =>
        rcases List.mem_cons.mp hx with rfl | hx
        · exact ⟨_, e⟩
        · exact ih hx
    obtain ⟨p, e⟩ := this
    have k := e.2.1
    rw [e.1] at k
    exact ⟨KeyV.nested I _ _ _ k rfl, e.2.2.1⟩
theorem key_is (I : Inv X pins σ H s) {k : D} {v : V} {u : Value} (r : Rep X.prog X.w X.K H Av k v) (o : tupK k = true) (rv : RelV v u) : ∃ b, u = .ref b ∧ v = .ref b ∧ (nestedKind X.prog X.w).is s.heap (keyN k) b := by
  obtain ⟨n, dp, xs, rfl⟩ := tupK_nest o
  have kv := Rep.keyV _ _ r n
  cases r with
  | tup sq rl =>
    rename_i b vs
    have e : u = Value.ref b := rv
    subst e
    exact ⟨b, rfl, rfl, KeyV.nested I _ _ _ kv rfl, dp⟩
theorem kvOk_or {k : D} (h : kvOk kvs k = true) : (scalK k = true ∧ (kvs.all fun p => scalK p.1) = true) ∨ (tupK k = true ∧ (kvs.all fun p => tupK p.1) = true) := by
  unfold kvOk at h
  rcases Bool.or_eq_true_iff.mp h with h | h
  · exact .inl (Bool.and_eq_true_iff.mp h)
  · exact .inr (Bool.and_eq_true_iff.mp h)
theorem dGet_find (kvs : List (D × D)) (k : D) : dGet kvs k = (kvs.find? fun p => PyData.eqv p.1 k).map (·.2) := rfl
theorem dHas_get (kvs : List (D × D)) (k : D) : dHas kvs k = (dGet kvs k).isSome := by
  unfold dHas dGet
  induction kvs with
  | nil => rfl
  | cons p r ih =>
    rw [List.any_cons, List.find?_cons]
    cases h : PyData.eqv p.1 k with
    | true => rfl
    | false => rw [Bool.false_or]; exact ih
section
variable {A : Around} {E : Value → Shared → Prop} {k : D} {y : V} {u : Value}
/-- d[k] -/
theorem dict_get (hu : A.units + 10 < cLine) (I : Inv X pins σ H s) (m : DictM X.prog X.w X.K H a ps) (r : RepP X.prog X.w X.K H Av kvs ps) (ok : kvOk kvs k = true) (rk : Rep X.prog X.w X.K H Av k y) (ry : RelV y u) {d : D} (g : dGet kvs k = some d)
    {Q : Value → Shared → Prop} (q : ∀ v u' s', Inv X pins σ H s' → RelV v u' → Rep X.prog X.w X.K H Av d v → Q u' s') : wpAny (model X.prog X.w) A (getItem (.ref a) u) Q E s := by
  obtain ⟨p, hf, rfl⟩ := Option.map_eq_some_iff.mp g
  rcases kvOk_or ok with ⟨o1, o2⟩ | ⟨o1, o2⟩
  · obtain ⟨hs, _, vs, dd, pe⟩ := scal_view I m r o2
    have f := gen_find (kx := fun x : Key × Value => x.1) (vx := fun x => x.2) entS_key (fun a b h1 h2 => eqv_keyS h1 h2) (fun p x e => e.2) o1 r pe o2
    rw [hf] at f
    obtain ⟨x, v, f1, f2, f3⟩ := f
    have e : valueAt vs (keyS k) = some x.2 := by unfold valueAt; rw [f1]; rfl
    have ey := rk.keyS o1
    subst ey
    exact wpAny_getItem_of (kV_is ry) dd.mapOf e (q v _ _ (I.tok _) f2 f3)
  · obtain ⟨hs, _, xs, dd, pe⟩ := tup_view I m r o2
    have f := gen_find (kx := fun x : NestedKey × Addr × Value => x.1) (vx := fun x => x.2.2) (fun d p x => entN_key I d p x) (fun a b h1 h2 => eqv_key (tupK_nest h1).1 (tupK_nest h2).1) (fun p x e => e.2.2.2) o1 r pe o2
    rw [hf] at f
    obtain ⟨x, v, f1, f2, f3⟩ := f
    have e : atKey xs (keyN k) = some x.2 := by unfold atKey; rw [f1]; rfl
    obtain ⟨b, rfl, rfl, kn⟩ := key_is I rk o1 ry
    exact wpAny_getItem_heap (show A.units + 1 + 8 < cLine by omega) kn dd e (q v _ _ (I.tok _) f2 f3)
/-- k in d, k not in d -/
theorem dict_in (hu : A.units + 10 < cLine) (I : Inv X pins σ H s) (m : DictM X.prog X.w X.K H a ps) (r : RepP X.prog X.w X.K H Av kvs ps) (ok : kvOk kvs k = true) (rk : Rep X.prog X.w X.K H Av k y) (ry : RelV y u)
    {Q : Value → Shared → Prop} (q : ∀ s', Inv X pins σ H s' → Q (.bool (dHas kvs k)) s') : wpAny (model X.prog X.w) A (compareOp .In u (.ref a)) Q E s := by
  rcases kvOk_or ok with ⟨o1, o2⟩ | ⟨o1, o2⟩
  · obtain ⟨hs, _, vs, dd, pe⟩ := scal_view I m r o2
    have f := gen_any (kx := fun x : Key × Value => x.1) entS_key (fun a b h1 h2 => eqv_keyS h1 h2) o1 r pe o2
    have ey := rk.keyS o1
    subst ey
    refine wpAny_in_of (kV_is ry) hs dd.mapOf ?_
    have e : (valueAt vs (keyS k)).isSome = dHas kvs k := by
      rw [f]
      unfold valueAt
      rw [Option.isSome_map, find_any]
    rw [e]
    exact q _ (I.tok _)
  · obtain ⟨hs, _, xs, dd, pe⟩ := tup_view I m r o2
    have f := gen_any (kx := fun x : NestedKey × Addr × Value => x.1) (fun d p x => entN_key I d p x) (fun a b h1 h2 => eqv_key (tupK_nest h1).1 (tupK_nest h2).1) o1 r pe o2
    obtain ⟨b, rfl, rfl, kn⟩ := key_is I rk o1 ry
    refine wpAny_in_heap (show A.units + 1 + 8 < cLine by omega) kn hs dd ?_
    have e : (atKey xs (keyN k)).isSome = dHas kvs k := by
      rw [f]
      unfold atKey
      rw [Option.isSome_map, find_any]
    rw [e]
    exact q _ (I.tok _)
theorem dict_notIn (hu : A.units + 10 < cLine) (I : Inv X pins σ H s) (m : DictM X.prog X.w X.K H a ps) (r : RepP X.prog X.w X.K H Av kvs ps) (ok : kvOk kvs k = true) (rk : Rep X.prog X.w X.K H Av k y) (ry : RelV y u)
    {Q : Value → Shared → Prop} (q : ∀ s', Inv X pins σ H s' → Q (.bool (!dHas kvs k)) s') : wpAny (model X.prog X.w) A (compareOp .NotIn u (.ref a)) Q E s := by
  rcases kvOk_or ok with ⟨o1, o2⟩ | ⟨o1, o2⟩
  · obtain ⟨hs, _, vs, dd, pe⟩ := scal_view I m r o2
    have f := gen_any (kx := fun x : Key × Value => x.1) entS_key (fun a b h1 h2 => eqv_keyS h1 h2) o1 r pe o2
    have ey := rk.keyS o1
    subst ey
    refine wpAny_notIn_of (kV_is ry) hs dd.mapOf ?_
    have e : (valueAt vs (keyS k)).isSome = dHas kvs k := by
      rw [f]
      unfold valueAt
      rw [Option.isSome_map, find_any]
    rw [e]
    exact q _ (I.tok _)
  · obtain ⟨hs, _, xs, dd, pe⟩ := tup_view I m r o2
    have f := gen_any (kx := fun x : NestedKey × Addr × Value => x.1) (fun d p x => entN_key I d p x) (fun a b h1 h2 => eqv_key (tupK_nest h1).1 (tupK_nest h2).1) o1 r pe o2
    obtain ⟨b, rfl, rfl, kn⟩ := key_is I rk o1 ry
    refine wpAny_notIn_heap (show A.units + 1 + 8 < cLine by omega) kn hs dd ?_
    have e : (atKey xs (keyN k)).isSome = dHas kvs k := by
      rw [f]
      unfold atKey
      rw [Option.isSome_map, find_any]
    rw [e]
    exact q _ (I.tok _)
end
end
end Mp

/-! Mp11: dicts written. -/
namespace Mp
open PySem PySem.Spec PyProof.Rows L2
theorem dPut_length (kvs : List (D × D)) (k v : D) : (dPut kvs k v).length ≤ kvs.length + 1 := by
  unfold dPut
  split
  · rw [List.length_map]; omega
  · rw [List.length_append]; simp
theorem dDrop_length (kvs : List (D × D)) (k : D) : (dDrop kvs k).length ≤ kvs.length := List.length_filter_le _ _
section
variable {X : Cx} {pins : List (Addr × Obj)} {σ : L2.St} {H : Hp} {s : Shared} {Av : Addr → Prop} {a : Addr} {ps : List (V × V)} {kvs : List (D × D)}
theorem dict_written (I : Inv X pins σ H s) {φ : Heap → Prop} (e : H a = some (.ext φ)) {h' : Heap} (hs : Heap.SameBut a s.heap h') {o : Obj} (ho : h'.get? a = some o) (t : Nat) : Inv X pins σ (upd H a (objAt a o)) { s with heap := h', toks := t } :=
  I.write (x := a) (e := a) (by rw [e]; exact True.intro) (.inl rfl) (fun b q hb z => (hs.2 b hb).trans z) ⟨o, ho⟩ ⟨ho, ⟨o, ho⟩, fun h1 h2 z f => f o z⟩
theorem upd_sqT {K : PySem.W.Frag} {o : HO} (n : ∀ vs, H a ≠ some (.tup vs)) (n2 : ∀ o u, H a ≠ some (.frz o u)) (b : Addr) (vs : List V) (h : SqT K H b vs) : SqT K (upd H a o) b vs := by
  rcases h with (e | ⟨ob, e⟩) | h
  · exact .inl (.inl (by rw [upd_ne (fun z => n vs (by rw [← z]; exact e))]; exact e))
  · exact .inl (.inr ⟨ob, by rw [upd_ne (fun z => n2 _ _ (by rw [← z]; exact e))]; exact e⟩)
  · exact .inr h
theorem ents_scal {o : Obj} {h' : Heap} {vs : List (Key × Value)} (dd : h'.DictOf (mixKind X.prog X.w) a vs) (ho : h'.get? a = some o) : ∀ h : Heap, h.get? a = some o → h.DictOf (mixKind X.prog X.w) a vs := by
  intro h e
  obtain ⟨o', es, ep, g, r⟩ := dd
  rw [ho] at g
  cases g
  exact ⟨o, es, ep, e, r⟩
/-- the dict at a behind a write: its new object -/
theorem dictM_scal {o : Obj} {h' : Heap} {vs : List (Key × Value)} {H' : Hp} {ps' : List (V × V)} (e : H' a = some (objAt a o)) (hs : (a == sysModules) = false) (dd : h'.DictOf (mixKind X.prog X.w) a vs) (ho : h'.get? a = some o) (hl : ps'.length ≤ sizeLine) (pe : Paired EntS ps' vs) :
    DictM X.prog X.w X.K H' a ps' := by
  obtain ⟨o', es, ep, g, k1, k2, k3⟩ := id dd
  rw [ho] at g
  cases g
  exact ⟨o, es, ep, e, hs, k1, k2, hl, .inl ⟨vs, ents_scal dd ho, pe⟩⟩
theorem dictM_tup {o : Obj} {h' : Heap} {xs : List (NestedKey × Addr × Value)} {H' : Hp} {ps' : List (V × V)} (e : H' a = some (objAt a o)) (hs : (a == sysModules) = false) (dd : h'.DictOfH (nestedKind X.prog X.w) a xs) (ho : h'.get? a = some o) (hl : ps'.length ≤ sizeLine) (pe : Paired (EntN X.K H') ps' xs) :
    DictM X.prog X.w X.K H' a ps' := by
  obtain ⟨o', es, ep, g, k1, k2, k3, _, k5⟩ := id dd
  rw [ho] at g
  cases g
  exact ⟨o, es, ep, e, hs, k1, k2, hl, .inr ⟨xs, k3, k5, pe⟩⟩
theorem ext_noTup {φ : Heap → Prop} (e : H a = some (.ext φ)) : (∀ vs, H a ≠ some (.tup vs)) ∧ ∀ o u, H a ≠ some (.frz o u) := by
  constructor <;> intros <;> rw [e] <;> exact fun z => nomatch z
theorem entN_upd {K : PySem.W.Frag} {o : HO} {φ : Heap → Prop} (e : H a = some (.ext φ)) {ps : List (V × V)} {xs : List (NestedKey × Addr × Value)} (h : Paired (EntN K H) ps xs) : Paired (EntN K (upd H a o)) ps xs :=
  Paired.mapP h fun p x q => ⟨q.1, q.2.1.at (upd_sqT (ext_noTup e).1 (ext_noTup e).2), q.2.2⟩
theorem paired_snoc {α β : Type} {F : α → β → Prop} {x : α} {y : β} (h : F x y) : ∀ {l₁ : List α} {l₂ : List β}, Paired F l₁ l₂ → Paired F (l₁ ++ [x]) (l₂ ++ [y])
  | _, _, .nil => .cons h .nil
  | _, _, .cons a t => .cons a (paired_snoc h t)
theorem put_scal {k d : D} {v : V} {u : Value} (r : RepP X.prog X.w X.K H Av kvs ps) {vs : List (Key × Value)} (pe : Paired EntS ps vs) (o2 : (kvs.all fun p => scalK p.1) = true) (o1 : scalK k = true) {y : V} (rk : Rep X.prog X.w X.K H Av k y)
    (rd : Rep X.prog X.w X.K H Av d v) (rv : RelV v u) : ∃ ps', RepP X.prog X.w X.K H Av (dPut kvs k d) ps' ∧ Paired EntS ps' (stored vs (keyS k) u) := by
  have f := gen_any (kx := fun x : Key × Value => x.1) entS_key (fun a b h1 h2 => eqv_keyS h1 h2) o1 r pe o2
  unfold dPut stored
  by_cases c : dHas kvs k = true
  · rw [if_pos c, if_pos (f.symm.trans c)]
    exact gen_map (kx := fun x : Key × Value => x.1) (rp := fun x => (x.1, u)) entS_key (fun a b h1 h2 => eqv_keyS h1 h2) o1 (fun p x e => ⟨e.1, rv⟩) rd r pe o2
  · rw [if_neg c, if_neg (fun z => c (f.trans z))]
    exact ⟨_, r.snoc rk rd, paired_snoc ⟨rk.keyS o1, rv⟩ pe⟩
theorem put_tup (I : Inv X pins σ H s) {k d : D} {v : V} {u : Value} (r : RepP X.prog X.w X.K H Av kvs ps) {xs : List (NestedKey × Addr × Value)} (pe : Paired (EntN X.K H) ps xs) (o2 : (kvs.all fun p => tupK p.1) = true) (o1 : tupK k = true) {b : Addr} (rk : Rep X.prog X.w X.K H Av k (.ref b))
    (rd : Rep X.prog X.w X.K H Av d v) (rv : RelV v u) : ∃ ps', RepP X.prog X.w X.K H Av (dPut kvs k d) ps' ∧ Paired (EntN X.K H) ps' (storedH xs (keyN k) b u) := by
  have f := gen_any (kx := fun x : NestedKey × Addr × Value => x.1) (fun d p x => entN_key I d p x) (fun a b h1 h2 => eqv_key (tupK_nest h1).1 (tupK_nest h2).1) o1 r pe o2
  have e : (atKey xs (keyN k)).isSome = dHas kvs k := by
    rw [f]
    unfold atKey
    rw [Option.isSome_map, find_any]
  unfold dPut storedH
  rw [e]
  by_cases c : dHas kvs k = true
  · rw [if_pos c, if_pos c]
    exact gen_map (kx := fun x : NestedKey × Addr × Value => x.1) (rp := fun x => (x.1, x.2.1, u)) (fun d p x => entN_key I d p x) (fun a b h1 h2 => eqv_key (tupK_nest h1).1 (tupK_nest h2).1) o1 (fun p x e => ⟨e.1, e.2.1, e.2.2.1, rv⟩) rd r pe o2
  · rw [if_neg c, if_neg c]
    obtain ⟨n, dp, _⟩ := tupK_nest o1
    exact ⟨_, r.snoc rk rd, paired_snoc ⟨rfl, Rep.keyV _ _ rk n, dp, rv⟩ pe⟩
theorem vals_len {α β : Type} {F : α → β → Prop} {l₁ : List α} {l₂ : List β} (h : Paired F l₁ l₂) : l₁.length = l₂.length := Paired.length h
section
variable {A : Around} {E : Value → Shared → Prop} {k d : D} {y v : V} {u u2 : Value}
/-- d[k] = v -/
theorem dict_set (hu : A.units + 10 < cLine) (I : Inv X pins σ H s) (m : DictM X.prog X.w X.K H a ps) (r : RepP X.prog X.w X.K H Av kvs ps) (ok : kvOk kvs k = true) (rk : Rep X.prog X.w X.K H Av k y) (ry : RelV y u)
    (rd : Rep X.prog X.w X.K H Av d v) (rv : RelV v u2) (hz : kvs.length < sizeLine) {Q : Unit → Shared → Prop}
    (q : ∀ o ps' s', Inv X pins σ (upd H a (objAt a o)) s' → DictM X.prog X.w X.K (upd H a (objAt a o)) a ps' → RepP X.prog X.w X.K H Av (dPut kvs k d) ps' → Q () s') :
    wpAny (model X.prog X.w) A (setItem (.ref a) u u2) Q E s := by
  obtain ⟨φ, ea⟩ := m.kind
  have pl := r.length
  rcases kvOk_or ok with ⟨o1, o2⟩ | ⟨o1, o2⟩
  · obtain ⟨hs, _, vs, dd, pe⟩ := scal_view I m r o2
    have ey := rk.keyS o1
    have vl := vals_len pe
    obtain ⟨ps', p1, p2⟩ := put_scal r pe o2 o1 rk rd rv
    have l1 := p1.length
    have l2 := dPut_length kvs k d
    subst ey
    refine wpAny_setItem_pairs (hsz := by omega) (kV_is ry) dd fun h' dd' sb => ?_
    obtain ⟨o, _, _, ho, _⟩ := id dd'
    exact q o ps' _ (dict_written I ea sb ho _) (dictM_scal upd_same hs dd' ho (by omega) p2) p1
  · obtain ⟨hs, _, xs, dd, pe⟩ := tup_view I m r o2
    obtain ⟨b, rfl, rfl, kn⟩ := key_is I rk o1 ry
    have vl := vals_len pe
    obtain ⟨ps', p1, p2⟩ := put_tup I r pe o2 o1 rk rd rv
    have l1 := p1.length
    have l2 := dPut_length kvs k d
    refine wpAny_setItem_heap (hsz := by omega) (show A.units + 1 + 8 < cLine by omega) kn dd fun h' dd' sb => ?_
    obtain ⟨o, _, _, ho, _⟩ := id dd'
    exact q o ps' _ (dict_written I ea sb ho _) (dictM_tup upd_same hs dd' ho (by omega) (entN_upd ea p2)) p1
/-- d.setdefault(k, x), k a tuple -/
theorem dict_setdef (hu : A.units + 10 < cLine) (I : Inv X pins σ H s) (m : DictM X.prog X.w X.K H a ps) (r : RepP X.prog X.w X.K H Av kvs ps) (o1 : tupK k = true) (o2 : (kvs.all fun p => tupK p.1) = true) (rk : Rep X.prog X.w X.K H Av k y) (ry : RelV y u)
    (rd : Rep X.prog X.w X.K H Av d v) (rv : RelV v u2) (hz : kvs.length < sizeLine) {Q : Value → Shared → Prop}
    (q1 : ∀ d' v' u' s', dGet kvs k = some d' → Inv X pins σ H s' → RelV v' u' → Rep X.prog X.w X.K H Av d' v' → Q u' s')
    (q2 : ∀ o ps' s', dGet kvs k = none → Inv X pins σ (upd H a (objAt a o)) s' → DictM X.prog X.w X.K (upd H a (objAt a o)) a ps' → RepP X.prog X.w X.K H Av (dPut kvs k d) ps' → Q u2 s') :
    wpAny (model X.prog X.w) A (call (.builtin "dict.setdefault") [.ref a, u, u2]) Q E s := by
  obtain ⟨φ, ea⟩ := m.kind
  have pl := r.length
  obtain ⟨hs, _, xs, dd, pe⟩ := tup_view I m r o2
  obtain ⟨b, rfl, rfl, kn⟩ := key_is I rk o1 ry
  have vl := vals_len pe
  obtain ⟨ps', p1, p2⟩ := put_tup I r pe o2 o1 rk rd rv
  have l1 := p1.length
  have l2 := dPut_length kvs k d
  have f := gen_find (kx := fun x : NestedKey × Addr × Value => x.1) (vx := fun x => x.2.2) (fun d p x => entN_key I d p x) (fun a b h1 h2 => eqv_key (tupK_nest h1).1 (tupK_nest h2).1) (fun p x e => e.2.2.2) o1 r pe o2
  refine call_setdefault_heap (hsz := by omega) (show A.units + 1 + 8 < cLine by omega) kn hs dd (fun p hp => ?_) fun hn h' dd' sb => ?_
  · unfold atKey at hp
    cases g : kvs.find? fun p => PyData.eqv p.1 k with
    | none =>
      rw [g] at f
      rw [f] at hp
      cases hp
    | some z =>
      rw [g] at f
      obtain ⟨x, v', f1, f2, f3⟩ := f
      rw [f1] at hp
      cases hp
      exact q1 z.2 v' _ _ (by rw [dGet_find, g]; rfl) (I.tok _) f2 f3
  · obtain ⟨o, _, _, ho, _⟩ := id dd'
    refine q2 o ps' _ ?_ (dict_written I ea sb ho _) (dictM_tup upd_same hs dd' ho (by omega) (entN_upd ea p2)) p1
    cases g : kvs.find? fun p => PyData.eqv p.1 k with
    | none => rw [dGet_find, g]; rfl
    | some z =>
      rw [g] at f
      obtain ⟨x, v', f1, f2, f3⟩ := f
      unfold atKey at hn
      rw [f1] at hn
      cases hn
/-- d.pop(k), k a tuple that is there -/
theorem dict_pop (hu : A.units + 10 < cLine) (I : Inv X pins σ H s) (m : DictM X.prog X.w X.K H a ps) (r : RepP X.prog X.w X.K H Av kvs ps) (o1 : tupK k = true) (o2 : (kvs.all fun p => tupK p.1) = true) (rk : Rep X.prog X.w X.K H Av k y) (ry : RelV y u)
    (g : dGet kvs k = some d) {Q : Value → Shared → Prop}
    (q : ∀ o ps' v' u' s', Inv X pins σ (upd H a (objAt a o)) s' → DictM X.prog X.w X.K (upd H a (objAt a o)) a ps' → RepP X.prog X.w X.K H Av (dDrop kvs k) ps' → RelV v' u' → Rep X.prog X.w X.K H Av d v' → Q u' s') :
    wpAny (model X.prog X.w) A (call (.builtin "dict.pop") [.ref a, u]) Q E s := by
  obtain ⟨φ, ea⟩ := m.kind
  have pl := r.length
  obtain ⟨hs, hl, xs, dd, pe⟩ := tup_view I m r o2
  obtain ⟨b, rfl, rfl, kn⟩ := key_is I rk o1 ry
  have vl := vals_len pe
  obtain ⟨ps', p1, p2⟩ := gen_drop (kx := fun x : NestedKey × Addr × Value => x.1) (fun d p x => entN_key I d p x) (fun a b h1 h2 => eqv_key (tupK_nest h1).1 (tupK_nest h2).1) o1 r pe o2
  have l1 := p1.length
  have l2 := dDrop_length kvs k
  have f := gen_find (kx := fun x : NestedKey × Addr × Value => x.1) (vx := fun x => x.2.2) (fun d p x => entN_key I d p x) (fun a b h1 h2 => eqv_key (tupK_nest h1).1 (tupK_nest h2).1) (fun p x e => e.2.2.2) o1 r pe o2
  obtain ⟨z, hf, rfl⟩ := Option.map_eq_some_iff.mp g
  rw [hf] at f
  obtain ⟨x, v', f1, f2, f3⟩ := f
  have e : atKey xs (keyN k) = some x.2 := by unfold atKey; rw [f1]; rfl
  refine call_pop_heap (more := []) (hsz := by omega) (.inl rfl) (PySem.F.args_dict_pop_2 _ _) (show A.units + 1 + 8 < cLine by omega) kn hs dd e fun h' dd' sb => ?_
  obtain ⟨o, _, _, ho, _⟩ := id dd'
  exact q o ps' v' _ _ (dict_written I ea sb ho _) (dictM_tup upd_same hs dd' ho (by omega) (entN_upd ea p2)) p1 f2 f3
end
/-- the entries of a dict, whatever its keys are -/
theorem ents_view (I : Inv X pins σ H s) (m : DictM X.prog X.w X.K H a ps) : (∃ vs, s.heap.DictOf (mixKind X.prog X.w) a vs ∧ Paired EntS ps vs) ∨ ∃ xs, s.heap.DictOfH (nestedKind X.prog X.w) a xs ∧ Paired (EntN X.K H) ps xs := by
  obtain ⟨o, es, ep, h1, h2, h3, h4, h5, h6⟩ := m
  have g := obj_at I h1
  rcases h6 with ⟨vs, h6, h7⟩ | ⟨xs, h6, h7, h8⟩
  · exact .inl ⟨vs, h6 _ g, h7⟩
  · refine .inr ⟨xs, ⟨o, es, ep, g, h3, h4, h6, fun x hx => ?_, h7⟩, h8⟩
    have : ∃ p, EntN X.K H p x := by
      clear h6 h7 h5
      induction h8 with
      | nil => simp at hx
      | cons e t ih =>
        rcases List.mem_cons.mp hx with rfl | hx
        · exact ⟨_, e⟩
        · exact ih hx
    obtain ⟨p, e⟩ := this
    have k := e.2.1
    rw [e.1] at k
    exact ⟨KeyV.nested I _ _ _ k rfl, e.2.2.1⟩
/-- len(d) -/
theorem dict_len {A : Around} {E : Value → Shared → Prop} (I : Inv X pins σ H s) (m : DictM X.prog X.w X.K H a ps) {Q : Value → Shared → Prop} (q : ∀ t s', Inv X pins σ H s' → Q (.int ps.length t) s') :
    wpAny (model X.prog X.w) A (call (.builtin "len") [.ref a]) Q E s := by
  have hl := sizeLine_eq
  have hs : (a == sysModules) = false ∧ ps.length ≤ sizeLine := let ⟨_, _, _, _, h2, _, _, h5, _⟩ := m; ⟨h2, h5⟩
  have h5 := hs.2
  rcases ents_view I m with ⟨vs, dd, pe⟩ | ⟨xs, dd, pe⟩
  · have vl := vals_len pe
    refine call_len_dict hs.1 dd (by omega) ?_
    rw [← vl]
    exact q _ _ (I.tok _)
  · have vl := vals_len pe
    refine call_len_dictH hs.1 dd (by omega) ?_
    rw [← vl]
    exact q _ _ (I.tok _)
/-! ### new dicts -/
/-- the empty dict -/
theorem dictM_nil {P : Program} {w : World} {K : PySem.W.Frag} {H' : Hp} {o : Obj} {p : Addr} {ep : Nat} (e : H' p = some (objAt p o)) (hs : (p == sysModules) = false) (x : o.ExactDict) (hd : o.data = .dict #[] ep) : DictM P w K H' p [] :=
  ⟨o, #[], ep, e, hs, x, hd, Nat.zero_le _, .inr ⟨[], rfl, .nil, .nil⟩⟩
theorem new_ext {h' : Heap} {t : Nat} {p : Addr} {o : Obj} (I : Inv X pins σ H s) (k : ∀ b u, s.heap.get? b = some u → h'.get? b = some u) (hp : s.heap.objs.size ≤ p) (ho : h'.get? p = some o) : Inv X pins σ (upd H p (objAt p o)) { s with heap := h', toks := t } :=
  I.laid k hp ⟨ho, ⟨o, ho⟩, fun h1 h2 z f => f o z⟩
theorem big_sys (I : Inv X pins σ H s) : (s.heap.objs.size == sysModules) = false := beq_eq_false_iff_ne.mpr (Nat.ne_of_gt I.big)
/-- {} -/
theorem pe_dict0 {pos : Pos} {t : TE} (h : ∀ σ H Q, t σ H Q → ∀ p o, H p = none → DictM X.prog X.w X.K (upd H p (objAt p o)) p [] → Q (.ref p) (upd H p (objAt p o))) : PE X (.Dict [] [] pos) t := by
  refine ⟨fun pins s σ H Q I q => ?_⟩
  have d0 : (s.heap.push { cls := .type "dict", data := .dict #[] }).DictOf (mixKind X.prog X.w) s.heap.objs.size [] := Heap.DictOf.new s.heap
  obtain ⟨o, es, ep, g, k1, k2, _, k3, _⟩ := d0
  generalize hl : es.toList = l at k3
  cases k3
  have e0 : es = #[] := by
    apply Array.ext'
    rw [hl]
  subst e0
  have I' := new_ext (t := s.toks) I (fun b u e => Heap.get?_push_of_some _ e) (Nat.le_refl _) g
  exact wpAny_Dict_empty ⟨.ref s.heap.objs.size, _, I', rfl, h σ H Q q _ _ I.fresh (dictM_nil upd_same (big_sys I) k1 k2)⟩
end
end Mp

/-! Mp12: dict(pairs), {k: v}. -/
namespace Mp
open PySem PySem.Spec PyProof.Rows L2
theorem dPut_keys {f : D → Bool} {kvs : List (D × D)} {k v : D} (h : (kvs.all fun p => f p.1) = true) (hk : f k = true) : ((dPut kvs k v).all fun p => f p.1) = true := by
  unfold dPut
  split
  · rw [List.all_map]
    rw [List.all_eq_true] at h ⊢
    intro p hp
    dsimp only [Function.comp]
    split
    · exact h p hp
    · exact h p hp
  · rw [List.all_append, h]
    simp [hk]
section
variable {X : Cx} {pins : List (Addr × Obj)} {σ : L2.St} {H : Hp} {s : Shared} {Av : Addr → Prop} {a : Addr}
theorem merge_scal : ∀ {kvs : List (D × D)} {ps : List (V × V)} {prs : List (Key × Value)} {acc : List (D × D)} {aps : List (V × V)} {avs : List (Key × Value)},
    RepP X.prog X.w X.K H Av kvs ps → Paired EntS ps prs → (kvs.all fun p => scalK p.1) = true → RepP X.prog X.w X.K H Av acc aps → Paired EntS aps avs → (acc.all fun p => scalK p.1) = true →
    ∃ ps', RepP X.prog X.w X.K H Av (dMerge acc kvs) ps' ∧ Paired EntS ps' (merged avs prs)
  | [], _, _, acc, aps, avs, .nil, .nil, _, ra, ea, _ => ⟨aps, ra, ea⟩
  | (k, d) :: kvs, _, _, acc, aps, avs, .cons h1 h2 t, .cons e et, a, ra, ea, ac => by
    rw [List.all_cons] at a
    have q := Bool.and_eq_true_iff.mp a
    obtain ⟨ps1, r1, e1⟩ := put_scal ra ea ac q.1 h1 h2 e.2
    have z := entS_key k _ _ q.1 h1 e
    obtain ⟨ps', r2, e2⟩ := merge_scal t et q.2 r1 e1 (dPut_keys ac q.1)
    refine ⟨ps', r2, ?_⟩
    unfold merged
    rw [List.foldl_cons, z]
    exact e2
theorem merge_tup (I : Inv X pins σ H s) : ∀ {kvs : List (D × D)} {ps : List (V × V)} {prs : List (NestedKey × Addr × Value)} {acc : List (D × D)} {aps : List (V × V)} {avs : List (NestedKey × Addr × Value)},
    RepP X.prog X.w X.K H Av kvs ps → Paired (EntN X.K H) ps prs → (kvs.all fun p => tupK p.1) = true → RepP X.prog X.w X.K H Av acc aps → Paired (EntN X.K H) aps avs → (acc.all fun p => tupK p.1) = true →
    ∃ ps', RepP X.prog X.w X.K H Av (dMerge acc kvs) ps' ∧ Paired (EntN X.K H) ps' (storedAllH avs prs)
  | [], _, _, acc, aps, avs, .nil, .nil, _, ra, ea, _ => ⟨aps, ra, ea⟩
  | (k, d) :: kvs, _, _, acc, aps, avs, .cons h1 h2 t, .cons e et, a, ra, ea, ac => by
    rw [List.all_cons] at a
    have q := Bool.and_eq_true_iff.mp a
    have z := entN_key I k _ _ q.1 h1 e
    have eb := e.1
    dsimp only at eb
    subst eb
    obtain ⟨ps1, r1, e1⟩ := put_tup I ra ea ac q.1 h1 h2 e.2.2.2
    obtain ⟨ps', r2, e2⟩ := merge_tup I t et q.2 r1 e1 (dPut_keys ac q.1)
    refine ⟨ps', r2, ?_⟩
    unfold storedAllH
    rw [List.foldl_cons, z]
    exact e2
theorem dMerge_length : ∀ (more kvs : List (D × D)), (dMerge kvs more).length ≤ kvs.length + more.length
  | [], kvs => by unfold dMerge; simp
  | p :: more, kvs => by
    have h := dMerge_length more (dPut kvs p.1 p.2)
    have h2 := dPut_length kvs p.1 p.2
    unfold dMerge at h ⊢
    rw [List.foldl_cons, List.length_cons]
    omega
/-- pairs as they stand: the tuple of each, its two values -/
def PairAtV (h : Heap) (p : V × V) (q : Addr × Value × Value) : Prop := IsTup h q.1 #[q.2.1, q.2.2] ∧ RelV p.1 q.2.1 ∧ RelV p.2 q.2.2
theorem pairs_view (I : Inv X pins σ H s) : ∀ {ds : List D} {vs : List V} {its : List Value} {kvs : List (D × D)}, RepL X.prog X.w X.K H Av ds vs → Vals vs its → pairsD ds = some kvs →
    ∃ (ps : List (V × V)) (qs : List (Addr × Value × Value)), RepP X.prog X.w X.K H Av kvs ps ∧ its = qs.map (fun q => Value.ref q.1) ∧ Paired (PairAtV s.heap) ps qs
  | [], _, _, kvs, .nil, .nil, e => by
    unfold pairsD at e
    cases e
    exact ⟨[], [], .nil, rfl, .nil⟩
  | d :: ds, _, _, kvs, .cons h t, .cons r rt, e => by
    unfold pairsD at e
    split at e
    · rename_i heq
      cases heq
    · rename_i k v rest heq
      cases heq
      obtain ⟨kvs', e1, e2⟩ := Option.map_eq_some_iff.mp e
      subst e2
      obtain ⟨ps, qs, p1, p2, p3⟩ := pairs_view I t rt e1
      cases h with
      | tup sq rl =>
        rename_i b us
        cases rl with
        | cons hk rl2 =>
          cases rl2 with
          | cons hv rl3 =>
            cases rl3
            obtain ⟨its', rv, tp, _⟩ := I.tuple sq
            cases rv with
            | cons rk rv2 =>
              cases rv2 with
              | cons rvv rv3 =>
                cases rv3
                rename_i uk uv
                have er : _ = Value.ref b := r
                subst er
                refine ⟨_, (b, uk, uv) :: qs, .cons hk hv p1, by rw [p2]; rfl, .cons ⟨tp, rk, rvv⟩ p3⟩
    · cases e
theorem paired_at {α β : Type} {F : α → β → Prop} : ∀ {l₁ : List α} {l₂ : List β} {i : Nat} {y : β}, Paired F l₁ l₂ → l₂[i]? = some y → ∃ x, l₁[i]? = some x ∧ F x y
  | _, _, i, _, .nil, e => by simp at e
  | _, _, 0, _, .cons h _, e => by simp at e; subst e; exact ⟨_, rfl, h⟩
  | _, _, i + 1, _, .cons _ t, e => by
    obtain ⟨x, h1, h2⟩ := paired_at (i := i) t (by simpa using e)
    exact ⟨x, by simpa using h1, h2⟩
theorem scal_pairs : ∀ {kvs : List (D × D)} {ps : List (V × V)} {qs : List (Addr × Value × Value)}, RepP X.prog X.w X.K H Av kvs ps → Paired (PairAtV s.heap) ps qs → (kvs.all fun p => scalK p.1) = true →
    ∃ prs : List (Key × Value), Paired EntS ps prs ∧ Paired (fun (r : Key × Value) (q : Addr × Value × Value) => IsTup s.heap q.1 #[q.2.1, r.2] ∧ keyIs r.1 q.2.1 = true) prs qs
  | [], _, _, .nil, .nil, _ => ⟨[], .nil, .nil⟩
  | (k, d) :: kvs, _, _, .cons h1 h2 t, .cons e et, a => by
    rw [List.all_cons] at a
    have q := Bool.and_eq_true_iff.mp a
    obtain ⟨prs, p1, p2⟩ := scal_pairs t et q.2
    have z := h1.keyS q.1
    subst z
    exact ⟨(keyS k, _) :: prs, .cons ⟨rfl, e.2.2⟩ p1, .cons ⟨e.1, kV_is (P := X.prog) (w := X.w) e.2.1⟩ p2⟩
theorem tup_pairs (I : Inv X pins σ H s) : ∀ {kvs : List (D × D)} {ps : List (V × V)} {qs : List (Addr × Value × Value)}, RepP X.prog X.w X.K H Av kvs ps → Paired (PairAtV s.heap) ps qs → (kvs.all fun p => tupK p.1) = true →
    ∃ prs : List (NestedKey × Addr × Value), Paired (EntN X.K H) ps prs ∧ Paired (fun (r : NestedKey × Addr × Value) (q : Addr × Value × Value) => q.2.1 = .ref r.2.1 ∧ q.2.2 = r.2.2) prs qs
  | [], _, _, .nil, .nil, _ => ⟨[], .nil, .nil⟩
  | (k, d) :: kvs, _, _, .cons h1 h2 t, .cons e et, a => by
    rw [List.all_cons] at a
    have q := Bool.and_eq_true_iff.mp a
    obtain ⟨prs, p1, p2⟩ := tup_pairs I t et q.2
    obtain ⟨b, eb, ev, kn⟩ := key_is I h1 q.1 e.2.1
    obtain ⟨n, dp, _⟩ := tupK_nest q.1
    exact ⟨(keyN k, b, _) :: prs, .cons ⟨ev, Rep.keyV _ _ h1 n, dp, e.2.2⟩ p1, .cons ⟨eb, rfl⟩ p2⟩
/-- dict(a list of pairs) -/
theorem dict_pairs {E : Value → Shared → Prop} (hu : X.A.units + 20 < cLine) (hh : X.A.handled = none) (I : Inv X pins σ H s) {ds : List D} {vs : List V} {kvs : List (D × D)} (hl : SqL X.K H a vs) (r : RepL X.prog X.w X.K H Av ds vs) (e : pairsD ds = some kvs) (ok : keysOk kvs = true)
    {Q : Value → Shared → Prop} (q : ∀ p o ps' s', H p = none → Inv X pins σ (upd H p (objAt p o)) s' → DictM X.prog X.w X.K (upd H p (objAt p o)) p ps' → RepP X.prog X.w X.K H Av (dMerge [] kvs) ps' → Q (.ref p) s') :
    wpAny (model X.prog X.w) X.A (call (.type "dict") [.ref a]) Q E s := by
  obtain ⟨its, rv, pl, hz⟩ := I.list hl
  obtain ⟨ps, qs, p1, p2, p3⟩ := pairs_view I r rv e
  have hlq := vals_len p3
  have hlp := p1.length
  have hli : its.length = qs.length := by rw [p2, List.length_map]
  have hlv := rv.length
  obtain ⟨o, n, ho, hc, hd, hdat⟩ := pl
  unfold keysOk at ok
  rcases Bool.or_eq_true_iff.mp ok with o1 | o1
  · obtain ⟨prs, q1, q2⟩ := scal_pairs p1 p3 o1
    have hpr := vals_len q1
    obtain ⟨ps', r1, r2⟩ := merge_scal p1 q1 o1 (acc := []) .nil .nil rfl
    refine L2.call_dict_pairs (prs := prs) hh ho hc hd hdat (by rw [List.size_toArray, hli]; omega) (by omega) (fun j x hj => ?_) fun h' tk dd k => ?_
    · obtain ⟨y, hy, hy2⟩ := paired_get q2 hj
      exact ⟨y.1, y.2.1, by simp [p2, hy], hy2.1, hy2.2⟩
    · obtain ⟨ob, _, _, g, _⟩ := id dd
      have l1 := r1.length
      have l2 := dMerge_length kvs []
      rw [List.length_nil] at l2
      exact q _ ob ps' _ I.fresh (new_ext I k (Nat.le_refl _) g) (dictM_scal upd_same (big_sys I) dd g (by omega) r2) r1
  · obtain ⟨prs, q1, q2⟩ := tup_pairs I p1 p3 o1
    have hpr := vals_len q1
    have hpq := vals_len q2
    obtain ⟨ps', r1, r2⟩ := merge_tup I p1 q1 o1 (acc := []) .nil .nil rfl
    have hpi : PairItems s.heap its.toArray (fun j => (qs.getD j (0, .none, .none)).1) (qs.map (·.2)) := by
      refine ⟨by simp [hli], fun j k v hj => ?_⟩
      rw [List.getElem?_map] at hj
      obtain ⟨y, hy, hy2⟩ := Option.map_eq_some_iff.mp hj
      obtain ⟨x, hx, hx2⟩ := paired_at p3 hy
      refine ⟨by simp [p2, hy, List.getD_eq_getElem?_getD], ?_⟩
      have e3 : qs.getD j (0, .none, .none) = y := by rw [List.getD_eq_getElem?_getD, hy]; rfl
      have h4 := hx2.1
      rw [hy2] at h4
      show PairAt s.heap (qs.getD j (0, .none, .none)).1 k v
      rw [e3]
      exact .inl h4
    have kis : ∀ x ∈ prs, (nestedKind X.prog X.w).is s.heap x.1 x.2.1 := fun x hx => by
      have : ∃ p, EntN X.K H p x := by
        obtain ⟨i, hi⟩ := List.getElem?_of_mem hx
        obtain ⟨p, _, hp⟩ := paired_at q1 hi
        exact ⟨p, hp⟩
      obtain ⟨p, e⟩ := this
      have k := e.2.1
      rw [e.1] at k
      exact ⟨KeyV.nested I _ _ _ k rfl, e.2.2.1⟩
    refine call_dict_pairsH (knd := nestedKind X.prog X.w) (ps := prs) (PairArg.list a its.toArray (fun j => (qs.getD j (0, .none, .none)).1) (qs.map (·.2))) hh (show X.A.units + 1 + 1 + 8 < cLine by omega) ⟨⟨o, n, ho, hc, hd, hdat⟩, hpi⟩ ⟨by rw [List.length_map]; omega, fun i key v hrel => ?_⟩
      (fun h' hk x hx => (nestedKind_stays (prog := X.prog) (w := X.w)).stays (fun b o _ _ e _ => hk b o (Nat.ne_of_lt (Heap.lt_size e)) (fun z => nomatch z) e) (kis x hx)) (by rw [List.length_map]; omega) fun h' tk dd k => ?_
    · have hrel' : (qs.map (·.2))[i]? = some (key, v) := hrel
      rw [List.getElem?_map] at hrel'
      obtain ⟨y, hy, hy2⟩ := Option.map_eq_some_iff.mp hrel'
      obtain ⟨x, hx, hx2⟩ := paired_at q2 hy
      rw [hy2] at hx2
      dsimp only at hx2
      obtain ⟨x1, x2, x3⟩ := x
      dsimp only at hx2
      exact ⟨x1, x2, by rw [hx, hx2.2], hx2.1⟩
    · obtain ⟨ob, _, _, g, _⟩ := id dd
      have l1 := r1.length
      have l2 := dMerge_length kvs []
      rw [List.length_nil] at l2
      have kp : ∀ b o, s.heap.get? b = some o → h'.get? b = some o := fun b o e => k b o (fun z => nomatch z) e
      exact q _ ob ps' _ I.fresh (new_ext I kp (Nat.le_refl _) g) (dictM_tup upd_same (big_sys I) dd g (by omega) (Paired.mapP r2 fun p x z => ⟨z.1, z.2.1.at (fun b us h => h.imp (fun h => h.imp (fun e => new_keep I.fresh _ _ e) fun ⟨u, e⟩ => ⟨u, new_keep I.fresh _ _ e⟩) id), z.2.2⟩)) r1
end
end Mp

/-! Mp13: == of dicts whose keys are tuples. -/
namespace Mp
open PySem PySem.Spec PyProof.Rows L2
section
variable {prog : Program} {w : World} {κ : Type} [DecidableEq κ] {knd : HeapKind prog w κ} {A : Around} {E : Value → Shared → Prop} {s : Shared}
/-- what the walk over the first dict's entries tells -/
def tells (f : Value → Value → Bool) (ys : List (κ × Addr × Value)) (x : κ × Addr × Value) : Bool := match atKey ys x.1 with
  | some p => f x.2.2 p.2
  | none => false
theorem same_walk {nm : String} {a b : Addr} {xs ys : List (κ × Addr × Value)} {f : Value → Value → Bool} {Q : Bool → Shared → Prop} (hu : knd.room A) (na : (a == sysModules) = false) (nb : (b == sysModules) = false)
    (da : s.heap.DictOfH knd a xs) (db : s.heap.DictOfH knd b ys) (hf : ∀ x ∈ xs, ∀ y ∈ ys, SeqAt.EqAt A s x.2.2 y.2.2 (f x.2.2 y.2.2)) (q : Q (xs.length == ys.length && xs.all (tells f ys)) s) :
    wpAny (model prog w) A (Builtin.Dict.samePairs nm a b) Q E s := by
  obtain ⟨o1, es, ep, g1, _, d1, l1, k1, n1⟩ := da
  obtain ⟨o2, fs, fp, g2, _, d2, l2, k2, n2⟩ := db
  have z1 : es.size = xs.length := size_of_entries l1
  have z2 : fs.size = ys.length := size_of_entries l2
  unfold Builtin.Dict.samePairs Builtin.Dict.showsAll
  rw [na, nb]
  simp only [Bool.false_eq_true, if_false]
  refine wpAny_bind (wpAny_pure ?_)
  refine wpAny_bind (wpAny_pure ?_)
  refine wpAny_bind (wpAny_dictEntries g1 d1 (wpAny_bind (wpAny_dictEntries g2 d2 ?_)))
  cases hz : (xs.length == ys.length) with
  | false =>
    rw [hz, Bool.false_and] at q
    have ne : (es.size != fs.size) = true := by
      rw [z1, z2]
      unfold bne
      rw [hz]
      rfl
    rw [if_pos ne]
    exact wpAny_bind (wpAny_rule (wpAny_pure q))
  | true =>
    rw [hz, Bool.true_and] at q
    have ee : ¬ (es.size != fs.size) = true := by
      rw [z1, z2]
      unfold bne
      rw [hz]
      exact fun z => nomatch z
    rw [if_neg ee]
    refine wpAny_bind (wpAny_dictEpoch g1 d1 (wpAny_bind ?_))
    rw [Std.Legacy.Range.forIn_eq_forIn_range']
    simp only [Std.Legacy.Range.size, Nat.sub_zero, Nat.add_sub_cancel, Nat.div_one]
    have start : xs.all (tells f ys) = ((xs.drop 0).all (tells f ys)) := by rw [List.drop_zero]
    refine wpAny_forIn_list _ (fun rest p s' => s' = s ∧ p = (none, ()) ∧ ∃ m, m + rest.length = xs.length ∧ rest = List.range' m rest.length ∧ xs.all (tells f ys) = (xs.drop m).all (tells f ys)) _ ?_ ?_ _ _ ⟨rfl, rfl, 0, by simp [z1], by simp, start⟩
    · rintro i rest p s' ⟨rfl, rfl, m, hm, hr, ha⟩
      rw [List.length_cons, List.range'_succ] at hr
      injection hr with hi hr
      subst hi
      rw [List.length_cons] at hm
      have hlt : i < xs.length := by omega
      have hx : xs[i]? = some xs[i] := List.getElem?_eq_getElem hlt
      have hmem : xs[i] ∈ xs := List.getElem_mem hlt
      rw [List.drop_eq_getElem_cons hlt, List.all_cons] at ha
      generalize xs[i] = x at hx hmem ha
      refine wpAny_bind (wpAny_dictEntries g1 d1 ?_)
      rw [entry_at l1 i, hx]
      show wpAny _ _ (holding [Value.ref x.2.1, x.2.2] _ >>= _) _ _ _
      refine wpAny_bind (wpAny_holding (wpAny_bind (wpAny_dictFind_heap hu (k1 x hmem) g2 d2 l2 k2 n2 ?_ ?_)))
      · intro hno
        have e0 : tells f ys x = false := by
          unfold tells
          rw [atKey_none_of_get hno]
        rw [e0, Bool.false_and] at ha
        refine wpAny_pure ?_
        show wpAny _ _ (if (!false) = true then _ else _) _ _ _
        rw [if_pos (show (!false) = true from rfl)]
        exact wpAny_pure (wpAny_pure (ha ▸ q))
      · intro j pr hj
        have e0 : tells f ys x = f x.2.2 pr.2 := by
          unfold tells
          rw [atKey_of_get n2 hj]
        have hy : (x.1, pr) ∈ ys := List.mem_of_getElem? hj
        refine wpAny_bind (wpAny_dictEntries g2 d2 ?_)
        rw [entry_at l2 j, hj]
        show wpAny _ _ (holding [pr.2] _) _ _ _
        refine wpAny_holding (hf x hmem _ hy prog w _ _ ?_)
        rw [e0] at ha
        cases hb : f x.2.2 pr.2 with
        | false =>
          rw [hb, Bool.false_and] at ha
          show wpAny _ _ (if (!false) = true then _ else _) _ _ _
          rw [if_pos (show (!false) = true from rfl)]
          exact wpAny_pure (wpAny_pure (ha ▸ q))
        | true =>
          rw [hb, Bool.true_and] at ha
          show wpAny _ _ (if (!true) = true then _ else _) _ _ _
          rw [if_neg (show ¬ (!true) = true from fun z => nomatch z)]
          refine wpAny_bind (wpAny_dictEpoch g1 d1 ?_)
          rw [if_neg (by simp)]
          exact wpAny_pure ⟨rfl, rfl, i + 1, by omega, hr, ha⟩
    · rintro p s' ⟨rfl, rfl, m, hm, _, ha⟩
      have hm : m = xs.length := by simpa using hm
      subst hm
      rw [List.drop_length, List.all_nil] at ha
      exact wpAny_pure (ha ▸ q)
theorem slot_eq {a b : Addr} {Q : Value × Value → Shared → Prop} (ta : s.TypeIs (.ref a) "dict") (q : Q (.ref a, .ref b) s) : wpAny (model prog w) A (Builtin.Dict.dictSlotArgs "__eq__" ⟨[.ref a, .ref b], []⟩) Q E s := by
  unfold Builtin.Dict.dictSlotArgs
  refine wpAny_bind (wpAny_notOrdered_dict ta ?_)
  show wpAny _ _ (pure (Value.ref a, Value.ref b)) _ _ s
  exact wpAny_pure q
theorem slot_ne {a b : Addr} {Q : Value × Value → Shared → Prop} (ta : s.TypeIs (.ref a) "dict") (q : Q (.ref a, .ref b) s) : wpAny (model prog w) A (Builtin.Dict.dictSlotArgs "__ne__" ⟨[.ref a, .ref b], []⟩) Q E s := by
  unfold Builtin.Dict.dictSlotArgs
  refine wpAny_bind (wpAny_notOrdered_dict ta ?_)
  show wpAny _ _ (pure (Value.ref a, Value.ref b)) _ _ s
  exact wpAny_pure q
/-- the two tests by the walk -/
theorem dictH_eq {a b : Addr} {xs ys : List (κ × Addr × Value)} {f : Value → Value → Bool} {Q : Value → Shared → Prop} (hu : A.units < cLine) (hr : knd.room A.in1) (na : (a == sysModules) = false) (nb : (b == sysModules) = false)
    (da : s.heap.DictOfH knd a xs) (db : s.heap.DictOfH knd b ys) (hf : ∀ x ∈ xs, ∀ y ∈ ys, SeqAt.EqAt A.in1 s x.2.2 y.2.2 (f x.2.2 y.2.2)) (q : Q (.bool (xs.length == ys.length && xs.all (tells f ys))) s) :
    wpAny (model prog w) A (compareOp .Eq (.ref a) (.ref b)) Q E s := by
  have ta := da.typeIs
  have tb := db.typeIs
  refine wpAny_richCompare_same_room (op := .Eq) ta tb PySem.F.slot_dict_eq (wpAny_call_entry PySem.F.slot_dict_eq ta PySem.F.entry_dict_eq ?_ (PySem.F.args_dict_eq_2 _ _)) hu
  show wpAny _ _ (Builtin.Dict.dictSlotArgs "__eq__" ⟨[.ref a, .ref b], []⟩ >>= _) _ _ s
  refine wpAny_bind (slot_eq ta ?_)
  refine wpAny_bind (wpAny_isInstance (T := "dict") tb PySem.F.sub_dict_dict ?_)
  simp only [Bool.not_true, Bool.false_eq_true, if_false]
  refine wpAny_bind (wpAny_pure (wpAny_bind (wpAny_pure (wpAny_bind (same_walk hr na nb da db hf (wpAny_pure ⟨_, rfl, (fun z => nomatch z), ?_⟩))))))
  simpa using q
theorem dictH_ne {a b : Addr} {xs ys : List (κ × Addr × Value)} {f : Value → Value → Bool} {Q : Value → Shared → Prop} (hu : A.units < cLine) (hr : knd.room A.in1) (na : (a == sysModules) = false) (nb : (b == sysModules) = false)
    (da : s.heap.DictOfH knd a xs) (db : s.heap.DictOfH knd b ys) (hf : ∀ x ∈ xs, ∀ y ∈ ys, SeqAt.EqAt A.in1 s x.2.2 y.2.2 (f x.2.2 y.2.2)) (q : Q (.bool (!(xs.length == ys.length && xs.all (tells f ys)))) s) :
    wpAny (model prog w) A (compareOp .NotEq (.ref a) (.ref b)) Q E s := by
  have ta := da.typeIs
  have tb := db.typeIs
  refine wpAny_richCompare_same_room (op := .NotEq) ta tb PySem.F.slot_dict_ne (wpAny_call_entry PySem.F.slot_dict_ne ta PySem.F.entry_dict_ne ?_ (PySem.F.args_dict_ne_2 _ _)) hu
  show wpAny _ _ (Builtin.Dict.dictSlotArgs "__ne__" ⟨[.ref a, .ref b], []⟩ >>= _) _ _ s
  refine wpAny_bind (slot_ne ta ?_)
  refine wpAny_bind (wpAny_isInstance (T := "dict") tb PySem.F.sub_dict_dict ?_)
  simp only [Bool.not_true, Bool.false_eq_true, if_false]
  refine wpAny_bind (wpAny_pure (wpAny_bind (wpAny_pure (wpAny_bind (same_walk hr na nb da db hf (wpAny_pure ⟨_, rfl, (fun z => nomatch z), ?_⟩))))))
  simpa using q
end

/-! ### data, to be compared -/
section
variable {P : Program} {w : World} {K : PySem.W.Frag} {H : Hp} {Av : Addr → Prop}
theorem Rep.dp {d : D} {v : V} (h : Rep P w K H Av d v) (c : d.canLay0 = true) : Dp K H v d := by
  refine Rep.rec (motive_1 := fun d v _ => d.canLay0 = true → Dp K H v d) (motive_2 := fun ds vs _ => PyData.canLayAll0 ds = true → DpAll K H vs ds) (motive_3 := fun kvs ps _ => True) ?_ ?_ ?_ ?_ ?_ ?_ ?_ ?_ ?_ ?_ ?_ h c
  · exact fun _ => .non
  · exact fun b _ => .bl b
  · exact fun i _ => .int i
  · exact fun x _ => .str x
  · exact fun s _ ih q => .tup s (ih (by simpa [PyData.canLay0] using q))
  · exact fun n _ ih q => .lst (n.imp (fun z => z.2) id) (ih (by simpa [PyData.canLay0] using q))
  · intro a ps kvs n m r ih q; simp [PyData.canLay0] at q
  · exact fun _ => .nil
  · intro d v ds vs _ _ h1 h2 q
    have q' : d.canLay0 = true ∧ PyData.canLayAll0 ds = true := by simpa [PyData.canLayAll0] using q
    exact .cons (h1 q'.1) (h2 q'.2)
  · trivial
  · intros; trivial
theorem RepL.dp : ∀ {ds : List D} {vs : List V}, RepL P w K H Av ds vs → PyData.canLayAll0 ds = true → DpAll K H vs ds
  | _, _, .nil, _ => .nil
  | _, _, .cons h t, q => by
    simp only [PyData.canLayAll0, Bool.and_eq_true] at q
    exact .cons (h.dp q.1) (RepL.dp t q.2)
theorem Use.dp {d : D} {v : V} (h : Use P w K H Av d v) (c : d.canLay0 = true) : Dp K H v d := by
  cases h with
  | rep r => exact r.dp c
  | own r =>
    cases r with
    | lst e r => exact .lst (.inl (.inl e)) (r.dp (by simpa [PyData.canLay0] using c))
    | dic e r => simp [PyData.canLay0] at c
theorem shaped_lay {d : D} (h : shaped d = true) : d.canLay0 = true := SeqAt.canLay_of_shaped h
end
section
variable {X : Cx} {pins : List (Addr × Obj)} {σ : L2.St} {H : Hp} {s : Shared} {Av : Addr → Prop}
theorem rep_reads (I : Inv X pins σ H s) {d : D} {v : V} {u : Value} (r : Rep X.prog X.w X.K H Av d v) (rv : RelV v u) (h : shaped d = true) : ∃ as, Reads s.heap u d as := Dp.reads I d v u (r.dp (shaped_lay h)) rv
theorem dict_same_tup (I : Inv X pins σ H s) {qs : List (V × V)} {ys : List (NestedKey × Addr × Value)} {more : List (D × D)} (r2 : RepP X.prog X.w X.K H Av more qs) (p2 : Paired (EntN X.K H) qs ys) (o2 : (more.all fun p => tupK p.1) = true) (h2 : (more.all fun p => shaped p.2) = true) :
    ∀ {kvs : List (D × D)} {ps : List (V × V)} {xs : List (NestedKey × Addr × Value)}, RepP X.prog X.w X.K H Av kvs ps → Paired (EntN X.K H) ps xs → (kvs.all fun p => tupK p.1) = true → (kvs.all fun p => shaped p.2) = true →
      (xs.all (tells (fun a b => PyData.eqv (SeqAt.readOf s.heap a) (SeqAt.readOf s.heap b)) ys)) = kvs.all fun p => match dGet more p.1 with
        | some v => PyData.eqv p.2 v
        | none => false
  | [], _, _, .nil, .nil, _, _ => rfl
  | (k, d) :: kvs, _, _, .cons h1 hv t, .cons e et, a, c => by
    rw [List.all_cons] at a c
    have qa := Bool.and_eq_true_iff.mp a
    have qc := Bool.and_eq_true_iff.mp c
    have ih := dict_same_tup I r2 p2 o2 h2 t et qa.2 qc.2
    rw [List.all_cons, List.all_cons, ih]
    congr 1
    have z := entN_key I k _ _ qa.1 h1 e
    have f := gen_find (kx := fun x : NestedKey × Addr × Value => x.1) (vx := fun x => x.2.2) (fun d p x => entN_key I d p x) (fun a b h1 h2 => eqv_key (tupK_nest h1).1 (tupK_nest h2).1) (fun p x e => e.2.2.2) qa.1 r2 p2 o2
    rw [dGet_find]
    dsimp only
    unfold tells atKey
    rw [z]
    cases g : more.find? fun p => PyData.eqv p.1 k with
    | none =>
      rw [g] at f
      rw [f]
      rfl
    | some m =>
      rw [g] at f
      obtain ⟨y, v, f1, f2, f3⟩ := f
      rw [f1]
      have hm : shaped m.2 = true := List.all_eq_true.mp h2 m (List.mem_of_find?_eq_some g)
      obtain ⟨as, r1⟩ := rep_reads I hv e.2.2.2 qc.1
      obtain ⟨bs, r3⟩ := rep_reads I f3 f2 hm
      show PyData.eqv (SeqAt.readOf s.heap _) (SeqAt.readOf s.heap _) = PyData.eqv d m.2
      rw [SeqAt.readOf_eq (shaped_lay qc.1) r1, SeqAt.readOf_eq (shaped_lay hm) r3]
end
end Mp

/-! Mp14: comparisons, built-ins, by values. -/
namespace Mp
open PySem PySem.Spec PyProof.Rows L2
section
variable {P : Program} {w : World} {K : PySem.W.Frag} {H : Hp} {Av : Addr → Prop}
theorem Use.nest {d : D} {v : V} (h : Use P w K H Av d v) (n : nestK d = true) : Rep P w K H Av d v := by
  cases h with
  | rep r => exact r
  | own r => cases r <;> (unfold nestK at n; cases n)
theorem Use.isNone {d : D} {v : V} (h : Use P w K H Av d v) : isNoneD d = decide (v = .non) := by
  cases h with
  | rep r => cases r <;> rfl
  | own r => cases r <;> rfl
theorem kvOk_nest {kvs : List (D × D)} {k : D} (h : kvOk kvs k = true) : nestK k = true := by
  rcases kvOk_or h with ⟨h, _⟩ | ⟨h, _⟩
  · cases k <;> first | (unfold scalK at h; cases h; done) | simp [nestK]
  · exact (tupK_nest h).1
end
theorem rep_valP {P : Program} {w : World} {K : PySem.W.Frag} {H : Hp} {Av : Addr → Prop} : ∀ {kvs : List (D × D)} {ps : List (V × V)} {i : Nat} {p : V × V}, RepP P w K H Av kvs ps → ps[i]? = some p → ∃ k, kvs[i]? = some k ∧ Rep P w K H Av k.2 p.2
  | _, _, i, _, .nil, e => by simp at e
  | _, _, 0, _, .cons _ h _, e => by simp at e; subst e; exact ⟨_, rfl, h⟩
  | _, _, i + 1, _, .cons _ _ t, e => by
    obtain ⟨k, h1, h2⟩ := rep_valP (i := i) t (by simpa using e)
    exact ⟨k, by simpa using h1, h2⟩
section
variable {X : Cx}
theorem eq_ok (hu : X.A.units + 100 < cLine) : OpV X (compareOp .Eq) (fun a b => bRes (eqX a b)) := by
  intro Av a b r pins s σ H x y v u Q I rx ry ua ub e q
  obtain ⟨c, hc, rfl⟩ := Option.map_eq_some_iff.mp e
  unfold eqX at hc
  split at hc
  · rename_i kvs more
    split at hc
    · rename_i g
      have hc := Option.some.inj hc
      subst hc
      obtain ⟨l, ps, rfl, m1, r1⟩ := ua.dic
      obtain ⟨l2, qs, rfl, m2, r2⟩ := ub.dic
      cases rx; cases ry
      have g1 := Bool.and_eq_true_iff.mp g
      have g2 := Bool.and_eq_true_iff.mp g1.1
      have g3 := Bool.and_eq_true_iff.mp g2.1
      obtain ⟨s1, _, xs, d1, p1⟩ := tup_view I m1 r1 g3.1
      obtain ⟨s2, _, ys, d2, p2⟩ := tup_view I m2 r2 g3.2
      have n1 := r1.length
      have n2 := r2.length
      have n3 := vals_len p1
      have n4 := vals_len p2
      refine dictH_eq (f := fun a b => PyData.eqv (SeqAt.readOf s.heap a) (SeqAt.readOf s.heap b)) (by omega) (show X.A.units + 1 + 8 < cLine by omega) s1 s2 d1 d2 (fun x hx y hy => ?_) ?_
      · obtain ⟨i, hi⟩ := List.getElem?_of_mem hx
        obtain ⟨j, hj⟩ := List.getElem?_of_mem hy
        obtain ⟨p, hp, ep⟩ := paired_at p1 hi
        obtain ⟨p', hp', ep'⟩ := paired_at p2 hj
        obtain ⟨k1, hk1, rk1⟩ := rep_valP r1 hp
        obtain ⟨k2, hk2, rk2⟩ := rep_valP r2 hp'
        have w1 := List.all_eq_true.mp g2.2 k1 (List.mem_of_getElem? hk1)
        have w2 := List.all_eq_true.mp g1.2 k2 (List.mem_of_getElem? hk2)
        obtain ⟨as, t1⟩ := rep_reads I rk1 ep.2.2.2 w1
        obtain ⟨bs, t2⟩ := rep_reads I rk2 ep'.2.2.2 w2
        rw [SeqAt.readOf_eq (shaped_lay w1) t1, SeqAt.readOf_eq (shaped_lay w2) t2]
        exact PySem.W.keq_at t1 t2 w1 w2 (show X.A.units + 1 + 64 < cLine by omega)
      · have z := dict_same_tup I r2 p2 g3.2 g1.2 r1 p1 g3.1 g2.2
        rw [z, ← n3, ← n4, ← n1, ← n2]
        exact ⟨.bl _, H, I, rfl, q _ _ (vval (.bl _))⟩
    · cases hc
  · unfold eqD at hc
    split at hc
    · rename_i g
      have hc := Option.some.inj hc
      subst hc
      have g1 := Bool.and_eq_true_iff.mp g
      exact op_eqD (by omega) pins s σ H x y v u Q I rx ry ⟨a, b, ua.dp (shaped_lay g1.1), ub.dp (shaped_lay g1.2), g1.1, g1.2, q _ _ (vval (.bl _))⟩
    · cases hc
theorem ne_ok (hu : X.A.units + 100 < cLine) : OpV X (compareOp .NotEq) (fun a b => bRes ((eqX a b).map (!·))) := by
  intro Av a b r pins s σ H x y v u Q I rx ry ua ub e q
  obtain ⟨c, hc0, rfl⟩ := Option.map_eq_some_iff.mp e
  obtain ⟨c', hc, hcc⟩ := Option.map_eq_some_iff.mp hc0
  subst hcc
  unfold eqX at hc
  split at hc
  · rename_i kvs more
    split at hc
    · rename_i g
      have hc := Option.some.inj hc
      subst hc
      obtain ⟨l, ps, rfl, m1, r1⟩ := ua.dic
      obtain ⟨l2, qs, rfl, m2, r2⟩ := ub.dic
      cases rx; cases ry
      have g1 := Bool.and_eq_true_iff.mp g
      have g2 := Bool.and_eq_true_iff.mp g1.1
      have g3 := Bool.and_eq_true_iff.mp g2.1
      obtain ⟨s1, _, xs, d1, p1⟩ := tup_view I m1 r1 g3.1
      obtain ⟨s2, _, ys, d2, p2⟩ := tup_view I m2 r2 g3.2
      have n1 := r1.length
      have n2 := r2.length
      have n3 := vals_len p1
      have n4 := vals_len p2
      refine dictH_ne (f := fun a b => PyData.eqv (SeqAt.readOf s.heap a) (SeqAt.readOf s.heap b)) (by omega) (show X.A.units + 1 + 8 < cLine by omega) s1 s2 d1 d2 (fun x hx y hy => ?_) ?_
      · obtain ⟨i, hi⟩ := List.getElem?_of_mem hx
        obtain ⟨j, hj⟩ := List.getElem?_of_mem hy
        obtain ⟨p, hp, ep⟩ := paired_at p1 hi
        obtain ⟨p', hp', ep'⟩ := paired_at p2 hj
        obtain ⟨k1, hk1, rk1⟩ := rep_valP r1 hp
        obtain ⟨k2, hk2, rk2⟩ := rep_valP r2 hp'
        have w1 := List.all_eq_true.mp g2.2 k1 (List.mem_of_getElem? hk1)
        have w2 := List.all_eq_true.mp g1.2 k2 (List.mem_of_getElem? hk2)
        obtain ⟨as, t1⟩ := rep_reads I rk1 ep.2.2.2 w1
        obtain ⟨bs, t2⟩ := rep_reads I rk2 ep'.2.2.2 w2
        rw [SeqAt.readOf_eq (shaped_lay w1) t1, SeqAt.readOf_eq (shaped_lay w2) t2]
        exact PySem.W.keq_at t1 t2 w1 w2 (show X.A.units + 1 + 64 < cLine by omega)
      · have z := dict_same_tup I r2 p2 g3.2 g1.2 r1 p1 g3.1 g2.2
        rw [z, ← n3, ← n4, ← n1, ← n2]
        exact ⟨.bl _, H, I, rfl, q _ _ (vval (.bl _))⟩
    · cases hc
  · unfold eqD at hc
    split at hc
    · rename_i g
      have hc := Option.some.inj hc
      subst hc
      have g1 := Bool.and_eq_true_iff.mp g
      exact op_neD (by omega) pins s σ H x y v u Q I rx ry ⟨a, b, ua.dp (shaped_lay g1.1), ub.dp (shaped_lay g1.2), g1.1, g1.2, q _ _ (vval (.bl _))⟩
    · cases hc
/-- in, not in, of a list or tuple -/
theorem in_seq (hu : X.A.units + 100 < cLine) : OpV X (compareOp .In) (fun a b => bRes (inD a b)) := by
  intro Av a b r pins s σ H x y v u Q I rx ry ua ub e q
  obtain ⟨c, hc, rfl⟩ := Option.map_eq_some_iff.mp e
  unfold inD at hc
  split at hc
  · split at hc
    · rename_i g
      have hc := Option.some.inj hc
      subst hc
      have g1 := Bool.and_eq_true_iff.mp g
      obtain ⟨as, r1⟩ := Dp.reads I _ x v (ua.dp (shaped_lay g1.1)) rx
      obtain ⟨bs, r2⟩ := Dp.reads I _ y u (ub.dp (shaped_lay g1.2)) ry
      exact SeqAt.in_list_reads r2 r1 (shaped_lay g1.2) (shaped_lay g1.1) (room_in_shaped g1.1 (by omega)) ⟨.bl _, H, I, rfl, q _ _ (vval (.bl _))⟩
    · cases hc
  · split at hc
    · rename_i g
      have hc := Option.some.inj hc
      subst hc
      have g1 := Bool.and_eq_true_iff.mp g
      obtain ⟨as, r1⟩ := Dp.reads I _ x v (ua.dp (shaped_lay g1.1)) rx
      obtain ⟨bs, r2⟩ := Dp.reads I _ y u (ub.dp (shaped_lay g1.2)) ry
      exact SeqAt.in_tuple_reads r2 r1 (shaped_lay g1.2) (shaped_lay g1.1) (room_in_shaped g1.1 (by omega)) ⟨.bl _, H, I, rfl, q _ _ (vval (.bl _))⟩
    · cases hc
  · cases hc
theorem notIn_seq (hu : X.A.units + 100 < cLine) : OpV X (compareOp .NotIn) (fun a b => bRes ((inD a b).map (!·))) := by
  intro Av a b r pins s σ H x y v u Q I rx ry ua ub e q
  obtain ⟨c, hc0, rfl⟩ := Option.map_eq_some_iff.mp e
  obtain ⟨c', hc, hcc⟩ := Option.map_eq_some_iff.mp hc0
  subst hcc
  unfold inD at hc
  split at hc
  · split at hc
    · rename_i g
      have hc := Option.some.inj hc
      subst hc
      have g1 := Bool.and_eq_true_iff.mp g
      obtain ⟨as, r1⟩ := Dp.reads I _ x v (ua.dp (shaped_lay g1.1)) rx
      obtain ⟨bs, r2⟩ := Dp.reads I _ y u (ub.dp (shaped_lay g1.2)) ry
      exact SeqAt.notIn_list_reads r2 r1 (shaped_lay g1.2) (shaped_lay g1.1) (room_in_shaped g1.1 (by omega)) ⟨.bl _, H, I, rfl, q _ _ (vval (.bl _))⟩
    · cases hc
  · split at hc
    · rename_i g
      have hc := Option.some.inj hc
      subst hc
      have g1 := Bool.and_eq_true_iff.mp g
      obtain ⟨as, r1⟩ := Dp.reads I _ x v (ua.dp (shaped_lay g1.1)) rx
      obtain ⟨bs, r2⟩ := Dp.reads I _ y u (ub.dp (shaped_lay g1.2)) ry
      exact SeqAt.notIn_tuple_reads r2 r1 (shaped_lay g1.2) (shaped_lay g1.1) (room_in_shaped g1.1 (by omega)) ⟨.bl _, H, I, rfl, q _ _ (vval (.bl _))⟩
    · cases hc
  · cases hc
theorem cmp_ok (hu : X.A.units + 100 < cLine) (op : CmpOp) : OpV X (compareOp op) (fun a b => bRes (cmpD op a b)) := by
  intro Av a b r pins s σ H x y v u Q I rx ry ua ub e q
  have e0 := e
  obtain ⟨c, hc, rfl⟩ := Option.map_eq_some_iff.mp e
  unfold cmpD at hc
  split at hc
  · cases ua.int; cases ub.int; cases hc
    exact op_lt pins s σ H _ _ v u Q I rx ry ⟨_, _, rfl, rfl, q _ _ (vval (.bl _))⟩
  · cases ua.int; cases ub.int; cases hc
    exact op_le pins s σ H _ _ v u Q I rx ry ⟨_, _, rfl, rfl, q _ _ (vval (.bl _))⟩
  · cases ua.int; cases ub.int; cases hc
    exact op_gt pins s σ H _ _ v u Q I rx ry ⟨_, _, rfl, rfl, q _ _ (vval (.bl _))⟩
  · cases ua.int; cases ub.int; cases hc
    exact op_ge pins s σ H _ _ v u Q I rx ry ⟨_, _, rfl, rfl, q _ _ (vval (.bl _))⟩
  · exact eq_ok hu Av _ _ _ pins s σ H x y v u Q I rx ry ua ub (by dsimp only; rw [hc]; rfl) q
  · exact ne_ok hu Av _ _ _ pins s σ H x y v u Q I rx ry ua ub (by dsimp only; rw [hc]; rfl) q
  · cases hc
    rw [ua.isNone] at q
    cases ub.none
    exact op_isN pins s σ H _ _ v u Q I rx ry ⟨rfl, q _ _ (vval (.bl _))⟩
  · cases hc
    rw [ua.isNone] at q
    cases ub.none
    exact op_notN pins s σ H _ _ v u Q I rx ry ⟨rfl, q _ _ (vval (.bl _))⟩
  · rename_i b'
    have hc := Option.some.inj hc
    subst hc
    cases ub.bool
    have eu : u = Value.bool b' := ry
    subst eu
    cases ua with
    | rep rr =>
      cases rr with
      | non => have e : v = Value.none := rx; subst e; exact wpAny_pure ⟨.bl _, H, I, rfl, q _ _ (vval (.bl _))⟩
      | bl c => have e : v = Value.bool c := rx; subst e; cases c <;> cases b' <;> exact wpAny_pure ⟨.bl _, H, I, rfl, q _ _ (vval (.bl _))⟩
      | int i => obtain ⟨t, rfl⟩ := rx; exact wpAny_pure ⟨.bl _, H, I, rfl, q _ _ (vval (.bl _))⟩
      | str i => obtain ⟨t, rfl⟩ := rx; exact wpAny_pure ⟨.bl _, H, I, rfl, q _ _ (vval (.bl _))⟩
      | tup _ _ => have e : v = Value.ref _ := rx; subst e; exact wpAny_pure ⟨.bl _, H, I, rfl, q _ _ (vval (.bl _))⟩
      | lst _ _ => have e : v = Value.ref _ := rx; subst e; exact wpAny_pure ⟨.bl _, H, I, rfl, q _ _ (vval (.bl _))⟩
      | dic _ _ _ => have e : v = Value.ref _ := rx; subst e; exact wpAny_pure ⟨.bl _, H, I, rfl, q _ _ (vval (.bl _))⟩
    | own rr => cases rr <;> (have e : v = Value.ref _ := rx; subst e; exact wpAny_pure ⟨.bl _, H, I, rfl, q _ _ (vval (.bl _))⟩)
  · split at hc
    · rename_i kvs g
      cases hc
      obtain ⟨l, ps, rfl, m, rr⟩ := ub.dic
      cases ry
      exact dict_in (by omega) I m rr g (ua.nest (kvOk_nest g)) rx fun s' I' => ⟨.bl _, H, I', rfl, q _ _ (vval (.bl _))⟩
    · cases hc
  · split at hc
    · rename_i kvs g
      cases hc
      obtain ⟨l, ps, rfl, m, rr⟩ := ub.dic
      cases ry
      exact dict_notIn (by omega) I m rr g (ua.nest (kvOk_nest g)) rx fun s' I' => ⟨.bl _, H, I', rfl, q _ _ (vval (.bl _))⟩
    · cases hc
  · exact in_seq hu Av _ _ _ pins s σ H x y v u Q I rx ry ua ub (by dsimp only; rw [hc]; rfl) q
  · exact notIn_seq hu Av _ _ _ pins s σ H x y v u Q I rx ry ua ub (by dsimp only; rw [hc]; rfl) q
  · cases hc
end
end Mp

/-! Mp15: built-ins, by values. -/
namespace Mp
open PySem PySem.Spec PyProof.Rows L2

/-! ### lists of ints, sorted -/
theorem insI_perm (x : Int) : ∀ ys : List Int, (insI x ys).Perm (x :: ys)
  | [] => .refl _
  | y :: ys => by
    unfold insI
    split
    · exact .refl _
    · exact ((insI_perm x ys).cons y).trans (.swap x y ys)
theorem sortI_perm : ∀ xs : List Int, (sortI xs).Perm xs
  | [] => .refl _
  | x :: xs => (insI_perm x _).trans ((sortI_perm xs).cons x)
theorem insI_sorted (x : Int) : ∀ ys : List Int, ys.Pairwise (· ≤ ·) → (insI x ys).Pairwise (· ≤ ·)
  | [], _ => by simp [insI]
  | y :: ys, h => by
    unfold insI
    have h1 := List.pairwise_cons.mp h
    split
    · rename_i c
      refine List.pairwise_cons.mpr ⟨fun z hz => ?_, h⟩
      rcases List.mem_cons.mp hz with rfl | hz
      · exact c
      · exact Int.le_trans c (h1.1 z hz)
    · rename_i c
      refine List.pairwise_cons.mpr ⟨fun z hz => ?_, insI_sorted x ys h1.2⟩
      have hm := (insI_perm x ys).mem_iff.mp hz
      rcases List.mem_cons.mp hm with rfl | hm
      · omega
      · exact h1.1 z hm
theorem sortI_sorted : ∀ xs : List Int, (sortI xs).Pairwise (· ≤ ·)
  | [] => .nil
  | x :: xs => insI_sorted x _ (sortI_sorted xs)
theorem sorted_eq : ∀ {xs ys : List Int}, xs.Perm ys → xs.Pairwise (· ≤ ·) → ys.Pairwise (· ≤ ·) → xs = ys
  | [], ys, p, _, _ => by rw [p.nil_eq]
  | x :: xs, [], p, _, _ => by have := p.length_eq; simp at this
  | x :: xs, y :: ys, p, h1, h2 => by
    have a := List.pairwise_cons.mp h1
    have b := List.pairwise_cons.mp h2
    have e : x = y := by
      have m1 : x ∈ y :: ys := p.mem_iff.mp (by simp)
      have m2 : y ∈ x :: xs := p.mem_iff.mpr (by simp)
      rcases List.mem_cons.mp m1 with e | m1
      · exact e
      rcases List.mem_cons.mp m2 with e | m2
      · exact e.symm
      have := a.1 y m2
      have := b.1 x m1
      omega
    subst e
    rw [sorted_eq (p.cons_inv) a.2 b.2]
theorem sortI_eq {xs ys : List Int} (p : xs.Perm ys) (h : xs.Pairwise (· ≤ ·)) : xs = sortI ys := sorted_eq (p.trans (sortI_perm ys).symm) h (sortI_sorted ys)
theorem minI_mem : ∀ (xs : List Int) (m : Int), minI m xs ∈ m :: xs ∧ ∀ y ∈ m :: xs, minI m xs ≤ y
  | [], m => by simp [minI]
  | x :: xs, m => by
    unfold minI
    obtain ⟨h1, h2⟩ := minI_mem xs (if x < m then x else m)
    refine ⟨?_, fun y hy => ?_⟩
    · rcases List.mem_cons.mp h1 with e | e
      · rw [e]; split <;> simp
      · simp [e]
    · rcases List.mem_cons.mp hy with rfl | hy
      · refine Int.le_trans (h2 _ List.mem_cons_self) ?_
        split <;> omega
      · rcases List.mem_cons.mp hy with rfl | hy
        · refine Int.le_trans (h2 _ List.mem_cons_self) ?_
          split <;> omega
        · exact h2 y (by simp [hy])
theorem maxI_mem : ∀ (xs : List Int) (m : Int), maxI m xs ∈ m :: xs ∧ ∀ y ∈ m :: xs, y ≤ maxI m xs
  | [], m => by simp [maxI]
  | x :: xs, m => by
    unfold maxI
    obtain ⟨h1, h2⟩ := maxI_mem xs (if x > m then x else m)
    refine ⟨?_, fun y hy => ?_⟩
    · rcases List.mem_cons.mp h1 with e | e
      · rw [e]; split <;> simp
      · simp [e]
    · rcases List.mem_cons.mp hy with rfl | hy
      · refine Int.le_trans ?_ (h2 _ List.mem_cons_self)
        split <;> omega
      · rcases List.mem_cons.mp hy with rfl | hy
        · refine Int.le_trans ?_ (h2 _ List.mem_cons_self)
          split <;> omega
        · exact h2 y (by simp [hy])

section
variable {P : Program} {w : World} {K : PySem.W.Frag} {H : Hp} {Av : Addr → Prop}
theorem intsD_eq : ∀ {ds : List D} {ns : List Int}, intsD ds = some ns → ds = ns.map .int
  | [], ns, e => by cases e; rfl
  | d :: ds, ns, e => by
    cases d <;> simp only [intsD] at e <;> try cases e
    obtain ⟨ms, e1, rfl⟩ := Option.map_eq_some_iff.mp e
    rw [intsD_eq e1]; rfl
theorem boolsD_eq : ∀ {ds : List D} {ns : List Bool}, boolsD ds = some ns → ds = ns.map .bool
  | [], ns, e => by cases e; rfl
  | d :: ds, ns, e => by
    cases d <;> simp only [boolsD] at e <;> try cases e
    obtain ⟨ms, e1, rfl⟩ := Option.map_eq_some_iff.mp e
    rw [boolsD_eq e1]; rfl
theorem RepL.ints : ∀ {ns : List Int} {vs : List V}, RepL P w K H Av (ns.map .int) vs → vs = ns.map .int
  | [], _, .nil => rfl
  | _ :: _, _, .cons h t => by cases h; rw [RepL.ints t]; rfl
theorem RepL.bools : ∀ {ns : List Bool} {vs : List V}, RepL P w K H Av (ns.map .bool) vs → vs = ns.map .bl
  | [], _, .nil => rfl
  | _ :: _, _, .cons h t => by cases h; rw [RepL.bools t]; rfl
theorem repL_ints : ∀ ns : List Int, RepL P w K H Av (ns.map .int) (ns.map .int)
  | [] => .nil
  | n :: ns => .cons (.int n) (repL_ints ns)
end
section
variable {X : Cx}
/-- a built-in of one argument, by values -/
def B1 (X : Cx) (g : D → Option Res) (u : Value) : Prop := ∀ (Av : Addr → Prop) (a : D) (r : Res) (pins : List (Addr × Obj)) (s : Shared) (σ : L2.St) (H : Hp) (x : V) (v : Value) (Q : VK), Inv X pins σ H s → RelV x v →
  Use X.prog X.w X.K H Av a x → g a = some r → (∀ z H', VOut X.prog X.w X.K H Av r z H' → Q z H') → wpAny (model X.prog X.w) X.A (call u [v]) (EP X pins σ Q) X.xe s
theorem vals_one {x : V} {v : Value} (r : RelV x v) : Vals [x] [v] := .cons r .nil
theorem b1_len : B1 X bLen (.builtin "len") := by
  intro Av a r pins s σ H x v Q I rx ua e q
  unfold bLen at e
  obtain ⟨n, hn, rfl⟩ := Option.map_eq_some_iff.mp e
  unfold lenD at hn
  split at hn
  · cases hn
    obtain ⟨l, vs, rfl, h1, r1⟩ := ua.lst
    rw [r1.length] at q
    exact call_len_seq pins s σ H _ _ Q I (vals_one rx) ⟨l, vs, rfl, .inl h1, q _ _ (vval (.int _))⟩
  · cases hn
    obtain ⟨l, vs, rfl, h1, r1⟩ := ua.tup
    rw [r1.length] at q
    exact call_len_seq pins s σ H _ _ Q I (vals_one rx) ⟨l, vs, rfl, .inr h1, q _ _ (vval (.int _))⟩
  · cases hn
    obtain ⟨l, ps, rfl, m, r1⟩ := ua.dic
    rw [r1.length] at q
    cases rx
    exact dict_len I m fun t s' I' => ⟨.int _, H, I', ⟨t, rfl⟩, q _ _ (vval (.int _))⟩
  · cases hn
theorem b1_tuple : B1 X bTuple (.type "tuple") := by
  intro Av a r pins s σ H x v Q I rx ua e q
  unfold bTuple at e
  split at e
  · cases e
    obtain ⟨l, vs, rfl, h1, r1⟩ := ua.lst
    exact call_tuple_of pins s σ H _ _ Q I (vals_one rx) ⟨l, vs, rfl, .inl ⟨h1, fun p n => q _ _ (vtup n r1)⟩⟩
  · cases e
    obtain ⟨l, vs, rfl, h1, r1⟩ := ua.tup
    exact call_tuple_of pins s σ H _ _ Q I (vals_one rx) ⟨l, vs, rfl, .inr ⟨h1, q _ _ (vval (.tup h1 r1))⟩⟩
  · cases e
theorem b1_int : B1 X bInt (.type "int") := by
  intro Av a r pins s σ H x v Q I rx ua e q
  unfold bInt at e
  split at e
  · cases e
    cases ua.int
    exact call_int1 pins s σ H _ _ Q I (vals_one rx) (.inl ⟨_, rfl, q _ _ (vval (.int _))⟩)
  · cases e
theorem b1_abs : B1 X bAbs (.builtin "abs") := by
  intro Av a r pins s σ H x v Q I rx ua e q
  unfold bAbs at e
  split at e
  · cases e
    cases ua.int
    exact call_abs pins s σ H _ _ Q I (vals_one rx) ⟨_, rfl, q _ _ (vval (.int _))⟩
  · cases e
theorem b1_min (hc : X.calm = true) : B1 X bMin (.builtin "min") := by
  intro Av a r pins s σ H x v Q I rx ua e q
  unfold bMin at e
  split at e
  · obtain ⟨ns, h1, e⟩ := Option.bind_eq_some_iff.mp e
    split at e
    · cases e
    · rename_i m ms
      cases e
      have h2 := intsD_eq h1
      subst h2
      obtain ⟨l, vs, rfl, h3, r1⟩ := ua.lst
      have h4 := r1.ints
      subst h4
      refine cr_min hc pins s σ H _ _ Q I (vals_one rx) ⟨l, m :: ms, rfl, h3, by simp, fun b hb hm => ?_⟩
      obtain ⟨k1, k2⟩ := minI_mem ms m
      have : b = minI m ms := Int.le_antisymm (hm _ k1) (k2 _ hb)
      rw [this]
      exact q _ _ (vval (.int _))
  · cases e
theorem b1_max (hc : X.calm = true) : B1 X bMax (.builtin "max") := by
  intro Av a r pins s σ H x v Q I rx ua e q
  unfold bMax at e
  split at e
  · obtain ⟨ns, h1, e⟩ := Option.bind_eq_some_iff.mp e
    split at e
    · cases e
    · rename_i m ms
      cases e
      have h2 := intsD_eq h1
      subst h2
      obtain ⟨l, vs, rfl, h3, r1⟩ := ua.lst
      have h4 := r1.ints
      subst h4
      refine cr_max hc pins s σ H _ _ Q I (vals_one rx) ⟨l, m :: ms, rfl, h3, by simp, fun b hb hm => ?_⟩
      obtain ⟨k1, k2⟩ := maxI_mem ms m
      have : b = maxI m ms := Int.le_antisymm (k2 _ hb) (hm _ k1)
      rw [this]
      exact q _ _ (vval (.int _))
  · cases e
theorem b1_any (hc : X.calm = true) : B1 X bAny (.builtin "any") := by
  intro Av a r pins s σ H x v Q I rx ua e q
  unfold bAny at e
  split at e
  · obtain ⟨ns, h1, rfl⟩ := Option.map_eq_some_iff.mp e
    have h2 := boolsD_eq h1
    subst h2
    obtain ⟨l, vs, rfl, h3, r1⟩ := ua.lst
    have h4 := r1.bools
    subst h4
    exact cr_any hc pins s σ H _ _ Q I (vals_one rx) ⟨l, ns, rfl, h3, q _ _ (vval (.bl _))⟩
  · cases e
theorem b1_all (hc : X.calm = true) : B1 X bAll (.builtin "all") := by
  intro Av a r pins s σ H x v Q I rx ua e q
  unfold bAll at e
  split at e
  · obtain ⟨ns, h1, rfl⟩ := Option.map_eq_some_iff.mp e
    have h2 := boolsD_eq h1
    subst h2
    obtain ⟨l, vs, rfl, h3, r1⟩ := ua.lst
    have h4 := r1.bools
    subst h4
    exact cr_all hc pins s σ H _ _ Q I (vals_one rx) ⟨l, ns, rfl, h3, q _ _ (vval (.bl _))⟩
  · cases e
theorem b1_dict (hu : X.A.units + 100 < cLine) (hc : X.calm = true) : B1 X bDict (.type "dict") := by
  intro Av a r pins s σ H x v Q I rx ua e q
  unfold bDict at e
  split at e
  · obtain ⟨ps, h1, e⟩ := Option.bind_eq_some_iff.mp e
    split at e
    · rename_i ok
      cases e
      obtain ⟨l, vs, rfl, h3, r1⟩ := ua.lst
      cases rx
      exact dict_pairs (by omega) (I.ok.hd hc) I h3 r1 h1 ok fun p o ps' s' n I' m rp => ⟨.ref p, _, I', rfl, q _ _ ⟨p, _, rfl, n, rfl, .dic m rp⟩⟩
    · cases e
  · cases e
/-- the keys as they stand -/
theorem keys_vals {P : Program} {w : World} : ∀ {ps : List (V × V)} {vs : List (Key × Value)}, Paired EntS ps vs → ps.map (·.1) = vs.map fun p => kV p.1
  | _, _, .nil => rfl
  | _, _, .cons h t => by rw [List.map_cons, List.map_cons, h.1, keys_vals (P := P) (w := w) t]
theorem repP_keys {P : Program} {w : World} {K : PySem.W.Frag} {H : Hp} {Av : Addr → Prop} : ∀ {kvs : List (D × D)} {ps : List (V × V)}, RepP P w K H Av kvs ps → RepL P w K H Av (kvs.map (·.1)) (ps.map (·.1))
  | _, _, .nil => .nil
  | _, _, .cons h _ t => .cons h (repP_keys t)
theorem b1_list (hc : X.calm = true) : B1 X bList (.type "list") := by
  intro Av a r pins s σ H x v Q I rx ua e q
  unfold bList at e
  split at e
  · cases e
    obtain ⟨l, vs, rfl, h1, r1⟩ := ua.lst
    exact call_list_of pins s σ H _ _ Q I (vals_one rx) ⟨l, vs, rfl, .inl h1, fun p n => q _ _ (vlst n r1)⟩
  · cases e
    obtain ⟨l, vs, rfl, h1, r1⟩ := ua.tup
    exact call_list_of pins s σ H _ _ Q I (vals_one rx) ⟨l, vs, rfl, .inr h1, fun p n => q _ _ (vlst n r1)⟩
  · split at e
    · rename_i kvs ok
      cases e
      obtain ⟨l, ps, rfl, m, rp⟩ := ua.dic
      cases rx
      obtain ⟨lo, z, vs, dd, pe⟩ := scal_view I m rp ok
      obtain ⟨ep, hat⟩ := dd.dictAt
      have hl := vals_len pe
      refine PySem.W.kdl_call (PySem.W.kdl_dict (knd := mixKind X.prog X.w) (kvs := vs) (ep := ep) lo) (I.ok.hd hc) hat (by rw [← hl]; exact z) fun h' tk acc c' hk hD hacc => ?_
      have hv : Vals (vs.map fun p => kV p.1) acc.toList := keys_at (by rw [Array.length_toList]; exact hacc.1) fun j v e => hacc.2 j v (by rw [← Array.getElem?_toList]; exact e)
      have rk := repP_keys rp
      rw [keys_vals (P := X.prog) (w := X.w) pe] at rk
      refine ⟨.ref s.heap.objs.size, _, I.laid (t' := tk) hk (Nat.le_refl _) (show ObjOk X.prog X.w _ _ _ (.lst (vs.map fun p => kV p.1)) from ⟨by rw [List.length_map, ← hl]; exact z, acc.toList, c', hv, by rw [Array.toArray_toList]; exact hD⟩), rfl, q _ _ (vlst (I.hok.fresh (Nat.le_refl _)) rk)⟩
    · cases e
  · cases e
theorem scalK_ints : ∀ {kvs : List (D × D)} {ns : List Int}, kvs.map (·.1) = ns.map .int → (kvs.all fun p => scalK p.1) = true
  | [], _, _ => rfl
  | p :: kvs, [], e => by cases e
  | p :: kvs, n :: ns, e => by
    rw [List.map_cons, List.map_cons] at e
    injection e with e1 e2
    rw [List.all_cons, scalK_ints e2, e1]
    rfl
theorem b1_sorted (hc : X.calm = true) : B1 X bSorted (.builtin "sorted") := by
  intro Av a r pins s σ H x v Q I rx ua e q
  unfold bSorted at e
  split at e
  · obtain ⟨ns, h1, rfl⟩ := Option.map_eq_some_iff.mp e
    have h2 := intsD_eq h1
    subst h2
    obtain ⟨l, vs, rfl, h3, r1⟩ := ua.lst
    have h4 := r1.ints
    subst h4
    refine cr_sortedI pins s σ H _ _ Q I (vals_one rx) ⟨l, ns, rfl, h3, fun ns' p k1 k2 n => ?_⟩
    rw [sortI_eq k1 k2]
    exact q _ _ (vlst n (repL_ints _))
  · rename_i kvs
    split at e
    · rename_i h64
      obtain ⟨ks, h1, rfl⟩ := Option.map_eq_some_iff.mp e
      have h64 := of_decide_eq_true h64
      have h2 := intsD_eq h1
      obtain ⟨l, ps, rfl, m, rp⟩ := ua.dic
      cases rx
      obtain ⟨lo, z, vs, dd, pe⟩ := scal_view I m rp (scalK_ints h2)
      obtain ⟨ep, hat⟩ := dd.dictAt
      have hl0 := vals_len pe
      have hl1 := rp.length
      have hkeys : vs.map (fun p => kV p.1) = ks.map V.int := by
        rw [← keys_vals (P := X.prog) (w := X.w) pe]
        have rk := repP_keys rp
        rw [h2] at rk
        exact rk.ints
      have hl : vs.length = ks.length := by
        have e := congrArg List.length hkeys
        rw [List.length_map, List.length_map] at e
        exact e
      have h16 : vs.length ≤ sizeLine := by rw [← hl0]; exact z
      refine Calls.call_function_entry PyProof.Rows.kind_sorted PyProof.Rows.plain_sorted PyProof.Rows.entry_sorted (PyProof.Rows.args_sorted1 _) ?_
      unfold Builtin.«sorted»
      refine wpAny_bind (m := checkCount "sorted" 1 1 _) (wpAny_pure ?_)
      refine wpAny_bind (PySem.W.kdu_collect (A := X.A.in1) (PySem.W.kdl_dict (knd := mixKind X.prog X.w) (kvs := vs) (ep := ep) lo) (I.ok.hd hc) hat h16 fun h' tk acc hk hacc => ?_)
      have hal : acc.toList.length = ks.length := by rw [Array.length_toList, hacc.1, hl]
      have hv : Vals (vs.map fun p => kV p.1) acc.toList := keys_at (by rw [Array.length_toList]; exact hacc.1) fun j v e => hacc.2 j v (by rw [← Array.getElem?_toList]; exact e)
      rw [hkeys] at hv
      have hS : IntsAre acc.toList ks := hv.ints
      have I1 : Inv X pins σ H { s with heap := h', toks := tk } := I.kept hk
      have h64' : ks.length < 64 := by omega
      refine wpAny_bind (wpAny_newList ?_ (by rw [hal, sizeLine_eq]; omega))
      have hoL : (h'.push (seqObj "list" acc.toList.toArray 0)).get? h'.objs.size = some (seqObj "list" acc.toList.toArray 0) := Heap.get?_push_size _ rfl
      show wpAny _ _ _ _ _ { s with heap := h'.push (seqObj "list" acc.toList.toArray 0), toks := tk }
      refine wpAny_bind (wpAny_holding (wpAny_call_entry PyProof.Rows.slot_list_sort ⟨_, hoL, rfl⟩ PyProof.Rows.entry_list_sort
        (PyProof.Rows.list_sort_tree (s := { s with heap := h'.push (seqObj "list" acc.toList.toArray 0), toks := tk }) hoL hS (by rw [hal]; exact h64') fun out ys g1 g2 g3 => ⟨_, rfl, ?_⟩) (PyProof.Rows.args_list_sort _)))
      obtain ⟨e', he'⟩ := PyProof.Rows.sortedHeap_at (vs := acc.toList) (out := out) hoL
      have hlen : (ys.map V.int).length ≤ sizeLine := by
        rw [List.length_map, g2.length_eq]
        exact Nat.le_trans (Nat.le_of_lt h64') (by decide)
      refine wpAny_pure ⟨_, rfl, .ref h'.objs.size, upd H h'.objs.size (.lst (ys.map V.int)), I1.laid (t' := tk) (fun b u e => ?_) (Nat.le_refl _)
        (show ObjOk X.prog X.w _ _ _ (.lst (ys.map V.int)) from ⟨hlen, out.toList, e', vals_of_ints g1, by rw [Array.toArray_toList]; exact he'⟩), rfl, ?_⟩
      · have hb : b < h'.objs.size := Heap.lt_size e
        rw [PyProof.Rows.sortedHeap_old (Nat.ne_of_lt hb) (by rw [size_push']; exact Nat.lt_succ_of_lt hb)]
        exact Heap.get?_push_of_some _ e
      · rw [sortI_eq g2 g3] at *
        exact q _ _ (vlst (I1.hok.fresh (Nat.le_refl _)) (repL_ints _))
    · cases e
  · cases e
def isFun (u : Value) : Prop := (∃ id, u = .builtin id) ∨ ∃ T, u = .type T
/-- any of them -/
theorem b1_ok (hu : X.A.units + 100 < cLine) (hc : X.calm = true) {f : Str} {a : D} {r : Res} (e : b1D f a = some r) : ∃ g u, g a = some r ∧ bootBuiltins f = some u ∧ (f == ("__debug__" : Str)) = false ∧ f ≠ "__name__" ∧ isFun u ∧ B1 X g u := by
  unfold b1D at e
  split at e
  · rename_i h
    subst h
    exact ⟨_, _, e, by decide +kernel, by decide +kernel, by decide +kernel, .inl ⟨_, rfl⟩, b1_len⟩
  split at e
  · rename_i h
    subst h
    exact ⟨_, _, e, by decide +kernel, by decide +kernel, by decide +kernel, .inr ⟨_, rfl⟩, b1_tuple⟩
  split at e
  · rename_i h
    subst h
    exact ⟨_, _, e, by decide +kernel, by decide +kernel, by decide +kernel, .inr ⟨_, rfl⟩, b1_int⟩
  split at e
  · rename_i h
    subst h
    exact ⟨_, _, e, by decide +kernel, by decide +kernel, by decide +kernel, .inl ⟨_, rfl⟩, b1_abs⟩
  split at e
  · rename_i h
    subst h
    exact ⟨_, _, e, by decide +kernel, by decide +kernel, by decide +kernel, .inr ⟨_, rfl⟩, b1_list hc⟩
  split at e
  · rename_i h
    subst h
    exact ⟨_, _, e, by decide +kernel, by decide +kernel, by decide +kernel, .inr ⟨_, rfl⟩, b1_dict hu hc⟩
  split at e
  · rename_i h
    subst h
    exact ⟨_, _, e, by decide +kernel, by decide +kernel, by decide +kernel, .inl ⟨_, rfl⟩, b1_sorted hc⟩
  split at e
  · rename_i h
    subst h
    exact ⟨_, _, e, by decide +kernel, by decide +kernel, by decide +kernel, .inl ⟨_, rfl⟩, b1_min hc⟩
  split at e
  · rename_i h
    subst h
    exact ⟨_, _, e, by decide +kernel, by decide +kernel, by decide +kernel, .inl ⟨_, rfl⟩, b1_max hc⟩
  split at e
  · rename_i h
    subst h
    exact ⟨_, _, e, by decide +kernel, by decide +kernel, by decide +kernel, .inl ⟨_, rfl⟩, b1_all hc⟩
  split at e
  · rename_i h
    subst h
    exact ⟨_, _, e, by decide +kernel, by decide +kernel, by decide +kernel, .inl ⟨_, rfl⟩, b1_any hc⟩
  cases e
theorem b2_ok (hc : X.calm = true) {f : Str} {a b : D} {r : Res} (e : b2D f a b = some r) : ∃ u, bootBuiltins f = some u ∧ (f == ("__debug__" : Str)) = false ∧ f ≠ "__name__" ∧ isFun u ∧
    ∀ (Av : Addr → Prop) (pins : List (Addr × Obj)) (s : Shared) (σ : L2.St) (H : Hp) (x y : V) (v v2 : Value) (Q : VK), Inv X pins σ H s → RelV x v → RelV y v2 → Use X.prog X.w X.K H Av a x → Use X.prog X.w X.K H Av b y →
      (∀ z H', VOut X.prog X.w X.K H Av r z H' → Q z H') → wpAny (model X.prog X.w) X.A (call u [v, v2]) (EP X pins σ Q) X.xe s := by
  by_cases h1 : f = "min"
  · subst h1
    unfold b2D at e
    rw [if_pos rfl] at e
    unfold bMin2 at e
    split at e
    · cases e
      refine ⟨.builtin "min", by decide +kernel, by decide +kernel, by decide +kernel, .inl ⟨_, rfl⟩, fun Av pins s σ H x y v v2 Q I rx ry ua ub q => ?_⟩
      cases ua.int
      cases ub.int
      exact call_min2 hc pins s σ H _ _ Q I (.cons rx (.cons ry .nil)) ⟨_, _, rfl, q _ _ (vval (.int _))⟩
    · cases e
  by_cases h2 : f = "max"
  · subst h2
    unfold b2D at e
    rw [if_neg h1, if_pos rfl] at e
    unfold bMax2 at e
    split at e
    · cases e
      refine ⟨.builtin "max", by decide +kernel, by decide +kernel, by decide +kernel, .inl ⟨_, rfl⟩, fun Av pins s σ H x y v v2 Q I rx ry ua ub q => ?_⟩
      cases ua.int
      cases ub.int
      exact call_max2 hc pins s σ H _ _ Q I (.cons rx (.cons ry .nil)) ⟨_, _, rfl, q _ _ (vval (.int _))⟩
    · cases e
  unfold b2D at e
  rw [if_neg h1, if_neg h2] at e
  cases e
end
end Mp

/-! Mp16: the reader's expressions keep to the model. -/
namespace Mp
open PySem PySem.Spec PyProof.Rows L2
section
variable (P : Program) (w : World) (K : PySem.W.Frag)
def tF (f : EvF) : TE := fun σ H Q => ∃ T env r env', Rel P w K T env σ H ∧ f env = some (r, env') ∧ ∀ v H' T', Go T env σ H T' env' σ H' → Rel P w K T' env' σ H' → InF P w K T T' env' σ H' r v → Q v H'
def tT (f : Mp.Env → Option (Bool × Mp.Env)) : TT := fun σ H Q => ∃ T env b env', Rel P w K T env σ H ∧ f env = some (b, env') ∧ ∀ H', Go T env σ H T env' σ H' → Rel P w K T env' σ H' → Q b H'
def tFs (fs : List EvF) : TA := fun σ H Q => ∃ T env rs env', Rel P w K T env σ H ∧ eAll fs env = some (rs, env') ∧ ∀ vs H' T', Go T env σ H T' env' σ H' → Rel P w K T' env' σ H' → InFs P w K T T' env' σ H' rs vs → Q vs H'
end
abbrev xF (X : Cx) (f : EvF) : TE := tF X.prog X.w X.K f
abbrev xT (X : Cx) (f : Mp.Env → Option (Bool × Mp.Env)) : TT := tT X.prog X.w X.K f
abbrev xFs (X : Cx) (fs : List EvF) : TA := tFs X.prog X.w X.K fs
section
variable {X : Cx} {e : Expr} {t t' : TE}
theorem pe_imp (h : PE X e t) (i : ∀ σ H Q, t' σ H Q → t σ H Q) : PE X e t' := ⟨fun pins s σ H Q I q => h.run pins s σ H Q I (i σ H Q q)⟩
theorem pt_imp {t t' : TT} (h : PT X e t) (i : ∀ σ H Q, t' σ H Q → t σ H Q) : PT X e t' := ⟨fun pins s σ H Q I q => h.run pins s σ H Q I (i σ H Q q)⟩
theorem pw_imp {t t' : TT} (h : PW X e t) (i : ∀ σ H Q, t' σ H Q → t σ H Q) : PW X e t' := ⟨fun whole pins s σ H Q I q => h.run whole pins s σ H Q I (i σ H Q q)⟩
theorem pa_imp {es : List Expr} {t t' : TA} (h : PA X es t) (i : ∀ σ H Q, t' σ H Q → t σ H Q) : PA X es t' := ⟨fun pos pins s σ H Q I q => h.run pos pins s σ H Q I (i σ H Q q)⟩
end
section
variable {P : Program} {w : World} {K : PySem.W.Frag} {T T0 T' : Addr → Prop} {env env' : Mp.Env} {σ : L2.St} {H H' : Hp}
/-- what was made for a test's sake is let go -/
theorem Go.drop {σ' : L2.St} (g : Go T env σ H T' env' σ' H') : Go T env σ H T env' σ' H' := g.less .refl g.sub fun _ h => h
theorem Rel.drop {σ' : L2.St} (R : Rel P w K T' env' σ' H') (g : Go T env σ H T' env' σ' H') : Rel P w K T env' σ' H' := R.less .refl g.sub
theorem newOf_le {r : Res} {v : V} (i : InF P w K T0 T env σ H r v) (s : ∀ a, T0 a → T a) : ∀ a, newOf T0 r v a → T a := by
  intro a h
  cases r with
  | val d => exact s a h
  | plc j => exact s a h
  | new d =>
    obtain ⟨b, rfl, tb, _, _⟩ := i
    rcases h with h | h
    · exact s a h
    · cases h; exact tb
end
section
variable {X : Cx} {σ : L2.St} {H : Hp} {f g h : EvF}

/-! ### two values, one value -/
def rV (X : Cx) (k : D → D → Option Res) : R2 := fun x y H Q => ∃ Av a b r, Use X.prog X.w X.K H Av a x ∧ Use X.prog X.w X.K H Av b y ∧ k a b = some r ∧ ∀ z H', VOut X.prog X.w X.K H Av r z H' → Q z H'
def rU1 (X : Cx) (k : D → Option Res) : V → Hp → VK → Prop := fun x H Q => ∃ Av a r, Use X.prog X.w X.K H Av a x ∧ k a = some r ∧ ∀ z H', VOut X.prog X.w X.K H Av r z H' → Q z H'
theorem opR_of {f : Value → Value → Sem Value} {k : D → D → Option Res} (h : OpV X f k) : OpR X f (rV X k) := by
  rintro pins s σ H x y v u Q I rx ry ⟨Av, a, b, r, ua, ub, e, q⟩
  exact h Av a b r pins s σ H x y v u Q I rx ry ua ub e q
theorem tF_op {k : D → D → Option Res} {Q : VK} (h : xF X (eOp k f g) σ H Q) : tOp (rV X k) (xF X f) (xF X g) σ H Q := by
  obtain ⟨T, env, r, env', R, e, q⟩ := h
  unfold eOp at e
  obtain ⟨⟨p, e1⟩, h1, e⟩ := Option.bind_eq_some_iff.mp e
  obtain ⟨⟨p2, e2⟩, h2, e⟩ := Option.bind_eq_some_iff.mp e
  obtain ⟨a, ha, e⟩ := Option.bind_eq_some_iff.mp e
  obtain ⟨b, hb, e⟩ := Option.bind_eq_some_iff.mp e
  obtain ⟨r', hr, e⟩ := Option.map_eq_some_iff.mp e
  cases e
  refine ⟨T, env, p, e1, R, h1, fun v H1 T1 g1 R1 i1 => ⟨T1, e1, p2, e2, R1, h2, fun u H2 T2 g2 R2 i2 => ?_⟩⟩
  have i1' := i1.step R1 g2
  refine ⟨_, a, b, r, i1'.use R2 ha, i2.use R2 hb, hr, fun z H' vo => ?_⟩
  obtain ⟨T3, g3, R3, i3⟩ := vo.go R2
  exact q z H' T3 ((g1.trans g2).trans g3) R3 (i3.base fun a h => g2.sub a (g1.sub a h))
theorem tF_un {k : D → Option Res} {Q : VK} (h : xF X (eUn k f) σ H Q) : tUn (rU1 X k) (xF X f) σ H Q := by
  obtain ⟨T, env, r, env', R, e, q⟩ := h
  unfold eUn at e
  obtain ⟨⟨p, e1⟩, h1, e⟩ := Option.bind_eq_some_iff.mp e
  obtain ⟨a, ha, e⟩ := Option.bind_eq_some_iff.mp e
  obtain ⟨r', hr, e⟩ := Option.map_eq_some_iff.mp e
  cases e
  refine ⟨T, env, p, e1, R, h1, fun v H1 T1 g1 R1 i1 => ⟨_, a, r, i1.use R1 ha, hr, fun z H' vo => ?_⟩⟩
  obtain ⟨T3, g3, R3, i3⟩ := vo.go R1
  exact q z H' T3 (g1.trans g3) R3 (i3.base g1.sub)
/-- a test by a value -/
theorem tF_test {Q : Bool → Hp → Prop} (h : xT X (tst f) σ H Q) : xF X f σ H fun x H' => ∃ k, x = .bl k ∧ Q k H' := by
  obtain ⟨T, env, b, env', R, e, q⟩ := h
  unfold tst at e
  obtain ⟨⟨d, e1⟩, h1, e⟩ := Option.bind_eq_some_iff.mp e
  obtain ⟨b', hb, e⟩ := Option.map_eq_some_iff.mp e
  cases e
  unfold eUse at h1
  obtain ⟨⟨r, e2⟩, h2, h1⟩ := Option.bind_eq_some_iff.mp h1
  obtain ⟨d', hd, h1⟩ := Option.map_eq_some_iff.mp h1
  cases h1
  refine ⟨T, env, r, _, R, h2, fun v H' T' g R' i => ?_⟩
  have u := i.use R' hd
  cases d <;> first | (cases hb; done) | skip
  cases hb
  exact ⟨_, u.bool, q H' g.drop (R'.drop g)⟩
end
section
variable {X : Cx} {a b c : Expr} {f g h : EvF} {pos : Pos}
structure EX (X : Cx) (e : Expr) (f : EvF) : Prop where
  pe : PE X e (xF X f)
  pt : PT X e (xT X (tst f))
  pw : ∀ op es pos, e = .BoolOp op es pos → PW X e (xT X (tst f))
theorem EX.ofFail {e : Expr} : EX X e fail where
  pe := ⟨fun _ _ _ _ _ _ h => by obtain ⟨_, _, _, _, _, e, _⟩ := h; cases e⟩
  pt := ⟨fun _ _ _ _ _ _ h => by obtain ⟨_, _, _, _, _, e, _⟩ := h; cases e⟩
  pw := fun _ _ _ _ => ⟨fun _ _ _ _ _ _ _ h => by obtain ⟨_, _, _, _, _, e, _⟩ := h; cases e⟩
/-- an expression that is tested by its value -/
theorem EX.ofVal {e : Expr} (h : PE X e (xF X f)) (he : ∀ whole, isTrue e X.env whole = (do let v ← whole; standAt e.pos; holding [v] (truthy v))) (hn : ∀ op es pos, e ≠ .BoolOp op es pos) : EX X e f where
  pe := h
  pt := pt_imp (pt_val h he) fun _ _ _ q => tF_test q
  pw := fun op es pos q => absurd q (hn op es pos)

theorem ex_bin {op : Operator} (ha : EX X a f) (hb : EX X b g) : EX X (.BinOp a op b pos) (eBin op f g) :=
  .ofVal (pe_imp (pe_op (opR_of (bin_ok op)) ha.pe hb.pe) fun _ _ _ h => tF_op h) (fun _ => rfl) (fun _ _ _ h => nomatch h)
theorem ex_cmp {op : CmpOp} (hu : X.A.units + 100 < cLine) (ha : EX X a f) (hb : EX X b g) (hm : behindInMarks op b = false) : EX X (.Compare a [op] [b] pos) (eCmp op f g) where
  pe := pe_imp (pe_cmpR (opR_of (cmp_ok hu op)) ha.pe hb.pe hm) fun _ _ _ h => tF_op h
  pt := pt_imp (pt_cmpR (opR_of (cmp_ok hu op)) ha.pe hb.pe hm) fun σ H Q h => tF_op (tF_test h)
  pw := fun op es pos q => nomatch q
theorem tF_chain {op1 op2 : CmpOp} {σ : L2.St} {H : Hp} {Q : VK} (q : xF X (eCh op1 op2 f g h) σ H Q) : tChain (rV X fun a b => bRes (cmpD op1 a b)) (rV X fun a b => bRes (cmpD op2 a b)) (xF X f) (xF X g) (xF X h) σ H Q := by
  obtain ⟨T, env, r, env', R, e, q⟩ := q
  unfold eCh at e
  obtain ⟨⟨p, e1⟩, h1, e⟩ := Option.bind_eq_some_iff.mp e
  obtain ⟨⟨p2, e2⟩, h2, e⟩ := Option.bind_eq_some_iff.mp e
  obtain ⟨a, ha, e⟩ := Option.bind_eq_some_iff.mp e
  obtain ⟨b, hb, e⟩ := Option.bind_eq_some_iff.mp e
  obtain ⟨c, hc, e⟩ := Option.bind_eq_some_iff.mp e
  refine ⟨T, env, p, e1, R, h1, fun v H1 T1 g1 R1 i1 => ⟨T1, e1, p2, e2, R1, h2, fun u H2 T2 g2 R2 i2 => ?_⟩⟩
  have i1' := i1.step R1 g2
  refine ⟨_, a, b, .val (.bool c), i1'.use R2 ha, i2.use R2 hb, by show bRes (cmpD op1 a b) = _; rw [hc]; rfl, fun z H' vo => ?_⟩
  obtain ⟨T3, g3, R3, i3⟩ := vo.go R2
  have i3' : Rep X.prog X.w X.K H' (Avd T3 e2 σ) (.bool c) z := i3
  cases i3'
  refine ⟨c, rfl, ?_⟩
  cases c with
  | true =>
    rw [if_pos rfl]
    rw [if_pos (show (true : Bool) = true from rfl)] at e
    obtain ⟨⟨p3, e3⟩, h3, e⟩ := Option.bind_eq_some_iff.mp e
    obtain ⟨b', hb', e⟩ := Option.bind_eq_some_iff.mp e
    obtain ⟨x', hx', e⟩ := Option.bind_eq_some_iff.mp e
    obtain ⟨r', hr', e⟩ := Option.map_eq_some_iff.mp e
    cases e
    refine ⟨T3, e2, p3, e3, R3, h3, fun y H4 T4 g4 R4 i4 => ?_⟩
    have i2' := (i2.step R2 g3).step R3 g4
    refine ⟨_, b', x', r, i2'.use R4 hb', i4.use R4 hx', hr', fun z H' vo => ?_⟩
    obtain ⟨T5, g5, R5, i5⟩ := vo.go R4
    exact q z H' T5 ((((g1.trans g2).trans g3).trans g4).trans g5) R5 (i5.base fun a h => g4.sub a (g3.sub a (g2.sub a (g1.sub a h))))
  | false =>
    rw [if_neg (by decide)]
    rw [if_neg (show ¬ ((false : Bool) = true) from fun z => nomatch z)] at e
    cases e
    exact q _ _ T3 ((g1.trans g2).trans g3) R3 (.bl false)
theorem ex_chain {op1 op2 : CmpOp} (hu : X.A.units + 100 < cLine) (ha : EX X a f) (hb : EX X b g) (hc : EX X c h) (hm : lastMarks [op1, op2] [b, c] = false) : EX X (.Compare a [op1, op2] [b, c] pos) (eCh op1 op2 f g h) where
  pe := pe_imp (pe_chain (opR_of (cmp_ok hu op1)) (opR_of (cmp_ok hu op2)) ha.pe hb.pe hc.pe hm) fun _ _ _ h => tF_chain h
  pt := pt_imp (pt_chain (opR_of (cmp_ok hu op1)) (opR_of (cmp_ok hu op2)) ha.pe hb.pe hc.pe hm) fun σ H Q h => tF_chain (tF_test h)
  pw := fun op es pos q => nomatch q
theorem unR_neg : UnR X (unaryOp .USub) (rU1 X fun a => vRes (negD a)) := by
  rintro pins s σ H x v Q I rx ⟨Av, a, r, ua, e, q⟩
  obtain ⟨d, hd, rfl⟩ := Option.map_eq_some_iff.mp e
  unfold negD at hd
  split at hd
  · cases hd
    cases ua.int
    exact un_neg pins s σ H _ v Q I rx ⟨_, rfl, q _ _ (vval (.int _))⟩
  · cases hd
theorem ex_neg (ha : EX X a f) : EX X (.UnaryOp .USub a pos) (eNeg f) :=
  .ofVal (pe_imp (pe_un unR_neg ha.pe) fun _ _ _ h => tF_un h) (fun _ => rfl) (fun _ _ _ h => nomatch h)
/-! ### not, and, or, if -/
theorem tT_bool {P : Program} {w : World} {K : PySem.W.Frag} {T : Addr → Prop} {env : Mp.Env} {σ : L2.St} {H : Hp} {c : Bool} : InF P w K T T env σ H (.val (.bool c)) (.bl c) := .bl c
theorem tst_val {k : Mp.Env → Option (Bool × Mp.Env)} {env : Mp.Env} {u : Bool → Bool} {b : Bool} {env' : Mp.Env} (e : tst (fun env => (k env).map fun p => (.val (.bool (u p.1)), p.2)) env = some (b, env')) : ∃ c, k env = some (c, env') ∧ b = u c := by
  unfold tst eUse at e
  obtain ⟨⟨d, e1⟩, h1, e⟩ := Option.bind_eq_some_iff.mp e
  obtain ⟨⟨r, e2⟩, h2, h1⟩ := Option.bind_eq_some_iff.mp h1
  obtain ⟨⟨c, e3⟩, h3, h2⟩ := Option.map_eq_some_iff.mp h2
  cases h2
  obtain ⟨d', hd, h1⟩ := Option.map_eq_some_iff.mp h1
  cases h1
  cases hd
  obtain ⟨b', hb, e⟩ := Option.map_eq_some_iff.mp e
  cases e
  cases hb
  exact ⟨c, h3, rfl⟩
theorem ex_not (ha : EX X a f) : EX X (.UnaryOp .Not a pos) (eNot f) where
  pe := pe_imp (pe_not ha.pe) fun σ H Q h => by
    obtain ⟨T, env, r, env', R, e, q⟩ := h
    obtain ⟨⟨c, e1⟩, h1, e⟩ := Option.map_eq_some_iff.mp e
    cases e
    show xF X f σ H fun x H1 => ∃ c, x = .bl c ∧ Q (.bl (!c)) H1
    refine tF_test ⟨T, env, c, _, R, h1, fun H' g R' => q _ H' T g R' (.bl _)⟩
  pt := pt_imp (pt_not ha.pt) fun σ H Q h => by
    obtain ⟨T, env, r, env', R, e, q⟩ := h
    obtain ⟨c, h1, rfl⟩ := tst_val (u := (!·)) e
    exact ⟨T, env, c, env', R, h1, q⟩
  pw := fun op es pos q => nomatch q
theorem tst_and {env env' : Mp.Env} {b : Bool} (e : tst (eAnd f g) env = some (b, env')) : ∃ c e1, tst f env = some (c, e1) ∧ (if c = true then tst g e1 = some (b, env') else b = false ∧ env' = e1) := by
  unfold tst eUse at e
  obtain ⟨⟨d, e1⟩, h1, e⟩ := Option.bind_eq_some_iff.mp e
  obtain ⟨⟨r, e2⟩, h2, h1⟩ := Option.bind_eq_some_iff.mp h1
  obtain ⟨⟨c, e3⟩, h3, h2⟩ := Option.bind_eq_some_iff.mp h2
  refine ⟨c, e3, h3, ?_⟩
  cases c with
  | true =>
    rw [if_pos rfl]
    rw [if_pos (show (true : Bool) = true from rfl)] at h2
    unfold tst eUse
    rw [h2]
    show ((deref e2 r).map fun d => (d, e2)).bind _ = _
    rw [h1]
    exact e
  | false =>
    rw [if_neg (by decide)]
    rw [if_neg (show ¬ ((false : Bool) = true) from fun z => nomatch z)] at h2
    cases h2
    cases h1
    cases e
    exact ⟨rfl, rfl⟩
theorem tst_or {env env' : Mp.Env} {b : Bool} (e : tst (eOr f g) env = some (b, env')) : ∃ c e1, tst f env = some (c, e1) ∧ (if c = true then b = true ∧ env' = e1 else tst g e1 = some (b, env')) := by
  unfold tst eUse at e
  obtain ⟨⟨d, e1⟩, h1, e⟩ := Option.bind_eq_some_iff.mp e
  obtain ⟨⟨r, e2⟩, h2, h1⟩ := Option.bind_eq_some_iff.mp h1
  obtain ⟨⟨c, e3⟩, h3, h2⟩ := Option.bind_eq_some_iff.mp h2
  refine ⟨c, e3, h3, ?_⟩
  cases c with
  | false =>
    rw [if_neg (by decide)]
    rw [if_neg (show ¬ ((false : Bool) = true) from fun z => nomatch z)] at h2
    unfold tst eUse
    rw [h2]
    show ((deref e2 r).map fun d => (d, e2)).bind _ = _
    rw [h1]
    exact e
  | true =>
    rw [if_pos rfl]
    rw [if_pos (show (true : Bool) = true from rfl)] at h2
    cases h2
    cases h1
    cases e
    exact ⟨rfl, rfl⟩
theorem tst_if {env env' : Mp.Env} {b : Bool} (e : tst (eIf h f g) env = some (b, env')) : ∃ c e1, tst h env = some (c, e1) ∧ (if c = true then tst f e1 = some (b, env') else tst g e1 = some (b, env')) := by
  unfold tst eUse at e
  obtain ⟨⟨d, e1⟩, h1, e⟩ := Option.bind_eq_some_iff.mp e
  obtain ⟨⟨r, e2⟩, h2, h1⟩ := Option.bind_eq_some_iff.mp h1
  obtain ⟨⟨c, e3⟩, h3, h2⟩ := Option.bind_eq_some_iff.mp h2
  refine ⟨c, e3, h3, ?_⟩
  cases c with
  | false =>
    rw [if_neg (by decide)]
    rw [if_neg (show ¬ ((false : Bool) = true) from fun z => nomatch z)] at h2
    unfold tst eUse
    rw [h2]
    show ((deref e2 r).map fun d => (d, e2)).bind _ = _
    rw [h1]
    exact e
  | true =>
    rw [if_pos rfl]
    rw [if_pos (show (true : Bool) = true from rfl)] at h2
    unfold tst eUse
    rw [h2]
    show ((deref e2 r).map fun d => (d, e2)).bind _ = _
    rw [h1]
    exact e
/-- two tests in a row -/
theorem tT_seq {k k1 : Mp.Env → Option (Bool × Mp.Env)} {σ : L2.St} {H : Hp} {T : Addr → Prop} {env e1 env' : Mp.Env} {b c : Bool} {Q : Bool → Hp → Prop} {H1 : Hp} (e : k1 e1 = some (b, env')) (g1 : Go T env σ H T e1 σ H1) (R1 : Rel X.prog X.w X.K T e1 σ H1)
    (q : ∀ H', Go T env σ H T env' σ H' → Rel X.prog X.w X.K T env' σ H' → Q b H') : xT X k1 σ H1 Q := ⟨T, e1, b, env', R1, e, fun H' g R => q H' (g1.trans g) R⟩
theorem ex_and {rest : List Expr} (ha : EX X a f) (hb : EX X (.BoolOp .And (b :: rest) pos) g) : EX X (.BoolOp .And (a :: b :: rest) pos) (eAnd f g) := by
  have key : PW X (.BoolOp .And (a :: b :: rest) pos) (xT X (tst (eAnd f g))) := pw_imp (pw_and ha.pt (hb.pw _ _ _ rfl)) fun σ H Q h => by
    obtain ⟨T, env, r, env', R, e, q⟩ := h
    obtain ⟨c, e1, h1, h2⟩ := tst_and e
    refine ⟨T, env, c, e1, R, h1, fun H1 g1 R1 => ?_⟩
    cases c with
    | true => rw [if_pos rfl]; rw [if_pos rfl] at h2; exact tT_seq (k := tst f) (c := true) h2 g1 R1 q
    | false =>
      rw [if_neg (by decide)]; rw [if_neg (show ¬ ((false : Bool) = true) from fun z => nomatch z)] at h2
      obtain ⟨rfl, rfl⟩ := h2
      exact q H1 g1 R1
  refine ⟨pe_imp (pe_and ha.pe hb.pe) fun σ H Q h => ?_, key.pt, fun _ _ _ _ => key⟩
  obtain ⟨T, env, r, env', R, e, q⟩ := h
  obtain ⟨⟨c, e1⟩, h1, e⟩ := Option.bind_eq_some_iff.mp e
  show xF X f σ H fun x H1 => ∃ c, x = .bl c ∧ if c = true then xF X g σ H1 Q else Q (.bl false) H1
  refine tF_test ⟨T, env, c, e1, R, h1, fun H1 g1 R1 => ?_⟩
  cases c with
  | true => rw [if_pos rfl]; rw [if_pos (show (true : Bool) = true from rfl)] at e; exact ⟨T, e1, r, env', R1, e, fun v H' T' g2 => q v H' T' (g1.trans g2)⟩
  | false =>
    rw [if_neg (by decide)]; rw [if_neg (show ¬ ((false : Bool) = true) from fun z => nomatch z)] at e
    cases e
    exact q _ H1 T g1 R1 (.bl false)
theorem ex_or {rest : List Expr} (ha : EX X a f) (hb : EX X (.BoolOp .Or (b :: rest) pos) g) : EX X (.BoolOp .Or (a :: b :: rest) pos) (eOr f g) := by
  have key : PW X (.BoolOp .Or (a :: b :: rest) pos) (xT X (tst (eOr f g))) := pw_imp (pw_or ha.pt (hb.pw _ _ _ rfl)) fun σ H Q h => by
    obtain ⟨T, env, r, env', R, e, q⟩ := h
    obtain ⟨c, e1, h1, h2⟩ := tst_or e
    refine ⟨T, env, c, e1, R, h1, fun H1 g1 R1 => ?_⟩
    cases c with
    | false => rw [if_neg (by decide)]; rw [if_neg (show ¬ ((false : Bool) = true) from fun z => nomatch z)] at h2; exact tT_seq (k := tst f) (c := true) h2 g1 R1 q
    | true =>
      rw [if_pos rfl]; rw [if_pos rfl] at h2
      obtain ⟨rfl, rfl⟩ := h2
      exact q H1 g1 R1
  refine ⟨pe_imp (pe_or ha.pe hb.pe) fun σ H Q h => ?_, key.pt, fun _ _ _ _ => key⟩
  obtain ⟨T, env, r, env', R, e, q⟩ := h
  obtain ⟨⟨c, e1⟩, h1, e⟩ := Option.bind_eq_some_iff.mp e
  show xF X f σ H fun x H1 => ∃ c, x = .bl c ∧ if c = true then Q (.bl true) H1 else xF X g σ H1 Q
  refine tF_test ⟨T, env, c, e1, R, h1, fun H1 g1 R1 => ?_⟩
  cases c with
  | false => rw [if_neg (by decide)]; rw [if_neg (show ¬ ((false : Bool) = true) from fun z => nomatch z)] at e; exact ⟨T, e1, r, env', R1, e, fun v H' T' g2 => q v H' T' (g1.trans g2)⟩
  | true =>
    rw [if_pos rfl]; rw [if_pos (show (true : Bool) = true from rfl)] at e
    cases e
    exact q _ H1 T g1 R1 (.bl true)
theorem ex_one {op : BoolOp} (ha : EX X a f) : EX X (.BoolOp op [a] pos) f := by
  have key : PW X (.BoolOp op [a] pos) (xT X (tst f)) := by
    cases op with
    | And => exact pw_and1 ha.pt
    | Or => exact pw_or1 ha.pt
  exact ⟨pe_one ha.pe, key.pt, fun _ _ _ _ => key⟩
theorem ex_if (hc : EX X c h) (ha : EX X a f) (hb : EX X b g) : EX X (.IfExp c a b pos) (eIf h f g) where
  pe := pe_imp (pe_ifExp hc.pt ha.pe hb.pe) fun σ H Q h => by
    obtain ⟨T, env, r, env', R, e, q⟩ := h
    obtain ⟨⟨c, e1⟩, h1, e⟩ := Option.bind_eq_some_iff.mp e
    refine ⟨T, env, c, e1, R, h1, fun H1 g1 R1 => ?_⟩
    cases c with
    | true => rw [if_pos rfl]; rw [if_pos (show (true : Bool) = true from rfl)] at e; exact ⟨T, e1, r, env', R1, e, fun v H' T' g2 => q v H' T' (g1.trans g2)⟩
    | false => rw [if_neg (by decide)]; rw [if_neg (show ¬ ((false : Bool) = true) from fun z => nomatch z)] at e; exact ⟨T, e1, r, env', R1, e, fun v H' T' g2 => q v H' T' (g1.trans g2)⟩
  pt := ⟨fun pins s σ H Q I hq => by
    obtain ⟨T, env, r, env', R, e, q⟩ := hq
    obtain ⟨d, e1, h1, h2⟩ := tst_if e
    have ht : isTrue (.IfExp c a b pos) X.env (eval (.IfExp c a b pos) X.env) = (do
      if ← isTrue c X.env (eval c X.env) then isTrue a X.env (eval a X.env) else isTrue b X.env (eval b X.env)) := rfl
    rw [ht]
    refine wpAny_bind (thn (hc.pt.run pins s σ H (fun d' H' => d' = d ∧ Go T env σ H T e1 σ H' ∧ Rel X.prog X.w X.K T e1 σ H') I ⟨T, env, d, e1, R, h1, fun H' g R' => ⟨rfl, g, R'⟩⟩) fun d' s1 ⟨H1, I1, e, g1, R1⟩ => ?_)
    subst e
    cases d' with
    | true => rw [if_pos rfl]; rw [if_pos rfl] at h2; exact ha.pt.run pins s1 σ H1 Q I1 (tT_seq (k := tst f) (c := true) h2 g1 R1 q)
    | false => rw [if_neg (by decide)]; rw [if_neg (show ¬ ((false : Bool) = true) from fun z => nomatch z)] at h2; exact hb.pt.run pins s1 σ H1 Q I1 (tT_seq (k := tst f) (c := true) h2 g1 R1 q)⟩
  pw := fun op es pos q => nomatch q
/-! ### constants, names -/
theorem ex_const {d : D} {v : V} {e : Expr} (h : PE X e (tC v)) (hv : ∀ H Av, Rep X.prog X.w X.K H Av d v) (he : ∀ whole, isTrue e X.env whole = (do let v ← whole; standAt e.pos; holding [v] (truthy v))) (hn : ∀ op es pos, e ≠ .BoolOp op es pos) : EX X e (eC d) :=
  .ofVal (pe_imp h fun σ H Q q => by
    obtain ⟨T, env, r, env', R, e, q⟩ := q
    cases e
    exact q v H T .refl R (hv _ _)) he hn
theorem ex_var {i : Nat} {x : Str} (hN : X.N[i]? = some x) (hv : Vis X.env.scope x) (hd : (x == ("__debug__" : Str)) = false) (hcd : (x == ("__classdict__" : Str)) = false) : EX X (.Name x pos) (eVar i) :=
  .ofVal (pe_imp (pe_var hN hv hd hcd) fun σ H Q q => by
    obtain ⟨T, env, r, env', R, e, q⟩ := q
    unfold eVar at e
    cases hg : get env i with
    | un => simp only [hg] at e; cases e
    | fz d =>
      simp only [hg] at e
      cases e
      have k := R.ok i
      rw [hg] at k
      obtain ⟨v, e1, r⟩ := k
      exact ⟨v, Option.join_eq_some_iff.mp e1, q v H T .refl R r⟩
    | ow d =>
      simp only [hg] at e
      cases e
      obtain ⟨v, e1, _⟩ := R.read (i := i) (d := d) (by rw [cont_data, hg]; rfl)
      exact ⟨v, e1, q v H T .refl R e1⟩
    | lk d =>
      simp only [hg] at e
      cases e
      obtain ⟨v, e1, _⟩ := R.read (i := i) (d := d) (by rw [cont_data, hg]; rfl)
      exact ⟨v, e1, q v H T .refl R e1⟩
    | rf d =>
      simp only [hg] at e
      cases e
      obtain ⟨v, e1, _⟩ := R.read (i := i) (d := d) (by rw [cont_data, hg]; rfl)
      exact ⟨v, e1, q v H T .refl R e1⟩) (fun _ => rfl) (fun _ _ _ h => nomatch h)
end
end Mp

/-! Mp17: lists of expressions, displays, built-ins, subscripts, slices. -/
namespace Mp
open PySem PySem.Spec PyProof.Rows L2

/-! ### lists of expressions -/
def isStar : Expr → Bool
  | .Starred .. => true
  | _ => false
theorem star_ok (e : Expr) (es : List Expr) (env : PySem.Env) (h : isStar e = false) : starEach (e :: es) env = (false, eval e env) :: starEach es env := by
  cases e <;> first | rfl | cases h
theorem no_star {env : PySem.Env} {pos : Pos} : ∀ {es : List Expr}, (es.all fun e => !isStar e) = true → (backTo pos (starEach es env)).any (·.1) = false
  | [], _ => rfl
  | e :: es, h => by
    rw [List.all_cons] at h
    have q := Bool.and_eq_true_iff.mp h
    have h1 : isStar e = false := by simpa using q.1
    rw [star_ok e es env h1]
    have ih := no_star (env := env) (pos := pos) q.2
    show (false || (backTo pos (starEach es env)).any (·.1)) = false
    rw [ih]
    rfl
theorem star_length {env : PySem.Env} : ∀ es : List Expr, (starEach es env).length = es.length
  | [] => rfl
  | e :: es => by cases e <;> simp [starEach, star_length es]
section
variable {X : Cx} {e a b : Expr} {f g : EvF} {es : List Expr} {fs : List EvF} {pos : Pos}
/-- a list of expressions; where one is starred the reader fails -/
structure EXs (X : Cx) (es : List Expr) (fs : List EvF) : Prop where
  pa : PA X es (xFs X fs)
  len : es.length = fs.length
  star : ∀ env q, eAll fs env = some q → (es.all fun e => !isStar e) = true
theorem tFs_cons {σ : L2.St} {H : Hp} {Q : List V → Hp → Prop} (h : xFs X (f :: fs) σ H Q) : tCons (xF X f) (xFs X fs) σ H Q := by
  obtain ⟨T, env, rs, env', R, e, q⟩ := h
  obtain ⟨⟨r, e1⟩, h1, e⟩ := Option.bind_eq_some_iff.mp e
  obtain ⟨⟨rs', e2⟩, h2, e⟩ := Option.bind_eq_some_iff.mp e
  cases e
  refine ⟨T, env, r, e1, R, h1, fun v H1 T1 g1 R1 i1 => ⟨T1, e1, rs', _, R1, h2, fun us H2 T2 g2 R2 i2 => ?_⟩⟩
  exact q (v :: us) H2 T2 (g1.trans g2) R2 ⟨v, us, rfl, i1.step R1 g2, InFs.base i2 (newOf_le i1 g1.sub)⟩
theorem exs_nil : EXs X [] [] where
  pa := pa_imp pa_nil fun σ H Q h => by
    obtain ⟨T, env, rs, env', R, e, q⟩ := h
    cases e
    exact q [] H T .refl R rfl
  len := rfl
  star := fun _ _ _ => rfl
theorem exs_cons (h1 : EX X e f) (h2 : EXs X es fs) (hst : isStar e = false) : EXs X (e :: es) (f :: fs) where
  pa := pa_imp (pa_cons h1.pe h2.pa (star_ok e es X.env hst)) fun _ _ _ h => tFs_cons h
  len := by rw [List.length_cons, List.length_cons, h2.len]
  star := fun env q h => by
    obtain ⟨⟨r, e1⟩, _, h⟩ := Option.bind_eq_some_iff.mp h
    obtain ⟨⟨rs', e2⟩, h3, _⟩ := Option.bind_eq_some_iff.mp h
    rw [List.all_cons, h2.star _ _ h3, hst]
    rfl
/-- a list whose head fails -/
theorem exs_fail (hl : es.length = fs.length) : EXs X (e :: es) (fail :: fs) where
  pa := ⟨fun _ _ _ _ _ _ _ h => by obtain ⟨_, _, _, _, _, e, _⟩ := h; cases e⟩
  len := by rw [List.length_cons, List.length_cons, hl]
  star := fun env q h => by cases h

/-! ### tuples, lists -/
theorem tF_tup {σ : L2.St} {H : Hp} {Q : VK} (h : xF X (eTup fs) σ H Q) : tTup (xFs X fs) σ H Q := by
  obtain ⟨T, env, r, env', R, e, q⟩ := h
  obtain ⟨⟨rs, e1⟩, h1, e⟩ := Option.bind_eq_some_iff.mp e
  obtain ⟨⟨ds, e2⟩, h2, e⟩ := Option.bind_eq_some_iff.mp e
  split at e
  · rename_i hz
    cases e
    refine ⟨T, env, rs, e1, R, h1, fun vs H1 T1 g1 R1 i1 => ?_⟩
    obtain ⟨s2, R2, r2⟩ := takeAll_ok i1 R1 g1.sub h2
    refine ⟨by rw [← r2.length]; exact okN_le hz, fun p n => ?_⟩
    obtain ⟨T3, g3, R3, i3⟩ := (vtup n r2).go R2
    exact q _ _ T3 ((g1.less s2 g1.sub fun _ h => h).trans g3) R3 i3
  · cases e
theorem tF_lst {σ : L2.St} {H : Hp} {Q : VK} (h : xF X (eLst fs) σ H Q) : tLst (xFs X fs) σ H Q := by
  obtain ⟨T, env, r, env', R, e, q⟩ := h
  obtain ⟨⟨rs, e1⟩, h1, e⟩ := Option.bind_eq_some_iff.mp e
  obtain ⟨⟨ds, e2⟩, h2, e⟩ := Option.bind_eq_some_iff.mp e
  split at e
  · rename_i hz
    cases e
    refine ⟨T, env, rs, e1, R, h1, fun vs H1 T1 g1 R1 i1 => ?_⟩
    obtain ⟨s2, R2, r2⟩ := takeAll_ok i1 R1 g1.sub h2
    refine ⟨by rw [← r2.length]; exact okN_le hz, fun p n => ?_⟩
    obtain ⟨T3, g3, R3, i3⟩ := (vlst n r2).go R2
    exact q _ _ T3 ((g1.less s2 g1.sub fun _ h => h).trans g3) R3 i3
  · cases e
theorem ex_tup {k : Nat} (h : EXs X es fs) : EX X (.Tuple es k pos) (eTup fs) :=
  .ofVal (pe_imp (pe_tup h.pa) fun _ _ _ h => tF_tup h) (fun _ => rfl) (fun _ _ _ h => nomatch h)
theorem ex_lst (h : EXs X es fs) : EX X (.List es pos) (eLst fs) :=
  .ofVal (pe_imp (pe_lst h.pa) fun _ _ _ h => tF_lst h) (fun _ => rfl) (fun _ _ _ h => nomatch h)

/-! ### subscripts -/
theorem ix_ok (hu : X.A.units + 100 < cLine) : IxR X (rV X fun a b => vRes (ixD a b)) := by
  rintro value slice pins s σ H x y v u Q I rx ry ⟨Av, a, b, r, ua, ub, e, q⟩ hs
  obtain ⟨d, hd, rfl⟩ := Option.map_eq_some_iff.mp e
  unfold ixD at hd
  split at hd
  · obtain ⟨l, vs, rfl, h1, r1⟩ := ua.lst
    cases ub.int
    obtain ⟨j, k1, k2, k3, k4, k5⟩ := atI_get hd
    obtain ⟨z, e1, rz⟩ := r1.get k2
    refine ix_list value slice pins s σ H _ _ v u Q I rx ry ⟨l, vs, _, z, rfl, rfl, h1, ?_, q _ _ (vval rz)⟩ hs
    unfold atI at hd ⊢
    rw [← r1.length]
    obtain ⟨j', q1, q2⟩ := Option.bind_eq_some_iff.mp hd
    rw [q1]
    have : j' = j := by
      have := (ixN_seq q1).1
      rw [this] at k1
      exact Option.some.inj k1
    rw [this]
    exact e1
  · obtain ⟨l, vs, rfl, h1, r1⟩ := ua.tup
    cases ub.int
    obtain ⟨j, k1, k2, k3, k4, k5⟩ := atI_get hd
    obtain ⟨z, e1, rz⟩ := r1.get k2
    refine ix_tup value slice pins s σ H _ _ v u Q I rx ry ⟨l, vs, _, z, rfl, rfl, h1, ?_, q _ _ (vval rz)⟩ hs
    unfold atI at hd ⊢
    rw [← r1.length]
    obtain ⟨j', q1, q2⟩ := Option.bind_eq_some_iff.mp hd
    rw [q1]
    have : j' = j := by
      have := (ixN_seq q1).1
      rw [this] at k1
      exact Option.some.inj k1
    rw [this]
    exact e1
  · split at hd
    · rename_i ok
      obtain ⟨l, ps, rfl, m, rp⟩ := ua.dic
      cases rx
      have ty : s.TypeIs (.ref l) "dict" := by
        obtain ⟨o, es, ep, h1, h2, h3, _⟩ := m
        exact ⟨o, obj_at I h1, h3.1⟩
      refine tail_any (ops := [.ref l, u]) ty PySem.F.slot_dict_getitem.lookup (dict_get (by omega) I m rp ok (ub.nest (kvOk_nest ok)) ry hd fun z u' s' I' rz rp' => ⟨z, H, I', rz, q _ _ (vval rp')⟩) hs
    · cases hd
  · cases hd
def noSlice : Expr → Bool
  | .Slice _ _ _ _ => false
  | _ => true
theorem plain_ix {b : Expr} (h : noSlice b = true) : PlainIx b := by
  intro o i
  cases b <;> first | rfl | cases h
theorem ex_ix (hu : X.A.units + 100 < cLine) (ha : EX X a f) (hb : EX X b g) (hs : noSlice b = true) : EX X (.Subscript a b pos) (eIx f g) :=
  .ofVal (pe_imp (pe_ix (ix_ok hu) ha.pe hb.pe (plain_ix hs)) fun _ _ _ h => tF_op h) (fun _ => rfl) (fun _ _ _ h => nomatch h)

/-! ### slices -/
def tPt (X : Cx) (k : Mp.Env → Option (Option Int × Mp.Env)) : TO := fun σ H Q => ∃ T env o env', Rel X.prog X.w X.K T env σ H ∧ k env = some (o, env') ∧ ∀ H' T', Go T env σ H T' env' σ H' → Rel X.prog X.w X.K T' env' σ H' → Q o H'
theorem po_ok {o : Option Expr} {k : Option EvF} (h : (o = none ∧ k = none) ∨ ∃ e f, o = some e ∧ k = some f ∧ EX X e f) : PO X o (tPt X (ePart k)) := by
  rcases h with ⟨rfl, rfl⟩ | ⟨e, f, rfl, rfl, h⟩
  · refine ⟨fun pins s σ H Q I q => po_none.run pins s σ H Q I ?_⟩
    obtain ⟨T, env, o, env', R, e, q⟩ := q
    cases e
    exact q H T .refl R
  · refine ⟨fun pins s σ H Q I q => (po_some h.pe).run pins s σ H Q I ?_⟩
    obtain ⟨T, env, o, env', R, e, q⟩ := q
    unfold ePart eUse at e
    obtain ⟨⟨d, e1⟩, h1, e⟩ := Option.bind_eq_some_iff.mp e
    obtain ⟨⟨r, e2⟩, h2, h1⟩ := Option.bind_eq_some_iff.mp h1
    obtain ⟨d', hd, h1⟩ := Option.map_eq_some_iff.mp h1
    cases h1
    refine ⟨T, env, r, _, R, h2, fun v H' T' g R' i => ?_⟩
    have u := i.use R' hd
    cases d <;> first | (cases e; done) | skip
    cases e
    exact ⟨_, u.int, q H' T' g R'⟩
def rSl (X : Cx) : V → Option Int → Option Int → Hp → VK → Prop := fun x lo hi H Q => ∃ Av a r, Use X.prog X.w X.K H Av a x ∧ slD a lo hi = some r ∧ ∀ z H', VOut X.prog X.w X.K H Av r z H' → Q z H'
theorem cut_rep {P : Program} {w : World} {K : PySem.W.Frag} {H : Hp} {Av : Addr → Prop} {ds : List D} {vs : List V} {lo hi : Option Int} (h : RepL P w K H Av ds vs) : RepL P w K H Av (cutD ds lo hi) (cutV vs lo hi) := by
  unfold cutD cutV
  rw [h.length]
  exact (h.drop _).take _
theorem sl_ok : SlR X (rSl X) := by
  rintro pins s σ H x v vl vu lo hi sl Q I rx hs pl pu ⟨Av, a, r, ua, e, q⟩
  unfold slD at e
  split at e
  · cases e
    obtain ⟨l, vs, rfl, h1, r1⟩ := ua.lst
    exact sl_list pins s σ H _ v vl vu lo hi sl Q I rx hs pl pu ⟨l, vs, rfl, h1, fun p n => q _ _ (vlst n (cut_rep r1))⟩
  · cases e
    obtain ⟨l, vs, rfl, h1, r1⟩ := ua.tup
    refine sl_tupA pins s σ H _ v vl vu lo hi sl Q I rx hs pl pu ⟨l, vs, rfl, h1, fun hw => ?_, fun hw p n => q _ _ (vtup n (cut_rep r1))⟩
    have r2 := cut_rep (lo := lo) (hi := hi) r1
    have e : cutV vs lo hi = vs := by
      unfold cutV
      rw [hw.1, hw.2]
      simp
    rw [e] at r2
    exact q _ _ (vval (.tup h1 r2))
  · cases e
theorem ex_sl {lo hi : Option Expr} {kl kh : Option EvF} {p2 : Pos} (ha : EX X a f) (hl : (lo = none ∧ kl = none) ∨ ∃ e f, lo = some e ∧ kl = some f ∧ EX X e f) (hh : (hi = none ∧ kh = none) ∨ ∃ e f, hi = some e ∧ kh = some f ∧ EX X e f) :
    EX X (.Subscript a (.Slice lo hi none p2) pos) (eSl f kl kh) :=
  .ofVal (pe_imp (pe_slice sl_ok ha.pe (po_ok hl) (po_ok hh)) fun σ H Q q => by
    obtain ⟨T, env, r, env', R, e, q⟩ := q
    unfold eSl at e
    obtain ⟨⟨p, e1⟩, h1, e⟩ := Option.bind_eq_some_iff.mp e
    obtain ⟨⟨l, e2⟩, h2, e⟩ := Option.bind_eq_some_iff.mp e
    obtain ⟨⟨h, e3⟩, h3, e⟩ := Option.bind_eq_some_iff.mp e
    obtain ⟨a, ha, e⟩ := Option.bind_eq_some_iff.mp e
    obtain ⟨r', hr, e⟩ := Option.map_eq_some_iff.mp e
    cases e
    refine ⟨T, env, p, e1, R, h1, fun v H1 T1 g1 R1 i1 => ⟨T1, e1, l, e2, R1, h2, fun H2 T2 g2 R2 => ⟨T2, e2, h, _, R2, h3, fun H3 T3 g3 R3 => ?_⟩⟩⟩
    refine ⟨_, a, r, ((i1.step R1 g2).step R2 g3).use R3 ha, hr, fun z H' vo => ?_⟩
    obtain ⟨T4, g4, R4, i4⟩ := vo.go R3
    exact q z H' T4 (((g1.trans g2).trans g3).trans g4) R4 (i4.base fun a h => g3.sub a (g2.sub a (g1.sub a h)))) (fun _ => rfl) (fun _ _ _ h => nomatch h)

/-! ### built-ins -/
def rC1 (X : Cx) (k : D → Option Res) : List V → Hp → VK → Prop := fun xs H Q => ∃ x, xs = [x] ∧ rU1 X k x H Q
theorem callR_of {k : D → Option Res} {u : Value} (h : B1 X k u) : CallR X u (rC1 X k) := by
  rintro pins s σ H xs us Q I r ⟨x, rfl, Av, a, r', ua, e, q⟩
  obtain ⟨v, rfl, rx⟩ := vals1 r
  exact h Av a r' pins s σ H x v Q I rx ua e q
theorem ex_b1 {x : Str} {p : Pos} (hu : X.A.units + 100 < cLine) (hc : X.calm = true) (hg : Gl X x) (hm : X.mg x = none) (ha : EXs X [a] [f]) (hst : isStar a = false) : EX X (.Call (.Name x p) [a] [] pos) (eB1 x f) := by
  refine .ofVal ⟨fun pins s σ H Q I h => ?_⟩ (fun _ => rfl) (fun _ _ _ h => nomatch h)
  have h0 := h
  obtain ⟨T, env, r, env', R, e, q⟩ := h0
  obtain ⟨⟨p1, e1⟩, h1, e⟩ := Option.bind_eq_some_iff.mp e
  obtain ⟨d, hd, e⟩ := Option.bind_eq_some_iff.mp e
  obtain ⟨r', hr, e⟩ := Option.map_eq_some_iff.mp e
  obtain ⟨k, u, hk, hb, hdb, hn, fin, B⟩ := b1_ok hu hc hr
  cases e
  have hq : tCB (rC1 X k) (xFs X [f]) σ H Q := by
    refine ⟨T, env, [p1], e1, R, ?_, fun vs H1 T1 g1 R1 i1 => ?_⟩
    · show (f env).bind _ = _
      rw [h1]
      rfl
    · obtain ⟨v, us, rfl, j1, j2⟩ := i1
      cases j2
      refine ⟨v, rfl, _, d, r, j1.use R1 hd, hk, fun z H' vo => ?_⟩
      obtain ⟨T3, g3, R3, i3⟩ := vo.go R1
      exact q z H' T3 (g1.trans g3) R3 (i3.base g1.sub)
  rcases fin with ⟨id, rfl⟩ | ⟨T, rfl⟩
  · exact (pe_callB (callR_of B) hg hm hb ha.pa hn hdb (star_ok a [] X.env hst) rfl).run pins s σ H Q I hq
  · exact (pe_callTy (callR_of B) hg hm hb ha.pa hn hdb (star_ok a [] X.env hst) rfl).run pins s σ H Q I hq
def rC2 (X : Cx) (k : List V → Hp → VK → Prop) : List V → Hp → VK → Prop := k
theorem ex_b2 {x : Str} {p : Pos} (hc : X.calm = true) (hg : Gl X x) (hm : X.mg x = none) (ha : EXs X [a, b] [f, g]) (h1 : isStar a = false) (h2 : isStar b = false) : EX X (.Call (.Name x p) [a, b] [] pos) (eB2 x f g) := by
  refine .ofVal ⟨fun pins s σ H Q I h => ?_⟩ (fun _ => rfl) (fun _ _ _ h => nomatch h)
  have h0 := h
  obtain ⟨T, env, r, env', R, e, q⟩ := h0
  obtain ⟨⟨p1, e1⟩, k1, e⟩ := Option.bind_eq_some_iff.mp e
  obtain ⟨⟨p2, e2⟩, k2, e⟩ := Option.bind_eq_some_iff.mp e
  obtain ⟨d, hd, e⟩ := Option.bind_eq_some_iff.mp e
  obtain ⟨d', hd', e⟩ := Option.bind_eq_some_iff.mp e
  obtain ⟨r', hr, e⟩ := Option.map_eq_some_iff.mp e
  obtain ⟨u, hb, hdb, hn, fin, B⟩ := b2_ok hc hr
  cases e
  have hq : tCB (fun xs H Q => ∃ x y Av, xs = [x, y] ∧ Use X.prog X.w X.K H Av d x ∧ Use X.prog X.w X.K H Av d' y ∧ ∀ z H', VOut X.prog X.w X.K H Av r z H' → Q z H') (xFs X [f, g]) σ H Q := by
    refine ⟨T, env, [p1, p2], e2, R, ?_, fun vs H1 T1 g1 R1 i1 => ?_⟩
    · show (f env).bind _ = _
      rw [k1]
      show ((eAll [g] e1).bind _) = _
      show (((g e1).bind _).bind _) = _
      rw [k2]
      rfl
    · obtain ⟨v, us, rfl, j1, j2⟩ := i1
      obtain ⟨v2, us, rfl, j2, j3⟩ := j2
      cases j3
      refine ⟨v, v2, _, rfl, j1.use R1 hd, j2.use R1 hd', fun z H' vo => ?_⟩
      obtain ⟨T3, g3, R3, i3⟩ := vo.go R1
      exact q z H' T3 (g1.trans g3) R3 (i3.base g1.sub)
  have C : CallR X u (fun xs H Q => ∃ x y Av, xs = [x, y] ∧ Use X.prog X.w X.K H Av d x ∧ Use X.prog X.w X.K H Av d' y ∧ ∀ z H', VOut X.prog X.w X.K H Av r z H' → Q z H') := by
    rintro pins s σ H xs us Q I rr ⟨x, y, Av, rfl, u1, u2, q⟩
    obtain ⟨v, v2, rfl, rx, ry⟩ := vals2 rr
    exact B Av pins s σ H x y v v2 Q I rx ry u1 u2 q
  have hst : starEach [a, b] X.env = (false, eval a X.env) :: starEach [b] X.env := star_ok a [b] X.env h1
  have hpl : (backTo pos (starEach [b] X.env)).any (·.1) = false := no_star (by rw [List.all_cons, h2]; rfl)
  rcases fin with ⟨id, rfl⟩ | ⟨T, rfl⟩
  · exact (pe_callB C hg hm hb ha.pa hn hdb hst hpl).run pins s σ H Q I hq
  · exact (pe_callTy C hg hm hb ha.pa hn hdb hst hpl).run pins s σ H Q I hq

/-! ### isinstance -/
theorem Use.ty {P : Program} {w : World} {K : PySem.W.Frag} {H : Hp} {Av : Addr → Prop} {d : D} {v : V} (h : Use P w K H Av d v) (n : isD d = false) : TyX K H v (.type (tyD d)) := by
  have lst : ∀ {a : Addr} {vs : List V}, SqL K H a vs → TyX K H (.ref a) (.type "list") := fun h => by
    rcases h with (e | ⟨o, e⟩) | ⟨o, its, n, e, c, _⟩
    · exact .base (.lst e)
    · exact .base (.frz e)
    · exact .kList e c
  have tup : ∀ {a : Addr} {vs : List V}, SqT K H a vs → TyX K H (.ref a) (.type "tuple") := fun h => by
    rcases h with (e | ⟨o, e⟩) | ⟨o, its, n, e, c, _⟩
    · exact .base (.tup e)
    · exact .fTuple e
    · exact .kTuple e c
  cases d with
  | none => cases h.none; exact .base .non
  | bool b => cases h.bool; exact .base (.bl b)
  | int i => cases h.int; exact .base (.int i)
  | str x => cases h.str; exact .base (.str x)
  | list ds => obtain ⟨a, vs, rfl, h1, _⟩ := h.lst; exact lst h1
  | tuple ds => obtain ⟨a, vs, rfl, h1, _⟩ := h.tup; exact tup h1
  | dict _ => cases n
theorem kit_tuple : ∀ t ∈ (["NoneType", "bool", "int", "str", "list", "tuple"] : List String), kitB t "tuple" = some (decide (t = "tuple")) := by decide +kernel
theorem kit_int : ∀ t ∈ (["NoneType", "bool", "int", "str", "list", "tuple"] : List String), kitB t "int" = some (decide (t = "int") || decide (t = "bool")) := by decide +kernel
theorem kit_bool : ∀ t ∈ (["NoneType", "bool", "int", "str", "list", "tuple"] : List String), kitB t "bool" = some (decide (t = "bool")) := by decide +kernel
theorem kit_str : ∀ t ∈ (["NoneType", "bool", "int", "str", "list", "tuple"] : List String), kitB t "str" = some (decide (t = "str")) := by decide +kernel
theorem kit_list : ∀ t ∈ (["NoneType", "bool", "int", "str", "list", "tuple"] : List String), kitB t "list" = some (decide (t = "list")) := by decide +kernel
theorem tyD_mem {d : D} (h : isD d = false) : tyD d ∈ (["NoneType", "bool", "int", "str", "list", "tuple"] : List String) := by
  cases d <;> first | (cases h; done) | (unfold tyD; simp)
theorem inst_ok {d : D} {T : Str} {b : Bool} (e : isInst d T = some b) : ∃ n : String, bootBuiltins T = some (.type n) ∧ (T == ("__debug__" : Str)) = false ∧ T ≠ "__name__" ∧ kitB (tyD d) n = some b ∧ isD d = false := by
  unfold isInst at e
  split at e
  · cases e
  rename_i hd
  have hd : isD d = false := by simpa using hd
  split at e
  · rename_i h
    subst h
    cases e
    exact ⟨"tuple", by decide +kernel, by decide +kernel, by decide +kernel, kit_tuple _ (tyD_mem hd), hd⟩
  split at e
  · rename_i h
    subst h
    cases e
    exact ⟨"int", by decide +kernel, by decide +kernel, by decide +kernel, kit_int _ (tyD_mem hd), hd⟩
  split at e
  · rename_i h
    subst h
    cases e
    exact ⟨"bool", by decide +kernel, by decide +kernel, by decide +kernel, kit_bool _ (tyD_mem hd), hd⟩
  split at e
  · rename_i h
    subst h
    cases e
    exact ⟨"str", by decide +kernel, by decide +kernel, by decide +kernel, kit_str _ (tyD_mem hd), hd⟩
  split at e
  · rename_i h
    subst h
    cases e
    exact ⟨"list", by decide +kernel, by decide +kernel, by decide +kernel, kit_list _ (tyD_mem hd), hd⟩
  cases e
theorem ex_inst {x T : Str} {p p2 : Pos} (hx : x = "isinstance") (hg : Gl X x) (hm : X.mg x = none) (hgT : Gl X T) (hmT : X.mg T = none) (ha : EX X a f) (hst : isStar a = false) : EX X (.Call (.Name x p) [a, .Name T p2] [] pos) (eInst f T) := by
  refine .ofVal ⟨fun pins s σ H Q I h => ?_⟩ (fun _ => rfl) (fun _ _ _ h => nomatch h)
  subst hx
  have h0 := h
  obtain ⟨T0, env, r, env', R, e, q⟩ := h0
  obtain ⟨⟨p1, e1⟩, h1, e⟩ := Option.bind_eq_some_iff.mp e
  obtain ⟨d, hd, e⟩ := Option.bind_eq_some_iff.mp e
  obtain ⟨r', hr, e⟩ := Option.map_eq_some_iff.mp e
  obtain ⟨c, hc, rfl⟩ := Option.map_eq_some_iff.mp hr
  obtain ⟨n, hb, hdb, hn, hk, hD⟩ := inst_ok hc
  cases e
  refine (pe_callB call_isi hg hm (show bootBuiltins "isinstance" = some (.builtin "isinstance") by decide +kernel) (pa_cons ha.pe (pa_cons (pe_bltn (v := .ty n) hgT hmT hb rfl hn hdb) pa_nil (star_ok _ _ _ rfl)) (star_ok _ _ _ hst)) (by decide +kernel) (by decide +kernel) (star_ok _ _ _ hst) rfl).run pins s σ H Q I ?_
  refine ⟨T0, env, p1, _, R, h1, fun v H1 T1 g1 R1 i1 => ?_⟩
  exact ⟨v, .ty n, .type (tyD d), .type n, c, rfl, .ty n, (i1.use R1 hd).ty hD, kit_ty hk, q _ _ T1 g1 R1 (.bl c)⟩
end
end Mp

/-! Mp18: what a slot holds is written: methods. -/
namespace Mp
open PySem PySem.Spec PyProof.Rows L2
section
variable {P : Program} {w : World} {K : PySem.W.Frag} {T T' : Addr → Prop} {env env' : Mp.Env} {σ σ' : L2.St} {H H' : Hp}
theorem Rel.muAt (R : Rel P w K T env σ H) {i : Nat} {a : Addr} (hm : (get env i).holds = true) (ha : σ[i]? = some (some (.ref a))) : ∃ d, (get env i).data = some d ∧ Own P w K H (Avd T env σ) a d := by
  obtain ⟨b, d, e1, e2, o⟩ := R.own hm
  rw [ha] at e1
  cases e1
  exact ⟨d, e2, o⟩
theorem put_get {i : Nat} {d : D} (e : put env i d = some env') : (get env i).muts = true ∧ env'.length = env.length ∧ (get env' i).data = some d ∧ (∀ j, j ≠ i → get env' j = get env j) ∧ (∀ j, (get env' j).holds = (get env j).holds) ∧ (∀ j, (get env' j).muts = (get env j).muts) ∧
    (∀ d', get env' i ≠ .lk d') ∧ (∀ d', get env' i = .rf d' → ∃ d'', get env i = .rf d'') ∧ (∃ s, get env' i = s ∧ (s = .ow d ∨ s = .rf d)) := by
  unfold put at e
  cases hg : get env i with
  | un => simp only [hg] at e; cases e
  | fz d' => simp only [hg] at e; cases e
  | lk d' => simp only [hg] at e; cases e
  | ow d' =>
    simp only [hg] at e
    cases e
    have hl : i < env.length := get_lt (by rw [hg]; exact fun z => nomatch z)
    refine ⟨rfl, by simp, ?_, fun j hj => ?_, fun j => ?_, fun j => ?_, fun d'' z => ?_, fun d'' z => ?_, _, rfl, ?_⟩
    · rw [get_set env i i _ hl, if_pos rfl]; rfl
    · rw [get_set env i j _ hl, if_neg hj]
    · rw [get_set env i j _ hl]; by_cases h : j = i
      · subst h; rw [if_pos rfl, hg]; rfl
      · rw [if_neg h]
    · rw [get_set env i j _ hl]; by_cases h : j = i
      · subst h; rw [if_pos rfl, hg]; rfl
      · rw [if_neg h]
    · rw [get_set env i i _ hl, if_pos rfl] at z; cases z
    · rw [get_set env i i _ hl, if_pos rfl] at z; cases z
    · rw [get_set env i i _ hl, if_pos rfl]; exact .inl rfl
  | rf d' =>
    simp only [hg] at e
    cases e
    have hl : i < env.length := get_lt (by rw [hg]; exact fun z => nomatch z)
    refine ⟨rfl, by simp, ?_, fun j hj => ?_, fun j => ?_, fun j => ?_, fun d'' z => ?_, fun d'' z => ⟨d', rfl⟩, _, rfl, ?_⟩
    · rw [get_set env i i _ hl, if_pos rfl]; rfl
    · rw [get_set env i j _ hl, if_neg hj]
    · rw [get_set env i j _ hl]; by_cases h : j = i
      · subst h; rw [if_pos rfl, hg]; rfl
      · rw [if_neg h]
    · rw [get_set env i j _ hl]; by_cases h : j = i
      · subst h; rw [if_pos rfl, hg]; rfl
      · rw [if_neg h]
    · rw [get_set env i i _ hl, if_pos rfl] at z; cases z
    · rw [get_set env i i _ hl, if_pos rfl]; exact .inr rfl
/-- the list or dict of a slot is written -/
theorem Rel.write {i : Nat} {a : Addr} {o : HO} {d' : D} (R : Rel P w K T env σ H) (ha : σ[i]? = some (some (.ref a))) (m : Made P w K H (Avd T env σ) a o d') (e : put env i d' = some env') :
    Rel P w K T env' σ (upd H a o) ∧ Go T env σ H T env' σ (upd H a o) := by
  obtain ⟨p1, p2, p3, p4, p5, p6, p7, p8, s, p9, p10⟩ := put_get e
  have hh := muts_holds p1
  have ha' : Hld env σ i a := ⟨hh, ha⟩
  obtain ⟨d0, _, o0⟩ := R.muAt hh ha
  have mu := o0.isMut
  have hld : ∀ b, Held env' σ b ↔ Held env σ b := fun b => ⟨fun ⟨j, h1, h2⟩ => ⟨j, by rw [← p5]; exact h1, h2⟩, fun ⟨j, h1, h2⟩ => ⟨j, by rw [p5]; exact h1, h2⟩⟩
  have hmt : ∀ b, Mp.Mut env' σ b ↔ Mp.Mut env σ b := fun b => ⟨fun ⟨j, h1, h2⟩ => ⟨j, by rw [← p6]; exact h1, h2⟩, fun ⟨j, h1, h2⟩ => ⟨j, by rw [p6]; exact h1, h2⟩⟩
  have hav : ∀ b, Avd T env' σ b ↔ Avd T env σ b := fun b => by unfold Avd; rw [hld]
  have hT : ∀ b vs, SqT K H b vs → SqT K (upd H a o) b vs := fun b vs h => upd_sqT mu.noTup.1 mu.noTup.2 b vs h
  have ne : ∀ b, ¬ Avd T env σ b → b ≠ a := fun b n q => n (by rw [q]; exact .inr ⟨i, ha'⟩)
  have hL : ∀ b vs, ¬ Avd T env σ b → Rd H b (.lst vs) → ¬ Avd T env' σ b ∧ Rd (upd H a o) b (.lst vs) := fun b vs n h => ⟨fun q => n ((hav b).mp q), by
    have := ne b n
    rcases h with h | ⟨u, h⟩
    · exact .inl (by rw [upd_ne this]; exact h)
    · exact .inr ⟨u, by rw [upd_ne this]; exact h⟩⟩
  have hD : ∀ b ps, ¬ Avd T env σ b → DictM P w K H b ps → ¬ Avd T env' σ b ∧ DictM P w K (upd H a o) b ps := fun b ps n h => ⟨fun q => n ((hav b).mp q), h.at hT fun u q => by rw [upd_ne (ne b n)]; exact q⟩
  have own : ∀ j b d, Hld env σ j b → j ≠ i → Own P w K H (Avd T env σ) b d → Own P w K (upd H a o) (Avd T env' σ) b d := fun j b d hj hji h => by
    have hb : b ≠ a := fun q => hji (R.one j i a (q ▸ hj) ha')
    cases h with
    | lst e r => exact .lst (by rw [upd_ne hb]; exact e) (r.map hT hL hD)
    | dic e r => exact .dic (e.at hT fun u q => by rw [upd_ne hb]; exact q) (r.map hT hL hD)
  have mine : Own P w K (upd H a o) (Avd T env' σ) a d' := by
    cases m with
    | lst r => exact .lst upd_same (r.map hT hL hD)
    | dic e' r => exact .dic e' (r.map hT hL hD)
  refine ⟨⟨p2.trans R.len, fun j => ?_, fun j k b h1 h2 => R.one j k b ⟨by rw [← p5]; exact h1.1, h1.2⟩ ⟨by rw [← p5]; exact h2.1, h2.2⟩, fun b h1 h2 => R.apart b h1 ((hld b).mp h2), fun b h => ?_⟩, ?_⟩
  · by_cases hj : j = i
    · subst hj
      rw [p9]
      have e1 : (σ[j]?).join = some (.ref a) := by rw [ha]; rfl
      rcases p10 with rfl | rfl
      · exact ⟨a, e1, mine⟩
      · exact ⟨a, e1, mine⟩
    · have q := R.ok j
      rw [p4 j hj]
      cases g : get env j with
      | un => exact trivial
      | fz d => rw [g] at q; obtain ⟨v, e1, r⟩ := q; exact ⟨v, e1, r.map hT hL hD⟩
      | ow d => rw [g] at q; obtain ⟨v, e1, r⟩ := q; exact ⟨v, e1, own j v d ⟨by rw [g]; rfl, Option.join_eq_some_iff.mp e1⟩ hj r⟩
      | lk d => rw [g] at q; obtain ⟨v, e1, r⟩ := q; exact ⟨v, e1, own j v d ⟨by rw [g]; rfl, Option.join_eq_some_iff.mp e1⟩ hj r⟩
      | rf d => rw [g] at q; obtain ⟨v, e1, r⟩ := q; exact ⟨v, e1, own j v d ⟨by rw [g]; rfl, Option.join_eq_some_iff.mp e1⟩ hj r⟩
  · by_cases hb : b = a
    · subst hb; rw [upd_same]; exact fun z => nomatch z
    · rw [upd_ne hb]; exact R.there b h
  · refine ⟨fun b u h1 h2 => ?_, fun b h => ?_, fun b h => .inl ((hmt b).mp h), fun b h => .inl ((hld b).mp h), fun j d h => ?_, fun j d h => ?_, fun b h => h, fun b h => .inl h⟩
    · have : b ≠ a := fun q => h2 (by rw [q]; exact ⟨i, p1, ha⟩)
      rw [upd_ne this]; exact h1
    · by_cases hb : b = a
      · subst hb; rw [upd_same]; exact fun z => nomatch z
      · rw [upd_ne hb]; exact h
    · by_cases hj : j = i
      · subst hj; exact absurd h (p7 d)
      · rw [p4 j hj] at h; exact ⟨h, rfl⟩
    · by_cases hj : j = i
      · subst hj; exact ⟨p8 d h, rfl⟩
      · rw [p4 j hj] at h; exact ⟨⟨d, h⟩, rfl⟩
/-! ### what was just made is written -/
section
variable {T0 : Addr → Prop} {env0 : Mp.Env} {σ0 : L2.St} {H0 : Hp} {p : Addr} {o : HO}
theorem T_rep (tp : T p) (mu : IsMut H p) : (∀ b vs, SqT K H b vs → SqT K (upd H p o) b vs) ∧ (∀ b vs, ¬ Avd T env σ b → Rd H b (.lst vs) → ¬ Avd T env σ b ∧ Rd (upd H p o) b (.lst vs)) ∧ (∀ b ps, ¬ Avd T env σ b → DictM P w K H b ps → ¬ Avd T env σ b ∧ DictM P w K (upd H p o) b ps) := by
  have hT : ∀ b vs, SqT K H b vs → SqT K (upd H p o) b vs := fun b vs h => upd_sqT mu.noTup.1 mu.noTup.2 b vs h
  have ne : ∀ b, ¬ Avd T env σ b → b ≠ p := fun b n q => n (by rw [q]; exact .inl tp)
  refine ⟨hT, fun b vs n h => ⟨n, ?_⟩, fun b ps n h => ⟨n, h.at hT fun u q => by rw [upd_ne (ne b n)]; exact q⟩⟩
  have := ne b n
  rcases h with h | ⟨u, h⟩
  · exact .inl (by rw [upd_ne this]; exact h)
  · exact .inr ⟨u, by rw [upd_ne this]; exact h⟩
theorem Rep.writeT {d : D} {v : V} (r : Rep P w K H (Avd T env σ) d v) (tp : T p) (mu : IsMut H p) : Rep P w K (upd H p o) (Avd T env σ) d v := let ⟨a, b, c⟩ := T_rep (P := P) (w := w) (K := K) (env := env) (σ := σ) (o := o) tp mu; r.map a b c
theorem RepL.writeT {d : List D} {v : List V} (r : RepL P w K H (Avd T env σ) d v) (tp : T p) (mu : IsMut H p) : RepL P w K (upd H p o) (Avd T env σ) d v := let ⟨a, b, c⟩ := T_rep (P := P) (w := w) (K := K) (env := env) (σ := σ) (o := o) tp mu; r.map a b c
theorem RepP.writeT {d : List (D × D)} {v : List (V × V)} (r : RepP P w K H (Avd T env σ) d v) (tp : T p) (mu : IsMut H p) : RepP P w K (upd H p o) (Avd T env σ) d v := let ⟨a, b, c⟩ := T_rep (P := P) (w := w) (K := K) (env := env) (σ := σ) (o := o) tp mu; r.map a b c
theorem Rel.writeT (R : Rel P w K T env σ H) (tp : T p) (mu : IsMut H p) : Rel P w K T env σ (upd H p o) where
  len := R.len
  ok := fun i => by
    have q := R.ok i
    obtain ⟨hT, hL, hD⟩ := T_rep (P := P) (w := w) (K := K) (env := env) (σ := σ) (o := o) tp mu
    have ow : ∀ j a d, Hld env σ j a → Own P w K H (Avd T env σ) a d → Own P w K (upd H p o) (Avd T env σ) a d := fun j a d hj h => by
      have ne : a ≠ p := fun e => R.apart p tp (e ▸ ⟨j, hj⟩)
      cases h with
      | lst e r => exact .lst (by rw [upd_ne ne]; exact e) (r.map hT hL hD)
      | dic e r => exact .dic (e.at hT fun u q => by rw [upd_ne ne]; exact q) (r.map hT hL hD)
    cases g : get env i with
    | un => exact trivial
    | fz d => rw [g] at q; obtain ⟨v, e1, r⟩ := q; exact ⟨v, e1, r.map hT hL hD⟩
    | ow d => rw [g] at q; obtain ⟨v, e1, r⟩ := q; exact ⟨v, e1, ow i v d ⟨by rw [g]; rfl, Option.join_eq_some_iff.mp e1⟩ r⟩
    | lk d => rw [g] at q; obtain ⟨v, e1, r⟩ := q; exact ⟨v, e1, ow i v d ⟨by rw [g]; rfl, Option.join_eq_some_iff.mp e1⟩ r⟩
    | rf d => rw [g] at q; obtain ⟨v, e1, r⟩ := q; exact ⟨v, e1, ow i v d ⟨by rw [g]; rfl, Option.join_eq_some_iff.mp e1⟩ r⟩
  one := R.one
  apart := R.apart
  there := fun a h => by
    by_cases e : a = p
    · subst e; rw [upd_same]; exact fun z => nomatch z
    · rw [upd_ne e]; exact R.there a h
theorem Go.writeT (g : Go T0 env0 σ0 H0 T env σ H) (n : H0 p = none) : Go T0 env0 σ0 H0 T env σ (upd H p o) where
  frame := fun a u h1 h2 => by rw [upd_ne (ne_of_none h1 n)]; exact g.frame a u h1 h2
  there := fun a h => by
    by_cases e : a = p
    · subst e; exact absurd n h
    · rw [upd_ne e]; exact g.there a h
  muts := g.muts
  held := g.held
  lks := g.lks
  rfs := g.rfs
  sub := g.sub
  new := g.new
end
theorem cont_own (R : Rel P w K T env σ H) {i : Nat} {v : V} {d d' : D} (hv : σ[i]? = some (some v)) (hc : cont env i = some d) (hp : put env i d' = some env') : ∃ a, v = .ref a ∧ Own P w K H (Avd T env σ) a d := by
  have hm := (put_get hp).1
  obtain ⟨a, d0, e1, e2, o⟩ := R.own (muts_holds hm)
  rw [hv] at e1
  cases e1
  rw [cont_data, e2] at hc
  cases hc
  exact ⟨a, rfl, o⟩
end
section
variable {X : Cx} {a b : Expr} {f g h : EvF} {apos pos p : Pos} {x m : Str}
/-- the kind of the receiver is seen before the arguments are made: it stays what it is -/
inductive Kind | lst | dic
def kindAt (X : Cx) (H : Hp) (v : V) : Kind → Prop
  | .lst => ∃ a vs, v = .ref a ∧ SqL X.K H a vs
  | .dic => ∃ a ps, v = .ref a ∧ DictM X.prog X.w X.K H a ps
def kTy : Kind → String
  | .lst => "list"
  | .dic => "dict"
theorem kind_ty {pins : List (Addr × Obj)} {s : Shared} {σ : L2.St} {H : Hp} {v : V} {u : Value} {k : Kind} (I : Inv X pins σ H s) (rx : RelV v u) (h : kindAt X H v k) : s.TypeIs u (kTy k) ∧ ∀ a, u = .ref a → ∃ ob, s.heap.get? a = some ob ∧ ob.dict = none := by
  cases k with
  | lst =>
    obtain ⟨a, vs, rfl, hr⟩ := h
    cases rx
    obtain ⟨its, _, pl, _⟩ := I.list hr
    refine ⟨pl.isList.typeIs, fun a e => ?_⟩
    cases e
    obtain ⟨o, n, e, c, hd, _⟩ := pl
    exact ⟨o, e, hd⟩
  | dic =>
    obtain ⟨a, ps, rfl, o, es, ep, h1, h2, h3, _⟩ := h
    cases rx
    refine ⟨⟨o, obj_at I h1, h3.1⟩, fun a e => ?_⟩
    cases e
    exact ⟨o, obj_at I h1, h3.2.1⟩
theorem kTy_plain : ∀ k, PlainAttrs (kTy k)
  | .lst => PySem.F.plainAttrs_list
  | .dic => PySem.F.plainAttrs_dict
theorem use_kind {P : Program} {w : World} {H : Hp} {Av : Addr → Prop} {d : D} {v : V} (u : Use X.prog X.w X.K H Av d v) : (∀ ds, d = .list ds → kindAt X H v .lst) ∧ (∀ kvs, d = .dict kvs → kindAt X H v .dic) := by
  constructor
  · rintro ds rfl
    obtain ⟨a, vs, rfl, h1, _⟩ := u.lst
    exact ⟨a, vs, rfl, h1⟩
  · rintro ds rfl
    obtain ⟨a, vs, rfl, h1, _⟩ := u.dic
    exact ⟨a, vs, rfl, h1⟩
/-- o.m(..): what is wanted -/
def tM (X : Cx) (m : Str) (tf : TE) (t : TA) : TE := fun σ H Q => tf σ H fun v H1 => ∃ k id, kindAt X H1 v k ∧ PySem.Slot (kTy k) m id ∧ typeOf (.builtin id) = pure (.type "method_descriptor") ∧ t σ H1 fun ys H2 =>
  ∀ pins s u us, Inv X pins σ H2 s → RelV v u → Vals ys us → wpAny (model X.prog X.w) X.A (call (.builtin id) (u :: us)) (EP X pins σ Q) X.xe s
theorem few_all {env : PySem.Env} {pos : Pos} : ∀ {es : List Expr}, (es.all fun e => !isStar e) = true → (backTo pos (starEach es env)).all (fun x => !x.1) = true
  | [], _ => rfl
  | e :: es, h => by
    rw [List.all_cons] at h
    have q := Bool.and_eq_true_iff.mp h
    have h1 : isStar e = false := by simpa using q.1
    rw [star_ok e es env h1]
    have ih := few_all (env := env) (pos := pos) q.2
    show (true && (backTo pos (starEach es env)).all (fun x => !x.1)) = true
    rw [ih]
    rfl
theorem pe_m {tf : TE} {t : TA} {e : Expr} {es : List Expr} (hf : PE X (.Name x p) tf) (ha : PA X (e :: es) t) (hline : (apos.endLine == pos.line) = true) (hst : ((e :: es).all fun e => !isStar e) = true) (hlen : (e :: es).length < 30) :
    PE X (.Call (.Attribute (.Name x p) m apos) (e :: es) [] pos) (tM X m tf t) := by
  refine ⟨fun pins s σ H Q I h => ?_⟩
  have hfew : ((backTo pos (starEach (e :: es) X.env)).all (fun x => !x.1) && (backToKw pos (keywordEach [] X.env)).all (fun x => x.1.isSome)
      && decide ((e :: es).length + ([] : List Keyword).length + (if ([] : List Keyword).isEmpty then 0 else 1) < 30)) = true := by
    rw [few_all hst]
    show (true && decide ((e :: es).length + 0 + 0 < 30)) = true
    rw [decide_eq_true (show (e :: es).length + 0 + 0 < 30 by omega)]
    rfl
  refine wpAny_Call_method_late rfl hfew hline rfl (thn (hf.run pins s σ H _ I h) fun v s1 ⟨x, H1, I1, r1, k, id, hk, sl, ty, q1⟩ => ?_)
  obtain ⟨h1, h2⟩ := kind_ty I1 r1 hk
  refine ⟨kTy k, id, kTy_plain k, sl, ty, h1, h2, ?_⟩
  have hA := ha.run pos pins s1 σ H1 _ I1 q1
  rw [List.all_cons] at hst
  have q := Bool.and_eq_true_iff.mp hst
  have e1 : isStar e = false := by simpa using q.1
  rw [star_ok e es X.env e1] at hA ⊢
  refine Calls.callWith_builtin (by show (false || (backTo pos (starEach es X.env)).any (·.1)) = false; rw [no_star q.2]; rfl) (Calls.evalArgs_plain ?_)
  exact thn hA fun us s2 ⟨vs, H2, I2, r2, q2⟩ => q2 pins s2 v us I2 r1 r2
theorem lst_kind {T0 T : Addr → Prop} {env : Mp.Env} {σ : L2.St} {H : Hp} {r : Res} {v : V} {u : Unit} (i : InF X.prog X.w X.K T0 T env σ H r v) (R : Rel X.prog X.w X.K T env σ H) (h : guard1 (lstAt env r) = some u) : kindAt X H v .lst := by
  unfold guard1 lstAt at h
  cases hd : deref env r with
  | none => rw [hd] at h; cases h
  | some d =>
    rw [hd] at h
    cases d <;> first | (cases h; done) | exact (use_kind (P := X.prog) (w := X.w) (i.use R hd)).1 _ rfl
theorem dic_kind {T0 T : Addr → Prop} {env : Mp.Env} {σ : L2.St} {H : Hp} {r : Res} {v : V} {u : Unit} (i : InF X.prog X.w X.K T0 T env σ H r v) (R : Rel X.prog X.w X.K T env σ H) (h : guard1 (dicAt env r) = some u) : kindAt X H v .dic := by
  unfold guard1 dicAt at h
  cases hd : deref env r with
  | none => rw [hd] at h; cases h
  | some d =>
    rw [hd] at h
    cases d <;> first | (cases h; done) | exact (use_kind (P := X.prog) (w := X.w) (i.use R hd)).2 _ rfl
/-- .append -/
theorem ex_append (hf : EX X (.Name x p) f) (ha : EXs X [a] [g]) (hline : (apos.endLine == pos.line) = true) (hst : isStar a = false) : EX X (.Call (.Attribute (.Name x p) "append" apos) [a] [] pos) (eAppend f g) := by
  refine .ofVal (pe_imp (pe_m (t := xFs X [g]) hf.pe ha.pa hline (by rw [List.all_cons, hst]; rfl) (by simp)) fun σ H Q h => ?_) (fun _ => rfl) (fun _ _ _ h => nomatch h)
  obtain ⟨T, env, r, env', R, e, q⟩ := h
  obtain ⟨⟨p1, e1⟩, h1, e⟩ := Option.bind_eq_some_iff.mp e
  obtain ⟨_, hg, e⟩ := Option.bind_eq_some_iff.mp e
  obtain ⟨⟨p2, e2⟩, h2, e⟩ := Option.bind_eq_some_iff.mp e
  obtain ⟨⟨d, e3⟩, h3, e⟩ := Option.bind_eq_some_iff.mp e
  cases p1 with
  | val _ => cases e
  | new _ => cases e
  | plc i =>
    dsimp only at e
    cases hc : cont e3 i with
    | none => rw [hc] at e; cases e
    | some c =>
      rw [hc] at e
      cases c with
      | list xs =>
        dsimp only at e
        split at e
        · rename_i hz
          have hz := of_decide_eq_true hz
          obtain ⟨e4, h4, e⟩ := Option.map_eq_some_iff.mp e
          cases e
          refine ⟨T, env, .plc i, e1, R, h1, fun v H1 T1 g1 R1 i1 => ?_⟩
          have hk := lst_kind i1 R1 hg
          refine ⟨.lst, "list.append", hk, PySem.F.slot_list_append, PySem.F.type_list_append, T1, e1, [p2], e2, R1, ?_, fun vs H2 T2 g2 R2 i2 => ?_⟩
          · show (g e1).bind _ = _
            rw [h2]
            rfl
          · obtain ⟨y, us, rfl, j1, j2⟩ := i2
            cases j2
            intro pins s u us I2 ru rus
            obtain ⟨R3, r3⟩ := take_ok j1 R2 h3
            have s3 := take_sub h3
            obtain ⟨ad, rfl, ow⟩ := cont_own R3 i1 hc h4
            cases ow with
            | lst hH rl =>
              refine mt_append pins s σ H2 _ _ _ us Q I2 ru rus ⟨ad, _, y, rfl, rfl, hH, ?_, ?_⟩
              · rw [← rl.length, sizeLine_eq]; exact hz
              · obtain ⟨R4, g4⟩ := R3.write (o := .lst (_ ++ [y])) i1 (.lst (rl.append (.cons r3 .nil))) h4
                exact q .non _ _ (((g1.trans g2).less s3 (fun a => less_sub) fun a h => less_base j1 g2.sub (g1.sub a h)).trans g4) R4 .non
        · cases e
      | _ => cases e
theorem eAll_two {g h : EvF} {env e1 e2 : Mp.Env} {p q : Res} (h1 : g env = some (p, e1)) (h2 : h e1 = some (q, e2)) : eAll [g, h] env = some ([p, q], e2) := by
  show (g env).bind _ = _
  rw [h1]
  show ((eAll [h] e1).bind _) = _
  show (((h e1).bind _).bind _) = _
  rw [h2]
  rfl
theorem eAll_one {g : EvF} {env e1 : Mp.Env} {p : Res} (h1 : g env = some (p, e1)) : eAll [g] env = some ([p], e1) := by
  show (g env).bind _ = _
  rw [h1]
  rfl
/-- two taken in a row -/
theorem take_two {T0 T : Addr → Prop} {env e1 e2 : Mp.Env} {σ : L2.St} {H : Hp} {p q : Res} {y z : V} {a b : D} (i : InFs X.prog X.w X.K T0 T env σ H [p, q] [y, z]) (R : Rel X.prog X.w X.K T env σ H) (t : ∀ a, T0 a → T a) (h1 : take env p = some (a, e1)) (h2 : take e1 q = some (b, e2)) :
    Sub e2 env ∧ Rel X.prog X.w X.K T0 e2 σ H ∧ Rep X.prog X.w X.K H (Avd T0 e2 σ) a y ∧ Rep X.prog X.w X.K H (Avd T0 e2 σ) b z := by
  have e : takeAll [p, q] env = some ([a, b], e2) := by
    show (take env p).bind _ = _
    rw [h1]
    show (((take e1 q).bind _).bind _) = _
    rw [h2]
    rfl
  obtain ⟨s, R', r⟩ := takeAll_ok i R t e
  cases r with
  | cons r1 r2 => cases r2 with
    | cons r2 r3 => exact ⟨s, R', r1, r2⟩
/-- .setdefault -/
theorem ex_setdef (hu : X.A.units + 100 < cLine) (hf : EX X (.Name x p) f) (ha : EXs X [a, b] [g, h]) (hline : (apos.endLine == pos.line) = true) (h1 : isStar a = false) (h2 : isStar b = false) : EX X (.Call (.Attribute (.Name x p) "setdefault" apos) [a, b] [] pos) (eSetdef f g h) := by
  refine .ofVal (pe_imp (pe_m (t := xFs X [g, h]) hf.pe ha.pa hline (by rw [List.all_cons, List.all_cons, h1, h2]; rfl) (by simp)) fun σ H Q h => ?_) (fun _ => rfl) (fun _ _ _ h => nomatch h)
  obtain ⟨T, env, r, env', R, e, q⟩ := h
  obtain ⟨⟨p1, e1⟩, k1, e⟩ := Option.bind_eq_some_iff.mp e
  obtain ⟨_, hg, e⟩ := Option.bind_eq_some_iff.mp e
  obtain ⟨⟨p2, e2⟩, k2, e⟩ := Option.bind_eq_some_iff.mp e
  obtain ⟨⟨p3, e3⟩, k3, e⟩ := Option.bind_eq_some_iff.mp e
  obtain ⟨⟨k, e4⟩, k4, e⟩ := Option.bind_eq_some_iff.mp e
  obtain ⟨⟨d, e5⟩, k5, e⟩ := Option.bind_eq_some_iff.mp e
  cases p1 with
  | val _ => cases e
  | new _ => cases e
  | plc i =>
    dsimp only at e
    cases hc : cont e5 i with
    | none => rw [hc] at e; cases e
    | some c =>
      rw [hc] at e
      cases c with
      | dict kvs =>
        dsimp only at e
        split at e
        · rename_i hz
          have hz1 := Bool.and_eq_true_iff.mp hz
          have hz2 := Bool.and_eq_true_iff.mp hz1.1
          have hz := of_decide_eq_true hz1.2
          refine ⟨T, env, .plc i, e1, R, k1, fun v H1 T1 g1 R1 i1 => ?_⟩
          refine ⟨.dic, "dict.setdefault", dic_kind i1 R1 hg, PySem.F.slot_dict_setdefault, PySem.F.type_dict_setdefault, T1, e1, [p2, p3], e3, R1, eAll_two k2 k3, fun vs H2 T2 g2 R2 i2 => ?_⟩
          have i20 := i2
          obtain ⟨y, us, rfl, j1, j2⟩ := i2
          obtain ⟨z, us, rfl, j2, j3⟩ := j2
          cases j3
          intro pins s u us I2 ru rus
          obtain ⟨s3, R3, r1, r2⟩ := take_two i20 R2 g2.sub k4 k5
          obtain ⟨u1, u2, rfl, ry, rz⟩ := vals2 rus
          have g3 := (g1.trans g2).less s3 g2.sub g1.sub
          have own : ∃ ad ps, v = .ref ad ∧ DictM X.prog X.w X.K H2 ad ps ∧ RepP X.prog X.w X.K H2 (Avd T1 e5 σ) kvs ps := by
            obtain ⟨v', e1', ud⟩ := R3.read hc
            have i1' : σ[i]? = some (some v) := i1
            rw [i1'] at e1'
            cases e1'
            obtain ⟨ad, ps, rfl, m, rp⟩ := ud.dic
            exact ⟨ad, ps, rfl, m, rp⟩
          obtain ⟨ad, ps, rfl, m, rp⟩ := own
          cases ru
          refine dict_setdef (A := X.A) (by omega) I2 m rp hz2.1 hz2.2 r1 ry r2 rz (by rw [sizeLine_eq]; exact hz) (fun d' v' u' s' hd I' rv' rp' => ?_) fun o ps' s' hd I' m' rp' => ?_
          · rw [hd] at e
            cases e
            exact ⟨v', H2, I', rv', q v' H2 T1 g3 R3 rp'⟩
          · rw [hd] at e
            obtain ⟨e6, k6, e⟩ := Option.map_eq_some_iff.mp e
            cases e
            obtain ⟨R4, g4⟩ := R3.write i1 (.dic m' rp') k6
            exact ⟨z, _, I', rz, q z _ _ (g3.trans g4) R4 (Rep.step r2 R3 g4)⟩
        · cases e
      | _ => cases e
/-! ### {}, {k: v} -/
theorem ex_dict0 : EX X (.Dict [] [] pos) (eDict []) :=
  .ofVal (pe_dict0 fun σ H Q q p o n m => by
    obtain ⟨T, env, r, env', R, e, q⟩ := q
    cases e
    have vo : VOut X.prog X.w X.K H (Avd T env σ) (.new (.dict [])) (.ref p) (upd H p (objAt p o)) := ⟨p, _, rfl, n, rfl, .dic m .nil⟩
    obtain ⟨T3, g3, R3, i3⟩ := vo.go R
    exact q _ _ T3 g3 R3 i3) (fun _ => rfl) (fun _ _ _ h => nomatch h)
theorem tF_dict1 {σ : L2.St} {H : Hp} {Q : VK} (q : xF X (eDict [(f, g)]) σ H Q) {p : Addr} {o : Obj} (n : H p = none) (m : DictM X.prog X.w X.K (upd H p (objAt p o)) p []) :
    tPairs [(xF X f, xF X g)] σ (upd H p (objAt p o)) fun ps H2 => H2 p = some (objAt p o) ∧ ∃ (x y : V) (k d : D) (T : Addr → Prop) (env : Mp.Env), ps = [(x, y)] ∧ scalK k = true ∧ Rep X.prog X.w X.K H2 (Avd T env σ) k x ∧ Rep X.prog X.w X.K H2 (Avd T env σ) d y ∧ T p ∧
      ∀ o', DictM X.prog X.w X.K (upd H2 p (objAt p o')) p [(x, y)] → Q (.ref p) (upd H2 p (objAt p o')) := by
  obtain ⟨T, env, r, env', R, e, q⟩ := q
  obtain ⟨⟨p1, e1⟩, k1, e⟩ := Option.bind_eq_some_iff.mp e
  obtain ⟨⟨p2, e2⟩, k2, e⟩ := Option.bind_eq_some_iff.mp e
  obtain ⟨⟨k, e3⟩, k3, e⟩ := Option.bind_eq_some_iff.mp e
  obtain ⟨⟨d, e4⟩, k4, e⟩ := Option.bind_eq_some_iff.mp e
  split at e
  · rename_i hk
    cases e
    have R0 : Rel X.prog X.w X.K (plus T p) env σ (upd H p (objAt p o)) := R.fresh n
    have g0 : Go T env σ H (plus T p) env σ (upd H p (objAt p o)) := Go.fresh n
    refine ⟨plus T p, env, p1, e1, R0, k1, fun v H1 T1 g1 R1 i1 => ⟨T1, e1, p2, e2, R1, k2, fun u H2 T2 g2 R2 i2 => ?_⟩⟩
    have j1 := i1.step R1 g2
    have j : InFs X.prog X.w X.K (plus T p) T2 e2 σ H2 [p1, p2] [v, u] := ⟨v, _, rfl, j1, u, _, rfl, i2.base (newOf_le i1 g1.sub), rfl⟩
    obtain ⟨s3, R3, r1, r2⟩ := take_two j R2 (fun a h => g2.sub a (g1.sub a h)) k3 k4
    have tp : plus T p p := .inr rfl
    have e1' : H2 p = some (objAt p o) := (g1.trans g2).frame p _ upd_same (R0.noMut tp)
    have mu : IsMut H2 p := .inr ⟨_, e1'⟩
    refine ⟨e1', v, u, k, d, plus T p, e4, rfl, hk, r1, r2, tp, fun o' m' => ?_⟩
    have g3 := (g0.trans (g1.trans g2)).less s3 (fun a h => g2.sub a (g1.sub a h)) fun a h => .inl h
    refine q _ _ (plus T p) (g3.writeT n) (R3.writeT tp mu) ⟨p, rfl, tp, fun t => R.there p t n, .dic m' (.cons (r1.writeT tp mu) (r2.writeT tp mu) .nil)⟩
  · cases e
theorem ex_dict1 (ha : EX X a f) (hb : EX X b g) : EX X (.Dict [some a] [b] pos) (eDict [(f, g)]) := by
  refine .ofVal ⟨fun pins s σ H Q I q => ?_⟩ (fun _ => rfl) (fun _ _ _ h => nomatch h)
  have d0 : (s.heap.push { cls := .type "dict", data := .dict #[] }).DictOf (mixKind X.prog X.w) s.heap.objs.size [] := Heap.DictOf.new s.heap
  have d00 := d0
  obtain ⟨o, es, ep, g0, k1, k2, k4, k3, _⟩ := d0
  have I1 := new_ext (t := s.toks) I (fun b u e => Heap.get?_push_of_some _ e) (Nat.le_refl _) g0
  generalize hl : es.toList = l at k3
  cases k3
  have e0 : es = #[] := by
    apply Array.ext'
    rw [hl]
  subst e0
  have q2 := tF_dict1 q (p := s.heap.objs.size) (o := o) I.fresh (dictM_nil upd_same (big_sys I) k1 k2)
  refine wpAny_Dict_walk (knd := mixKind X.prog X.w) rfl rfl (by simp) (by simp) (thn ((pps_cons ha.pe hb.pe pps_nil).run pins _ σ _ _ I1 q2) fun ws s2 ⟨ps, H2, I2, rel, e, x, y, k, d, T, env, ep', hk, r1, r2, tp, q3⟩ => ?_)
  subst ep'
  cases rel with
  | @cons p1 p2 _ _ h t =>
  cases t
  obtain ⟨h1, h2⟩ := h
  have ex := r1.keyS hk
  dsimp only at h1 h2
  rw [ex] at h1
  have ho := obj_at I2 e
  have dd : s2.heap.DictOf (mixKind X.prog X.w) s.heap.objs.size [] := by
    obtain ⟨o', es', ep', f1, f2⟩ := d00
    rw [g0] at f1
    cases f1
    exact ⟨_, es', ep', ho, f2⟩
  refine ⟨[(keyS k, p2.2)], ⟨kV_is h1, rfl, trivial⟩, dd, fun h' d' hs => ?_⟩
  have d'' := d'
  obtain ⟨o', es', ep', f1, f2⟩ := d'
  have I3 := dict_written I2 e hs f1 (s2.toks + 1)
  refine ⟨.ref s.heap.objs.size, _, I3, rfl, q3 o' ?_⟩
  refine dictM_scal upd_same (big_sys I) d'' f1 (by rw [sizeLine_eq]; simp) (.cons ⟨ex, h2⟩ .nil)
end
end Mp

/-! Mp19: targets. -/
namespace Mp
open PySem PySem.Spec PyProof.Rows L2
section
variable {P : Program} {w : World} {K : PySem.W.Frag} {T T' T'' T0 : Addr → Prop} {env env' env'' env0 : Mp.Env} {σ σ' σ'' σ0 : L2.St} {H H' H'' H0 : Hp}
/-- a step that may put what was just made into a slot -/
structure Stp (K : PySem.W.Frag) (T : Addr → Prop) (env : Mp.Env) (σ : L2.St) (H : Hp) (T' : Addr → Prop) (env' : Mp.Env) (σ' : L2.St) (H' : Hp) : Prop where
  fr : ∀ a o, H a = some o → ¬ Avd T env σ a → H' a = some o
  tup : ∀ a vs, SqT K H a vs → SqT K H' a vs
  av : ∀ a, Avd T' env' σ' a → Avd T env σ a ∨ H a = none
  keepT : ∀ a o, T a → T' a → H a = some o → H' a = some o
  back : ∀ a, T' a → T a ∨ H a = none
  there : ∀ a, H a ≠ none → H' a ≠ none
theorem Stp.refl : Stp K T env σ H T env σ H := ⟨fun _ _ h _ => h, fun _ _ h => h, fun _ h => .inl h, fun _ _ _ _ h => h, fun _ h => .inl h, fun _ h => h⟩
theorem not_none {a : Addr} (h : H a ≠ none) : ∃ o, H a = some o := by
  cases q : H a with
  | none => exact absurd q h
  | some o => exact ⟨o, rfl⟩
theorem Stp.trans (a : Stp K T env σ H T' env' σ' H') (b : Stp K T' env' σ' H' T'' env'' σ'' H'') : Stp K T env σ H T'' env'' σ'' H'' where
  fr := fun x o h n => b.fr x o (a.fr x o h n) fun z => (a.av x z).elim n fun q => by rw [h] at q; cases q
  tup := fun x vs h => b.tup x vs (a.tup x vs h)
  av := fun x h => (b.av x h).elim (a.av x) fun z => .inr (Classical.byContradiction fun q => a.there x q z)
  keepT := fun x o t t2 h => by
    have t1 : T' x := (b.back x t2).elim id fun z => absurd z (a.there x (ne_none h))
    exact b.keepT x o t1 t2 (a.keepT x o t t1 h)
  back := fun x h => (b.back x h).elim (a.back x) fun z => .inr (Classical.byContradiction fun q => a.there x q z)
  there := fun x h => b.there x (a.there x h)
theorem Go.stp (g : Go T env σ H T' env' σ' H') (R : Rel P w K T env σ H) : Stp K T env σ H T' env' σ' H' where
  fr := fun a o h n => g.keeps h n
  tup := g.tup R
  av := fun a h => by
    rcases h with h | h
    · exact (g.new a h).imp .inl id
    · exact (g.held a h).imp .inr id
  keepT := fun a o t _ h => g.frame a o h (R.noMut t)
  back := g.new
  there := g.there
theorem Stp.sub (s : Sub env' env) (t : ∀ a, T' a → T a) : Stp K T env σ H T' env' σ H where
  fr := fun _ _ h _ => h
  tup := fun _ _ h => h
  av := fun a h => .inl (s.avd t h)
  keepT := fun _ _ _ _ h => h
  back := fun a h => .inl (t a h)
  there := fun _ h => h
theorem Stp.noAv (g : Stp K T env σ H T' env' σ' H') {a : Addr} (h : H a ≠ none) (n : ¬ Avd T env σ a) : ¬ Avd T' env' σ' a := fun z => (g.av a z).elim n h
theorem Stp.rd (g : Stp K T env σ H T' env' σ' H') (a : Addr) (vs : List V) (n : ¬ Avd T env σ a) (h : Rd H a (.lst vs)) : ¬ Avd T' env' σ' a ∧ Rd H' a (.lst vs) := by
  rcases h with e | ⟨o, e⟩
  · exact ⟨g.noAv (ne_none e) n, .inl (g.fr a _ e n)⟩
  · exact ⟨g.noAv (ne_none e) n, .inr ⟨o, g.fr a _ e n⟩⟩
theorem Stp.dm (g : Stp K T env σ H T' env' σ' H') (a : Addr) (ps : List (V × V)) (n : ¬ Avd T env σ a) (h : DictM P w K H a ps) : ¬ Avd T' env' σ' a ∧ DictM P w K H' a ps := by
  have hs : H a ≠ none := let ⟨_, e⟩ := h.kind; ne_none e
  exact ⟨g.noAv hs n, h.at g.tup fun o e => g.fr a _ e n⟩
theorem Rep.stp {d : D} {v : V} (h : Rep P w K H (Avd T env σ) d v) (g : Stp K T env σ H T' env' σ' H') : Rep P w K H' (Avd T' env' σ') d v := h.map g.tup g.rd g.dm
theorem RepL.stp {d : List D} {v : List V} (h : RepL P w K H (Avd T env σ) d v) (g : Stp K T env σ H T' env' σ' H') : RepL P w K H' (Avd T' env' σ') d v := h.map g.tup g.rd g.dm
theorem RepP.stp {d : List (D × D)} {v : List (V × V)} (h : RepP P w K H (Avd T env σ) d v) (g : Stp K T env σ H T' env' σ' H') : RepP P w K H' (Avd T' env' σ') d v := h.map g.tup g.rd g.dm
theorem Own.stp {a : Addr} {d : D} (h : Own P w K H (Avd T env σ) a d) (g : Stp K T env σ H T' env' σ' H') (k : ∀ o, H a = some o → H' a = some o) : Own P w K H' (Avd T' env' σ') a d := by
  cases h with
  | lst e r => exact .lst (k _ e) (r.stp g)
  | dic e r => exact .dic (e.at g.tup fun o q => k o q) (r.stp g)
def newAt (r : Res) (v : V) : Addr → Prop := newOf (fun _ => False) r v
/-- what waits while another one is stored -/
def notPlc : Res → Bool
  | .plc _ => false
  | _ => true
theorem InF.stp {r : Res} {v : V} (n : notPlc r = true) (h : InF P w K T0 T env σ H r v) (g : Stp K T env σ H T' env' σ' H') (k : ∀ a, newAt r v a → T' a) : InF P w K T0 T' env' σ' H' r v := by
  cases r with
  | val d => exact Rep.stp h g
  | plc i => cases n
  | new d =>
    obtain ⟨a, rfl, t, n, o⟩ := h
    have t' : T' a := k a (.inr rfl)
    exact ⟨a, rfl, t', n, o.stp g fun u hu => g.keepT a u t t' hu⟩
def newsAt : List Res → List V → (Addr → Prop)
  | r :: rs, v :: vs => fun a => newAt r v a ∨ newsAt rs vs a
  | _, _ => fun _ => False
theorem InFs.stp : ∀ {rs : List Res} {vs : List V} {T0 : Addr → Prop}, rs.all notPlc = true → InFs P w K T0 T env σ H rs vs → Stp K T env σ H T' env' σ' H' → (∀ a, newsAt rs vs a → T' a) → InFs P w K T0 T' env' σ' H' rs vs
  | [], _, _, _, h, _, _ => h
  | r :: rs, _, _, n, h, g, k => by
    obtain ⟨v, us, rfl, h1, h2⟩ := h
    rw [List.all_cons] at n
    have n := Bool.and_eq_true_iff.mp n
    exact ⟨v, us, rfl, h1.stp n.1 g fun a z => k a (.inl z), InFs.stp n.2 h2 g fun a z => k a (.inr z)⟩
/-- the new ones of a list stand apart from those ahead, and are kept away -/
theorem news_of : ∀ {rs : List Res} {vs : List V} {T0 : Addr → Prop}, InFs P w K T0 T env σ H rs vs → ∀ a, newsAt rs vs a → T a ∧ ¬ T0 a
  | [], _, _, _, a, z => z.elim
  | r :: rs, _, _, h, a, z => by
    obtain ⟨v, us, rfl, h1, h2⟩ := h
    rcases z with z | z
    · cases r with
      | val d => exact z.elim
      | plc i => exact z.elim
      | new d =>
        obtain ⟨b, rfl, t, n, o⟩ := h1
        rcases z with z | z
        · exact z.elim
        · cases z; exact ⟨t, n⟩
    · obtain ⟨k1, k2⟩ := news_of h2 a z
      exact ⟨k1, fun q => k2 (newOf_sub q)⟩
theorem newOf_at {r : Res} {v : V} {a : Addr} (h : newOf T0 r v a) : T0 a ∨ newAt r v a := by
  cases r with
  | val d => exact .inl h
  | plc i => exact .inl h
  | new d => exact h.imp id .inr

/-! ### a slot is stored -/
theorem store_held {i : Nat} {s : Slot} {v : V} (hl : env.length = σ.length) {a : Addr} (h : Held (env.set i s) (σ.set i (some v)) a) : Held env σ a ∨ (s.holds = true ∧ v = .ref a) := by
  obtain ⟨j, h1, h2⟩ := h
  by_cases hi : i < env.length
  · rw [get_set env i j s hi] at h1
    by_cases e : j = i
    · subst e
      rw [if_pos rfl] at h1
      rw [List.getElem?_set_self (by omega)] at h2
      cases h2
      exact .inr ⟨h1, rfl⟩
    · rw [if_neg e] at h1
      rw [List.getElem?_set_ne (Ne.symm e)] at h2
      exact .inl ⟨j, h1, h2⟩
  · rw [List.set_eq_of_length_le (by omega)] at h1
    rw [List.set_eq_of_length_le (by omega)] at h2
    exact .inl ⟨j, h1, h2⟩
theorem store_mut {i : Nat} {s : Slot} {v : V} (hl : env.length = σ.length) {a : Addr} (h : Mp.Mut (env.set i s) (σ.set i (some v)) a) : Mp.Mut env σ a ∨ (s.holds = true ∧ v = .ref a) := by
  obtain ⟨j, h1, h2⟩ := h
  by_cases hi : i < env.length
  · rw [get_set env i j s hi] at h1
    by_cases e : j = i
    · subst e
      rw [if_pos rfl] at h1
      rw [List.getElem?_set_self (by omega)] at h2
      cases h2
      exact .inr ⟨muts_holds h1, rfl⟩
    · rw [if_neg e] at h1
      rw [List.getElem?_set_ne (Ne.symm e)] at h2
      exact .inl ⟨j, h1, h2⟩
  · rw [List.set_eq_of_length_le (by omega)] at h1
    rw [List.set_eq_of_length_le (by omega)] at h2
    exact .inl ⟨j, h1, h2⟩
/-- what a name takes: a value that stands, or what was just made -/
structure Fits (P : Program) (w : World) (K : PySem.W.Frag) (T T' : Addr → Prop) (env : Mp.Env) (σ : L2.St) (H : Hp) (s : Slot) (v : V) : Prop where
  sub : ∀ a, T' a → T a
  new : s.holds = true → ∀ a, v = .ref a → T a ∧ ¬ T' a
  plain : (∀ d, s ≠ .lk d) ∧ ∀ d, s ≠ .rf d
  ok : SlotOk P w K H (Avd T env σ) s (some v)
theorem Rel.store {i : Nat} {s : Slot} {v : V} (R : Rel P w K T env σ H) (f : Fits P w K T T' env σ H s v) : Rel P w K T' (env.set i s) (σ.set i (some v)) H := by
  have av : ∀ a, Avd T' (env.set i s) (σ.set i (some v)) a → Avd T env σ a := fun a h => by
    rcases h with h | h
    · exact .inl (f.sub a h)
    · exact (store_held R.len h).elim .inr fun q => .inl (f.new q.1 a q.2).1
  have okA : ∀ {s : Slot} {o : Option V}, SlotOk P w K H (Avd T env σ) s o → SlotOk P w K H (Avd T' (env.set i s) (σ.set i (some v))) s o → True := fun _ _ => trivial
  have ok' : ∀ {t : Slot} {o : Option V}, SlotOk P w K H (Avd T env σ) t o → SlotOk P w K H (Avd T' (env.set i s) (σ.set i (some v))) t o := fun {t o} q => by
    cases t with
    | un => exact trivial
    | fz d => obtain ⟨v, e1, r⟩ := q; exact ⟨v, e1, r.anti av⟩
    | ow d => obtain ⟨v, e1, r⟩ := q; exact ⟨v, e1, r.anti av⟩
    | lk d => obtain ⟨v, e1, r⟩ := q; exact ⟨v, e1, r.anti av⟩
    | rf d => obtain ⟨v, e1, r⟩ := q; exact ⟨v, e1, r.anti av⟩
  refine ⟨by rw [List.length_set, List.length_set]; exact R.len, fun j => ?_, fun j k a h1 h2 => ?_, fun a h1 h2 => ?_, fun a h => R.there a (f.sub a h)⟩
  · by_cases hi : i < env.length
    · rw [get_set env i j s hi]
      by_cases e : j = i
      · subst e
        rw [if_pos rfl, List.getElem?_set_self (by have := R.len; omega)]
        exact ok' f.ok
      · rw [if_neg e, List.getElem?_set_ne (Ne.symm e)]
        exact ok' (R.ok j)
    · have e1 : get (env.set i s) j = get env j := by rw [List.set_eq_of_length_le (by omega)]
      have e2 : (σ.set i (some v))[j]? = σ[j]? := by rw [List.set_eq_of_length_le (by have := R.len; omega)]
      rw [e1, e2]
      exact ok' (R.ok j)
  · by_cases hi : i < env.length
    · have key : ∀ j, Hld (env.set i s) (σ.set i (some v)) j a → (j = i ∧ s.holds = true ∧ v = .ref a) ∨ (j ≠ i ∧ Hld env σ j a) := fun j h => by
        obtain ⟨k1, k2⟩ := h
        rw [get_set env i j s hi] at k1
        by_cases e : j = i
        · subst e
          rw [if_pos rfl] at k1
          rw [List.getElem?_set_self (by have := R.len; omega)] at k2
          cases k2
          exact .inl ⟨rfl, k1, rfl⟩
        · rw [if_neg e] at k1
          rw [List.getElem?_set_ne (Ne.symm e)] at k2
          exact .inr ⟨e, k1, k2⟩
      rcases key j h1 with ⟨a1, a2, a3⟩ | ⟨a1, a2⟩
      · rcases key k h2 with ⟨b1, b2, b3⟩ | ⟨b1, b2⟩
        · rw [a1, b1]
        · exact absurd ⟨k, b2⟩ (R.apart a (f.new a2 a a3).1)
      · rcases key k h2 with ⟨b1, b2, b3⟩ | ⟨b1, b2⟩
        · exact absurd ⟨j, a2⟩ (R.apart a (f.new b2 a b3).1)
        · exact R.one j k a a2 b2
    · have e1 : env.set i s = env := List.set_eq_of_length_le (by omega)
      have e2 : σ.set i (some v) = σ := List.set_eq_of_length_le (by have := R.len; omega)
      rw [e1, e2] at h1 h2
      exact R.one j k a h1 h2
  · rcases store_held R.len h2 with h | ⟨q1, q2⟩
    · exact R.apart a (f.sub a h1) h
    · exact (f.new q1 a q2).2 h1
theorem Go.store {i : Nat} {s : Slot} {v : V} (g : Go T0 env0 σ0 H0 T env σ H) (R : Rel P w K T env σ H) (f : Fits P w K T T' env σ H s v) (t0 : ∀ a, T0 a → T' a) : Go T0 env0 σ0 H0 T' (env.set i s) (σ.set i (some v)) H := by
  have nw : ∀ a, s.holds = true → v = .ref a → H0 a = none := fun a h e => (g.new a (f.new h a e).1).elim (fun z => absurd (t0 a z) (f.new h a e).2) id
  have at_ : ∀ j t, get (env.set i s) j = t → (t ≠ s) → get env j = t ∧ (σ.set i (some v))[j]? = σ[j]? := fun j t h n => by
    by_cases hi : i < env.length
    · rw [get_set env i j s hi] at h
      by_cases e : j = i
      · subst e; rw [if_pos rfl] at h; exact absurd h.symm n
      · rw [if_neg e] at h; exact ⟨h, List.getElem?_set_ne (Ne.symm e)⟩
    · have e1 : env.set i s = env := List.set_eq_of_length_le (by omega)
      have e2 : σ.set i (some v) = σ := List.set_eq_of_length_le (by have := R.len; omega)
      rw [e1] at h
      rw [e2]
      exact ⟨h, rfl⟩
  refine ⟨g.frame, g.there, fun a h => (store_mut R.len h).elim (g.muts a) fun q => .inr (nw a q.1 q.2), fun a h => (store_held R.len h).elim (g.held a) fun q => .inr (nw a q.1 q.2), fun j d h => ?_, fun j d h => ?_, t0, fun a h => g.new a (f.sub a h)⟩
  · obtain ⟨k1, k2⟩ := at_ j _ h fun e => f.plain.1 d e.symm
    obtain ⟨k3, k4⟩ := g.lks j d k1
    exact ⟨k3, k2.trans k4⟩
  · obtain ⟨k1, k2⟩ := at_ j _ h fun e => f.plain.2 d e.symm
    obtain ⟨k3, k4⟩ := g.rfs j d k1
    exact ⟨k3, k2.trans k4⟩
theorem Fits.stp {i : Nat} {s : Slot} {v : V} (R : Rel P w K T env σ H) (f : Fits P w K T T' env σ H s v) : Stp K T env σ H T' (env.set i s) (σ.set i (some v)) H where
  fr := fun _ _ h _ => h
  tup := fun _ _ h => h
  av := fun a h => .inl (by
    rcases h with h | h
    · exact .inl (f.sub a h)
    · exact (store_held R.len h).elim .inr fun q => .inl (f.new q.1 a q.2).1)
  keepT := fun _ _ _ _ h => h
  back := fun a h => .inl (f.sub a h)
  there := fun _ h => h
end
section
variable (P : Program) (w : World) (K : PySem.W.Frag)
def gF (S : Nat → Prop) (g : TgF) : TG := fun v σ H Q => ∃ T0 env0 σ0 H0 T env r env', Go T0 env0 σ0 H0 T env σ H ∧ Rel P w K T env σ H ∧ InF P w K T0 T env σ H r v ∧ g r env = some env' ∧
  ∀ σ' H' T', (σ'.length = σ.length ∧ ∀ j, ¬ S j → σ'[j]? = σ[j]?) → Go T0 env0 σ0 H0 T' env' σ' H' → Rel P w K T' env' σ' H' → Stp K T env σ H T' env' σ' H' → (∀ a, T a → ¬ newAt r v a → T' a) → Q σ' H'
def gFs (S : Nat → Prop) (gs : List TgF) : TGs := fun vs σ H Q => ∃ T0 env0 σ0 H0 T env rs env', Go T0 env0 σ0 H0 T env σ H ∧ Rel P w K T env σ H ∧ InFs P w K T0 T env σ H rs vs ∧ rs.all notPlc = true ∧ gAll gs rs env = some env' ∧
  ∀ σ' H' T', (σ'.length = σ.length ∧ ∀ j, ¬ S j → σ'[j]? = σ[j]?) → Go T0 env0 σ0 H0 T' env' σ' H' → Rel P w K T' env' σ' H' → Stp K T env σ H T' env' σ' H' → (∀ a, T a → ¬ newsAt rs vs a → T' a) → Q σ' H'
end
abbrev xG (X : Cx) (S : Nat → Prop) (g : TgF) : TG := gF X.prog X.w X.K S g
abbrev xGs (X : Cx) (S : Nat → Prop) (gs : List TgF) : TGs := gFs X.prog X.w X.K S gs
section
variable {X : Cx} {e : Expr} {es : List Expr} {g : TgF} {gs : List TgF} {pos : Pos} {S : Nat → Prop}
theorem pg_imp {t t' : TG} (h : PG X e t) (i : ∀ v σ H Q, t' v σ H Q → t v σ H Q) : PG X e t' := ⟨fun pins s σ H v u Q I r q => h.run pins s σ H v u Q I r (i v σ H Q q)⟩
theorem pgs_imp {t t' : TGs} (h : PGs X es t) (i : ∀ v σ H Q, t' v σ H Q → t v σ H Q) : PGs X es t' := ⟨fun pins s σ H v u Q I r q => h.run pins s σ H v u Q I r (i v σ H Q q)⟩
theorem pg_fail : PG X e (xG X S fun _ _ => none) := ⟨fun pins s σ H v u Q I r q => by obtain ⟨_, _, _, _, _, _, _, _, _, _, _, e, _⟩ := q; cases e⟩
theorem gNm_ok {i : Nat} (hS : S i) {v : V} {σ : L2.St} {H : Hp} {Q : L2.St → Hp → Prop} (q : xG X S (gNm i) v σ H Q) : Q (σ.set i (some v)) H := by
    obtain ⟨T0, env0, σ0, H0, T, env, r, env', g, R, i1, e, q⟩ := q
    cases r with
    | val d =>
      cases e
      have f : Fits X.prog X.w X.K T T env σ H (.fz d) v := ⟨fun _ h => h, fun h => (nomatch h), ⟨fun _ h => (nomatch h), fun _ h => (nomatch h)⟩, v, rfl, i1⟩
      exact q _ H T ⟨List.length_set .., fun j hj => List.getElem?_set_ne (fun e : i = j => hj (by rw [← e]; exact hS))⟩ (g.store R f g.sub) (R.store f) (f.stp R) fun a h _ => h
    | new d =>
      cases e
      obtain ⟨a, rfl, t, n, o⟩ := i1
      have f : Fits X.prog X.w X.K T (fun b => T b ∧ b ≠ a) env σ H (.ow d) (.ref a) := ⟨fun _ h => h.1, fun _ b h => by cases h; exact ⟨t, fun z => z.2 rfl⟩, ⟨fun _ h => (nomatch h), fun _ h => (nomatch h)⟩, a, rfl, o⟩
      exact q _ H _ ⟨List.length_set .., fun j hj => List.getElem?_set_ne (fun e : i = j => hj (by rw [← e]; exact hS))⟩ (g.store R f fun b h => ⟨g.sub b h, fun e => n (e ▸ h)⟩) (R.store f) (f.stp R) fun b h k => ⟨h, fun e => k (.inr (by rw [e]))⟩
    | plc j =>
      obtain ⟨⟨d, e1⟩, h1, e⟩ := Option.map_eq_some_iff.mp e
      cases e
      have s := take_sub h1
      obtain ⟨R1, r1⟩ := take_ok i1 R h1
      have f : Fits X.prog X.w X.K T T e1 σ H (.fz d) v := ⟨fun _ h => h, fun h => (nomatch h), ⟨fun _ h => (nomatch h), fun _ h => (nomatch h)⟩, v, rfl, r1⟩
      exact q _ H T ⟨List.length_set .., fun j hj => List.getElem?_set_ne (fun e : i = j => hj (by rw [← e]; exact hS))⟩ ((g.less s (fun _ h => h) g.sub).store R1 f g.sub) (R1.store f) ((Stp.sub s fun _ h => h).trans (f.stp R1)) fun a h _ => h
theorem pg_nm {i : Nat} {x : Str} (hS : S i) (hN : X.N.Nodup) (hi : X.N[i]? = some x) (hx : Loc X.env.scope x) (hf : X.fn x = true ∨ X.env.scope.names.lookup x = some .local) : PG X (.Name x pos) (xG X S (gNm i)) :=
  pg_imp (pg_name hN hi hx hf) fun v σ H Q q => gNm_ok hS q
/-- targets in a row -/
structure GXs (X : Cx) (S : Nat → Prop) (es : List Expr) (gs : List TgF) : Prop where
  pg : PGs X es (xGs X S gs)
  len : es.length = gs.length
  star : ∀ rs env q, gAll gs rs env = some q → (es.all fun e => !isStar e) = true
theorem assign_each {env : PySem.Env} (e : Expr) (es : List Expr) (h : isStar e = false) : assignEach (e :: es) env = (false, assign e env) :: assignEach es env := by
  cases e <;> first | rfl | cases h
theorem gFs_nil {vs : List V} {σ : L2.St} {H : Hp} {Q : L2.St → Hp → Prop} (q : xGs X S [] vs σ H Q) : vs = [] ∧ Q σ H := by
  obtain ⟨T0, env0, σ0, H0, T, env, rs, env', g, R, i1, n, e, q⟩ := q
  cases rs with
  | nil =>
    cases i1
    cases e
    exact ⟨rfl, q σ H T ⟨rfl, fun _ _ => rfl⟩ g R .refl fun a h _ => h⟩
  | cons r rs => cases e
theorem gFs_cons {vs : List V} {σ : L2.St} {H : Hp} {Q : L2.St → Hp → Prop} (q : xGs X S (g :: gs) vs σ H Q) : ∃ v us, vs = v :: us ∧ xG X S g v σ H fun σ1 H1 => xGs X S gs us σ1 H1 Q := by
    obtain ⟨T0, env0, σ0, H0, T, env, rs, env', g, R, i1, n, e, q⟩ := q
    cases rs with
    | nil => cases e
    | cons r rs =>
      obtain ⟨v, us, rfl, j1, j2⟩ := i1
      obtain ⟨e1, k1, e⟩ := Option.bind_eq_some_iff.mp e
      rw [List.all_cons] at n
      have n := Bool.and_eq_true_iff.mp n
      refine ⟨v, us, rfl, T0, env0, σ0, H0, T, env, r, e1, g, R, j1, k1, fun σ1 H1 T1 d1 g1 R1 s1 t1 => ?_⟩
      have nw := news_of j2
      have keep : ∀ a, newsAt rs us a → T1 a := fun a z => t1 a (nw a z).1 fun q => (nw a z).2 (by
        cases r with
        | val d => exact q.elim
        | plc i => exact q.elim
        | new d => exact q.elim (fun z => z.elim) .inr)
      refine ⟨T0, env0, σ0, H0, T1, e1, rs, env', g1, R1, (InFs.stp n.2 j2 s1 keep).base fun a h => newOf_sub h, n.2, e, fun σ2 H2 T2 d2 g2 R2 s2 t2 => ?_⟩
      exact q σ2 H2 T2 ⟨d2.1.trans d1.1, fun j hj => (d2.2 j hj).trans (d1.2 j hj)⟩ g2 R2 (s1.trans s2) fun a h k => t2 a (t1 a h fun z => k (.inl z)) fun z => k (.inr z)
theorem gxs_nil : GXs X S [] [] where
  pg := pgs_imp pgs_nil fun vs σ H Q q => gFs_nil q
  len := rfl
  star := fun _ _ _ _ => rfl
theorem gxs_cons (h1 : PG X e (xG X S g)) (h2 : GXs X S es gs) (hst : isStar e = false) : GXs X S (e :: es) (g :: gs) where
  pg := pgs_imp (pgs_cons h1 h2.pg (by rw [assign_each e es hst]; rfl)) fun vs σ H Q q => gFs_cons q
  len := by rw [List.length_cons, List.length_cons, h2.len]
  star := fun rs env q e => by
    cases rs with
    | nil => cases e
    | cons r rs =>
      obtain ⟨e1, k1, e⟩ := Option.bind_eq_some_iff.mp e
      rw [List.all_cons, h2.star _ _ _ e, hst]
      rfl
theorem gxs_fail (hl : es.length = gs.length) : GXs X S (e :: es) ((fun _ _ => none) :: gs) where
  pg := ⟨fun pins s σ H v u Q I r q => by
    obtain ⟨T0, env0, σ0, H0, T, env, rs, env', g, R, i1, n, e, q⟩ := q
    cases rs with
    | nil => cases e
    | cons r rs => cases e⟩
  len := by rw [List.length_cons, List.length_cons, hl]
  star := fun rs env q e => by
    cases rs with
    | nil => cases e
    | cons r rs => cases e
theorem each_plain {env : PySem.Env} : ∀ {es : List Expr}, (es.all fun e => !isStar e) = true → (assignEach es env).findIdx? (·.1) = none ∧ (assignEach es env).length = es.length
  | [], _ => ⟨rfl, rfl⟩
  | e :: es, h => by
    rw [List.all_cons] at h
    have q := Bool.and_eq_true_iff.mp h
    have h1 : isStar e = false := by simpa using q.1
    obtain ⟨i1, i2⟩ := each_plain (env := env) q.2
    rw [assign_each e es h1]
    refine ⟨?_, by simp [i2]⟩
    simp [List.findIdx?_cons, i1]
theorem gAll_len : ∀ {gs : List TgF} {rs : List Res} {env env' : Mp.Env}, gAll gs rs env = some env' → gs.length = rs.length
  | [], [], _, _, _ => rfl
  | [], _ :: _, _, _, e => by cases e
  | _ :: _, [], _, _, e => by cases e
  | g :: gs, r :: rs, _, _, e => by
    obtain ⟨e1, k1, e⟩ := Option.bind_eq_some_iff.mp e
    rw [List.length_cons, List.length_cons, gAll_len e]
theorem infs_vals {P : Program} {w : World} {K : PySem.W.Frag} {T0 T : Addr → Prop} {env : Mp.Env} {σ : L2.St} {H : Hp} : ∀ {ds : List D} {vs : List V}, RepL P w K H (Avd T env σ) ds vs → InFs P w K T0 T env σ H (ds.map .val) vs
  | _, _, .nil => rfl
  | _, _, .cons h t => ⟨_, _, rfl, h, infs_vals t⟩
theorem news_vals : ∀ {ds : List D} {vs : List V} {a : Addr}, ¬ newsAt (ds.map .val) vs a
  | [], _, _, h => by cases h
  | _ :: _, [], _, h => by cases h
  | _ :: ds, _ :: vs, a, h => h.elim (fun z => z.elim) (news_vals (ds := ds) (vs := vs) (a := a))
theorem pg_tp {k : Nat} (hc : X.calm = true) (h : GXs X S es gs) (hst : (es.all fun e => !isStar e) = true) : PG X (.Tuple es k pos) (xG X S (gTp gs)) :=
  pg_imp (pg_tup (n := es.length) hc h.pg (each_plain hst).2 (each_plain hst).1) fun v σ H Q q => by
    obtain ⟨T0, env0, σ0, H0, T, env, r, env', g, R, i1, e, q⟩ := q
    cases r with
    | new d => cases e
    | plc i => cases e
    | val d =>
      cases d <;> first | (cases e; done) | skip
      rename_i ds
      have u : Use X.prog X.w X.K H (Avd T env σ) (.tuple ds) v := .rep i1
      obtain ⟨a, vs, rfl, h1, r1⟩ := u.tup
      have hl := gAll_len e
      rw [List.length_map] at hl
      refine ⟨a, vs, rfl, h1, by rw [← r1.length, ← hl, ← h.len], T0, env0, σ0, H0, T, env, ds.map .val, env', g, R, infs_vals r1, by rw [List.all_map]; simp [notPlc, Function.comp_def], e, fun σ' H' T' d' g' R' s' t' => ?_⟩
      exact q σ' H' T' d' g' R' s' fun a h _ => t' a h news_vals
end
end Mp

/-! Mp20: o[i] = v; statements. -/
namespace Mp
open PySem PySem.Spec PyProof.Rows L2
theorem cont_sub {env env' : Mp.Env} (s : Sub env' env) {i : Nat} : cont env' i = cont env i := by
  rw [cont_data, cont_data]
  rcases s.at_ i with e | ⟨d, e1, e2⟩
  · rw [e]
  · rw [e1, e2]; rfl
section
variable {X : Cx} {a b e : Expr} {f g : EvF} {pos : Pos} {S : Nat → Prop}
/-- what a store into a list or dict comes to -/
def rSetX (X : Cx) : TSet := fun o i v H Q =>
  (∃ p vs k j, o = .ref p ∧ i = .int k ∧ H p = some (.lst vs) ∧ ixN vs.length k = some j ∧ Q (upd H p (.lst (vs.set j v)))) ∨
  ∃ p ps kvs k d Av, o = .ref p ∧ DictM X.prog X.w X.K H p ps ∧ RepP X.prog X.w X.K H Av kvs ps ∧ kvOk kvs k = true ∧ Rep X.prog X.w X.K H Av k i ∧ Rep X.prog X.w X.K H Av d v ∧ kvs.length < sizeLine ∧
    ∀ o' ps', DictM X.prog X.w X.K (upd H p (objAt p o')) p ps' → RepP X.prog X.w X.K H Av (dPut kvs k d) ps' → Q (upd H p (objAt p o'))
theorem set_ok (hu : X.A.units + 100 < cLine) : PSet X (rSetX X) := by
  rintro pins s σ H o i v ov iv u Q I ro ri rv (⟨p, vs, k, j, rfl, rfl, hH, hj, q⟩ | ⟨p, ps, kvs, k, d, Av, rfl, m, rp, ok, rk, rd, hz, q⟩)
  · exact set_list pins s σ H _ _ v ov iv u Q I ro ri rv ⟨p, vs, k, j, rfl, rfl, hH, hj, q⟩
  · cases ro
    exact dict_set (A := X.A) (by omega) I m rp ok rk ri rd rv hz fun o' ps' s' I' m' rp' => ⟨_, I', q o' ps' m' rp'⟩
theorem pg_sb (hu : X.A.units + 100 < cLine) (ha : EX X a f) (hb : EX X b g) (hs : noSlice b = true) : PG X (.Subscript a b pos) (xG X S (gSb f g)) :=
  pg_imp (pg_sub ha.pe hb.pe (set_ok hu) (by intro v; cases b <;> first | rfl | cases hs)) fun v σ H Q q => by
    obtain ⟨T0, env0, σ0, H0, T, env, r, env', g0, R, i1, e, q⟩ := q
    unfold gSb at e
    obtain ⟨⟨d, e1⟩, h1, e⟩ := Option.bind_eq_some_iff.mp e
    obtain ⟨⟨p1, e2⟩, h2, e⟩ := Option.bind_eq_some_iff.mp e
    obtain ⟨⟨p2, e3⟩, h3, e⟩ := Option.bind_eq_some_iff.mp e
    have s1 := take_sub h1
    obtain ⟨R1, r1⟩ := take_ok i1 R h1
    have g1 := g0.less s1 (fun a => less_sub (r := r) (v := v)) fun a h => less_base i1 g0.sub h
    have st1 : Stp X.K T env σ H (less T r v) e1 σ H := Stp.sub s1 fun a => less_sub
    have tk : ∀ a, T a → ¬ newAt r v a → less T r v a := fun a h n => by
      cases r with
      | val _ => exact h
      | plc _ => exact h
      | new _ => exact ⟨h, fun e => n (.inr e)⟩
    refine ⟨less T r v, e1, p1, e2, R1, h2, fun o H1 T1 g2 R2 i2 => ⟨T1, e2, p2, e3, R2, h3, fun i H2 T2 g3 R3 i3 => ?_⟩⟩
    have g23 := g2.trans g3
    have r3 := (Rep.step r1 R1 g2).step R2 g3
    cases p1 with
    | val _ => cases e
    | new _ => cases e
    | plc j =>
      dsimp only at e
      cases hc : cont e3 j with
      | none => rw [hc] at e; cases e
      | some c =>
        rw [hc] at e
        have R3d := R3.drop g23
        cases c with
        | list xs =>
          dsimp only at e
          obtain ⟨k, hk, e⟩ := Option.bind_eq_some_iff.mp e
          cases k <;> first | (cases e; done) | skip
          rename_i m
          obtain ⟨n, hn, e⟩ := Option.bind_eq_some_iff.mp e
          have ui := (i3.use R3 hk).int
          subst ui
          obtain ⟨ad, rfl, ow⟩ := cont_own R3d i2 hc e
          cases ow with
          | lst hH rl =>
            refine .inl ⟨ad, _, m, n, rfl, rfl, hH, by rw [← rl.length]; exact hn, ?_⟩
            have r3' : Rep X.prog X.w X.K H2 (Avd (less T r v) e3 σ) d v := r3.anti fun a h => h.imp (g23.sub a) id
            obtain ⟨R4, g4⟩ := R3d.write (o := .lst (List.set _ n v)) i2 (.lst (rl.set r3' n)) e
            exact q σ _ (less T r v) ⟨rfl, fun _ _ => rfl⟩ ((g1.trans g23.drop).trans g4) R4 ((st1.trans (g23.drop.stp R1)).trans (g4.stp R3d)) tk
        | dict kvs =>
          dsimp only at e
          obtain ⟨⟨k, e4⟩, h4, e⟩ := Option.bind_eq_some_iff.mp e
          dsimp only at e
          split at e
          · rename_i hz
            have hz := Bool.and_eq_true_iff.mp hz
            have s4 := take_sub h4
            obtain ⟨R4, r4⟩ := take_ok i3 R3 h4
            have lb : ∀ a, less T r v a → less T2 p2 i a := fun a h => less_base i3 g3.sub (g2.sub a h)
            have R5 : Rel X.prog X.w X.K (less T r v) e4 σ H2 := R4.less .refl lb
            have g5 := g23.less s4 (fun a h => g23.sub a h) fun a h => h
            have av : ∀ a, Avd (less T r v) e4 σ a → Avd (less T2 p2 i) e4 σ a := fun a h => h.imp (lb a) id
            have own : ∃ ad ps, o = .ref ad ∧ DictM X.prog X.w X.K H2 ad ps ∧ RepP X.prog X.w X.K H2 (Avd (less T r v) e4 σ) kvs ps := by
              have hc4 : cont e4 j = some (.dict kvs) := by rw [cont_sub s4]; exact hc
              obtain ⟨v', e1', ud⟩ := R5.read hc4
              have i2' : σ[j]? = some (some o) := i2
              rw [i2'] at e1'
              cases e1'
              obtain ⟨ad, ps, rfl, m, rp⟩ := ud.dic
              exact ⟨ad, ps, rfl, m, rp⟩
            obtain ⟨ad, ps, rfl, m, rp⟩ := own
            have r5 : Rep X.prog X.w X.K H2 (Avd (less T r v) e4 σ) d v := r3.anti fun a h => s4.avd (fun a h => g23.sub a h) h
            refine .inr ⟨ad, ps, kvs, k, d, _, rfl, m, rp, hz.1, r4.anti av, r5, by rw [sizeLine_eq]; exact of_decide_eq_true hz.2, fun o' ps' m' rp' => ?_⟩
            obtain ⟨R6, g6⟩ := R5.write (o := objAt ad o') i2 (.dic m' rp') e
            exact q σ _ (less T r v) ⟨rfl, fun _ _ => rfl⟩ ((g1.trans g5).trans g6) R6 ((st1.trans (g5.stp R1)).trans (g6.stp R5)) tk
          · cases e
        | _ => cases e
end
end Mp

/-! Mp21: statements. -/
namespace Mp
open PySem PySem.Spec PyProof.Rows L2
section
variable {T T' T'' : Addr → Prop} {env env' env'' : Mp.Env} {σ σ' σ'' : L2.St} {H H' H'' : Hp}
/-- what a return leaves: what a slot held may be given away -/
structure GoR (T : Addr → Prop) (env : Mp.Env) (σ : L2.St) (H : Hp) (T' : Addr → Prop) (env' : Mp.Env) (σ' : L2.St) (H' : Hp) : Prop where
  frame : ∀ a o, H a = some o → ¬ Mp.Mut env σ a → H' a = some o
  there : ∀ a, H a ≠ none → H' a ≠ none
  rfs : ∀ i d, get env' i = .rf d → (∃ d', get env i = .rf d') ∧ σ'[i]? = σ[i]?
  sub : ∀ a, T a → T' a
  new : ∀ a, T' a → T a ∨ H a = none ∨ Held env σ a
theorem Go.goR (g : Go T env σ H T' env' σ' H') : GoR T env σ H T' env' σ' H' := ⟨g.frame, g.there, g.rfs, g.sub, fun a h => (g.new a h).imp id .inl⟩
theorem GoR.pre (a : Go T env σ H T' env' σ' H') (b : GoR T' env' σ' H' T'' env'' σ'' H'') : GoR T env σ H T'' env'' σ'' H'' where
  frame := fun x o e n => b.frame x o (a.frame x o e n) fun m => (a.muts x m).elim n fun z => by rw [e] at z; cases z
  there := fun x h => b.there x (a.there x h)
  rfs := fun i d e => let ⟨⟨d1, e1⟩, e2⟩ := b.rfs i d e; let ⟨e3, e4⟩ := a.rfs i d1 e1; ⟨e3, e2.trans e4⟩
  sub := fun x h => b.sub x (a.sub x h)
  new := fun x m => by
    rcases b.new x m with h | h | h
    · exact (a.new x h).imp id .inl
    · exact .inr (.inl (Classical.byContradiction fun q => a.there x q h))
    · exact .inr ((a.held x h).elim .inr .inl)
end
section
variable (P : Program) (w : World) (K : PySem.W.Frag)
def SEnd (D : Ends) (T : Addr → Prop) (env : Mp.Env) (σ : L2.St) (H : Hp) (env' : Mp.Env) : Mp.Flow → Prop
  | .nx => ∀ σ' H', Go T env σ H T env' σ' H' → Rel P w K T env' σ' H' → D.nx σ' H'
  | .ct => ∀ σ' H', Go T env σ H T env' σ' H' → Rel P w K T env' σ' H' → D.ct σ' H'
  | .bk => ∀ σ' H', Go T env σ H T env' σ' H' → Rel P w K T env' σ' H' → D.bk σ' H'
  | .rt b d => ∀ v σ' H' T', GoR T env σ H T' env' σ' H' → Rel P w K T' env' σ' H' → InF P w K T T' env' σ' H' (resOf b d) v → D.rt v H'
def sF (f : StF) : TS := fun D σ H => ∃ T env fl env', Rel P w K T env σ H ∧ f env = some (fl, env') ∧ SEnd P w K D T env σ H env' fl
end
theorem SEnd.pre {P : Program} {w : World} {K : PySem.W.Frag} {D : Ends} {T : Addr → Prop} {env env1 env' : Mp.Env} {σ σ1 : L2.St} {H H1 : Hp} {fl : Mp.Flow} (g : Go T env σ H T env1 σ1 H1) (h : SEnd P w K D T env σ H env' fl) : SEnd P w K D T env1 σ1 H1 env' fl := by
  cases fl with
  | nx => exact fun σ' H' g' => h σ' H' (g.trans g')
  | ct => exact fun σ' H' g' => h σ' H' (g.trans g')
  | bk => exact fun σ' H' g' => h σ' H' (g.trans g')
  | rt b d => exact fun v σ' H' T' g' => h v σ' H' T' (GoR.pre g g')
abbrev xS (X : Cx) (f : StF) : TS := sF X.prog X.w X.K f
section
abbrev any : Nat → Prop := fun _ => True
variable {X : Cx} {st : Stmt} {sts : List Stmt} {a b e : Expr} {f g : EvF} {k k1 : StF} {pos : Pos}
theorem ps_imp {t t' : TS} (h : PS X st t) (i : ∀ D σ H, t' D σ H → t D σ H) : PS X st t' := ⟨fun pins s σ H D I q => h.run pins s σ H D I (i D σ H q)⟩
theorem pss_imp {t t' : TS} (h : PSs X sts t) (i : ∀ D σ H, t' D σ H → t D σ H) : PSs X sts t' := ⟨fun pins s σ H D I q => h.run pins s σ H D I (i D σ H q)⟩
theorem st_fail : PS X st (xS X failS) := ⟨fun pins s σ H D I q => by obtain ⟨_, _, _, _, _, e, _⟩ := q; cases e⟩
theorem sts_fail : PSs X sts (xS X failS) := ⟨fun pins s σ H D I q => by obtain ⟨_, _, _, _, _, e, _⟩ := q; cases e⟩
/-! ### blocks -/
theorem st_nil : PSs X [] (xS X sNil) := pss_imp pss_nil fun D σ H q => by
  obtain ⟨T, env, fl, env', R, e, q⟩ := q
  cases e
  exact q σ H .refl R
theorem st_one (h : PS X st (xS X k)) : PSs X [st] (xS X k) := pss_one h
theorem st_seq (h1 : PS X st (xS X k)) (h2 : PSs X sts (xS X k1)) : PSs X (st :: sts) (xS X (sSeq k k1)) := pss_imp (pss_cons h1 h2) fun D σ H q => by
  obtain ⟨T, env, fl, env', R, e, q⟩ := q
  obtain ⟨⟨fl1, e1⟩, k1, e⟩ := Option.bind_eq_some_iff.mp e
  refine ⟨T, env, fl1, e1, R, k1, ?_⟩
  cases fl1 with
  | nx => exact fun σ1 H1 g1 R1 => ⟨T, e1, fl, env', R1, e, q.pre g1⟩
  | ct => cases e; exact q
  | bk => cases e; exact q
  | rt b d => cases e; exact q
theorem st_pass : PS X (.Pass pos) (xS X sNil) := ps_imp ps_pass fun D σ H q => by
  obtain ⟨T, env, fl, env', R, e, q⟩ := q
  cases e
  exact q σ H .refl R
theorem st_cont : PS X (.Continue pos) (xS X sCont) := ps_imp ps_continue fun D σ H q => by
  obtain ⟨T, env, fl, env', R, e, q⟩ := q
  cases e
  exact q σ H .refl R
theorem st_break : PS X (.Break pos) (xS X sBreak) := ps_imp ps_break fun D σ H q => by
  obtain ⟨T, env, fl, env', R, e, q⟩ := q
  cases e
  exact q σ H .refl R
theorem st_if {c : Expr} {sa sb : List Stmt} (hc : EX X c f) (ha : PSs X sa (xS X k)) (hb : PSs X sb (xS X k1)) : PS X (.If c sa sb pos) (xS X (sIf f k k1)) := ps_imp (ps_if hc.pt ha hb) fun D σ H q => by
  obtain ⟨T, env, fl, env', R, e, q⟩ := q
  obtain ⟨⟨c, e1⟩, h1, e⟩ := Option.bind_eq_some_iff.mp e
  refine ⟨T, env, c, e1, R, h1, fun H1 g1 R1 => ?_⟩
  cases c with
  | true => rw [if_pos rfl]; rw [if_pos (show (true : Bool) = true from rfl)] at e; exact ⟨T, e1, fl, env', R1, e, q.pre g1⟩
  | false => rw [if_neg (by decide)]; rw [if_neg (show ¬ ((false : Bool) = true) from fun z => nomatch z)] at e; exact ⟨T, e1, fl, env', R1, e, q.pre g1⟩
def isCallE : Expr → Bool
  | .Call .. => true
  | _ => false
theorem st_expr (he : EX X e f) (hs : isCallE e = true) : PS X (.Expr e pos) (xS X (sExpr f)) := ps_imp (ps_expr he.pe (by cases e <;> first | rfl | cases hs)) fun D σ H q => by
  obtain ⟨T, env, fl, env', R, e, q⟩ := q
  obtain ⟨⟨r, e1⟩, h1, e⟩ := Option.bind_eq_some_iff.mp e
  cases e
  exact ⟨T, env, r, _, R, h1, fun v H1 T1 g1 R1 i1 => q σ H1 g1.drop (R1.drop g1)⟩
theorem ret_ok {σ : L2.St} {D : Ends} {H : Hp} (q : xS X (sRet f) D σ H) : xF X f σ H D.rt := by
  obtain ⟨T, env, fl, env', R, e, q⟩ := q
  obtain ⟨⟨r, e1⟩, h1, e⟩ := Option.bind_eq_some_iff.mp e
  refine ⟨T, env, r, e1, R, h1, fun v H1 T1 g1 R1 i1 => ?_⟩
  cases r with
  | val d => cases e; exact q v σ H1 T1 g1.goR R1 i1
  | new d => cases e; exact q v σ H1 T1 g1.goR R1 i1
  | plc i =>
    have i1 : σ[i]? = some (some v) := i1
    have give : ∀ d, (get e1 i = .ow d ∨ get e1 i = .lk d) → fl = .rt true d → env' = e1.set i .un → D.rt v H1 := fun d hg hf he => by
      subst hf he
      have hh : (get e1 i).holds = true := by rcases hg with h | h <;> (rw [h]; rfl)
      have hlt : i < e1.length := get_lt (by rcases hg with h | h <;> (rw [h]; exact fun z => nomatch z))
      obtain ⟨a, d', k1, k2, ow⟩ := R1.own hh
      rw [i1] at k1
      cases k1
      have : d' = d := by rcases hg with h | h <;> (rw [h] at k2; cases k2; rfl)
      subst this
      have hme : Hld e1 σ i a := ⟨hh, i1⟩
      have hld : ∀ b, Held (e1.set i .un) σ b → Held e1 σ b ∧ b ≠ a := fun b ⟨j, x, y⟩ => by
        rw [get_set e1 i j _ hlt] at x
        by_cases hj : j = i
        · rw [if_pos hj] at x; cases x
        · rw [if_neg hj] at x
          exact ⟨⟨j, x, y⟩, fun e => hj (R1.one j i a ⟨x, e ▸ y⟩ hme)⟩
      have av : ∀ b, Avd (plus T1 a) (e1.set i .un) σ b → Avd T1 e1 σ b := fun b h => by
        rcases h with (h | rfl) | h
        · exact .inl h
        · exact .inr ⟨i, hme⟩
        · exact .inr (hld b h).1
      have R2 : Rel X.prog X.w X.K (plus T1 a) (e1.set i .un) σ H1 := by
        refine ⟨by rw [List.length_set]; exact R1.len, fun j => ?_, fun j k b x y => ?_, fun b x y => ?_, fun b x => ?_⟩
        · rw [get_set e1 i j _ hlt]
          by_cases hj : j = i
          · rw [if_pos hj]; trivial
          · rw [if_neg hj]
            have z := R1.ok j
            cases g : get e1 j with
            | un => exact trivial
            | fz d => rw [g] at z; obtain ⟨v, e1, r⟩ := z; exact ⟨v, e1, r.anti av⟩
            | ow d => rw [g] at z; obtain ⟨v, e1, r⟩ := z; exact ⟨v, e1, r.anti av⟩
            | lk d => rw [g] at z; obtain ⟨v, e1, r⟩ := z; exact ⟨v, e1, r.anti av⟩
            | rf d => rw [g] at z; obtain ⟨v, e1, r⟩ := z; exact ⟨v, e1, r.anti av⟩
        · obtain ⟨x1, x2⟩ := x
          obtain ⟨y1, y2⟩ := y
          rw [get_set e1 i j _ hlt] at x1
          rw [get_set e1 i k _ hlt] at y1
          by_cases hj : j = i
          · rw [if_pos hj] at x1; cases x1
          · by_cases hk : k = i
            · rw [if_pos hk] at y1; cases y1
            · rw [if_neg hj] at x1; rw [if_neg hk] at y1
              exact R1.one j k b ⟨x1, x2⟩ ⟨y1, y2⟩
        · obtain ⟨y1, y2⟩ := hld b y
          rcases x with x | x
          · exact R1.apart b x y1
          · exact y2 x
        · rcases x with x | rfl
          · exact R1.there b x
          · exact (R1.heldMut ⟨i, hme⟩).ne
      refine q (.ref a) σ H1 (plus T1 a) ⟨g1.frame, g1.there, fun j d h => ?_, fun b h => .inl (g1.sub b h), fun b h => ?_⟩ R2 ⟨a, rfl, .inr rfl, fun t => R1.apart a (g1.sub a t) ⟨i, hme⟩, ow.anti av⟩
      · rw [get_set e1 i j _ hlt] at h
        by_cases hj : j = i
        · rw [if_pos hj] at h; cases h
        · rw [if_neg hj] at h; exact g1.rfs j d h
      · rcases h with h | rfl
        · exact (g1.new b h).imp id .inl
        · exact .inr ((g1.held b ⟨i, hme⟩).elim .inr .inl)
    dsimp only at e
    cases hg : get e1 i with
    | un => rw [hg] at e; cases e
    | rf d => rw [hg] at e; cases e
    | ow d => rw [hg] at e; cases e; exact give d (.inl hg) rfl rfl
    | lk d => rw [hg] at e; cases e; exact give d (.inr hg) rfl rfl
    | fz d =>
      rw [hg] at e
      cases e
      have z := R1.ok i
      rw [hg] at z
      obtain ⟨u, k1, r⟩ := z
      rw [i1] at k1
      cases k1
      exact q _ σ H1 T1 g1.goR R1 r
theorem st_ret (he : EX X e f) : PS X (.Return (some e) pos) (xS X (sRet f)) := ps_imp (ps_ret he.pe) fun D σ H q => ret_ok q
theorem st_retN : PS X (.Return none pos) (xS X (sRet (eC .none))) := ps_imp ps_retN fun D σ H q => by
  obtain ⟨T, env, fl, env', R, e, q⟩ := q
  cases e
  exact q .non σ H T Go.refl.goR R .non
/-! ### stores -/
theorem asg_ok {tg : TgF} {D : Ends} {σ : L2.St} {H : Hp} (q : xS X (sAsg tg f) D σ H) : xF X f σ H fun x H1 => xG X any tg x σ H1 D.nx := by
  obtain ⟨T, env, fl, env', R, e, q⟩ := q
  obtain ⟨⟨r, e1⟩, h1, e⟩ := Option.bind_eq_some_iff.mp e
  obtain ⟨e2, h2, e⟩ := Option.map_eq_some_iff.mp e
  cases e
  exact ⟨T, env, r, e1, R, h1, fun v H1 T1 g1 R1 i1 => ⟨T, env, σ, H, T1, e1, r, _, g1, R1, i1, h2, fun σ' H' T' d' g' R' s' t' => q σ' H' g'.drop (R'.drop g')⟩⟩
def isTupOrList : Expr → Bool
  | .Tuple .. => true
  | .List .. => true
  | _ => false
def isComp : Expr → Bool
  | .ListComp .. => true
  | .SetComp .. => true
  | .DictComp .. => true
  | _ => false
theorem st_asg {t : Expr} {tg : TgF} (he : EX X e f) (hg : PG X t (xG X any tg)) (hc : isComp e = false ∨ ∀ x p, t ≠ .Name x p) (ht : isStar t = false) (hn : isTupOrList t = false ∨ isTup e = false) : PS X (.Assign [t] e pos) (xS X (sAsg tg f)) := by
  refine ps_imp (ps_asg he.pe hg ?_ ?_ ?_) fun D σ H q => asg_ok q
  · show swapsWith e (some t) pos.line X.env = pure false
    rcases hc with h | h
    · cases e <;> first | rfl | cases h
    · cases e <;> first | rfl | (cases t <;> first | rfl | exact absurd rfl (h _ _))
  · rcases hn with h | h
    · cases t <;> first | rfl | cases h
    · cases e <;> first | (cases h; done) | (cases t <;> rfl)
  · cases t <;> first | rfl | cases ht
theorem takeP_ok : ∀ {rs rs' : List Res} {vs : List V} {T0 T : Addr → Prop} {env env' : Mp.Env} {σ : L2.St} {H : Hp}, InFs X.prog X.w X.K T0 T env σ H rs vs → Rel X.prog X.w X.K T env σ H → takeP rs env = some (rs', env') →
    Sub env' env ∧ InFs X.prog X.w X.K T0 T env' σ H rs' vs ∧ rs'.all notPlc = true
  | [], _, _, _, _, _, _, _, _, h, R, e => by cases e; exact ⟨.refl, h, rfl⟩
  | r :: rs, rs', _, T0, T, env, env', σ, H, h, R, e => by
    obtain ⟨v, us, rfl, h1, h2⟩ := h
    have other : ∀ d e1, take env r = some (d, e1) → (∀ d', r ≠ .new d') → ∀ q, takeP rs e1 = some q → rs' = .val d :: q.1 → env' = q.2 → Sub env' env ∧ InFs X.prog X.w X.K T0 T env' σ H rs' (v :: us) ∧ rs'.all notPlc = true := fun d e1 k1 hn q k2 e2 e3 => by
      subst e2 e3
      have s1 := take_sub k1
      obtain ⟨R1, r1⟩ := take_ok h1 R k1
      have eT : Mp.less T r v = T := by cases r <;> first | rfl | exact absurd rfl (hn _)
      have eN : newOf T0 r v = T0 := by cases r <;> first | rfl | exact absurd rfl (hn _)
      rw [eT] at R1 r1
      rw [eN] at h2
      have h2' := InFs.less (r := .val .none) (v := v) (T0 := T0) h2 s1
      obtain ⟨s2, i2, n2⟩ := takeP_ok h2' R1 k2
      exact ⟨s2.trans s1, ⟨v, us, rfl, r1.anti fun a => s2.avd fun _ h => h, i2⟩, by rw [List.all_cons, n2]; rfl⟩
    cases r with
    | new d =>
      obtain ⟨q, k1, e⟩ := Option.bind_eq_some_iff.mp e
      cases e
      obtain ⟨s2, i2, n2⟩ := takeP_ok h2 R k1
      exact ⟨s2, ⟨v, us, rfl, h1.sub s2, i2⟩, by rw [List.all_cons, n2]; rfl⟩
    | val d =>
      obtain ⟨⟨d', e1⟩, k1, e⟩ := Option.bind_eq_some_iff.mp e
      obtain ⟨q, k2, e⟩ := Option.bind_eq_some_iff.mp e
      cases e
      exact other d' e1 k1 (fun _ h => nomatch h) q k2 rfl rfl
    | plc i =>
      obtain ⟨⟨d', e1⟩, k1, e⟩ := Option.bind_eq_some_iff.mp e
      obtain ⟨q, k2, e⟩ := Option.bind_eq_some_iff.mp e
      cases e
      exact other d' e1 k1 (fun _ h => nomatch h) q k2 rfl rfl
theorem par_ok {tgs : List TgF} {fs : List EvF} {D : Ends} {σ : L2.St} {H : Hp} (q : xS X (sPar tgs fs) D σ H) : xFs X fs σ H fun vs H1 => ∀ H2, (∀ b o, H1 b = some o → H2 b = some o) → vs.length = tgs.length ∧ xGs X any tgs vs σ H2 D.nx := by
  obtain ⟨T, env, fl, env', R, e, q⟩ := q
  obtain ⟨⟨rs, e1⟩, h1, e⟩ := Option.bind_eq_some_iff.mp e
  obtain ⟨⟨rs', e2⟩, h2, e⟩ := Option.bind_eq_some_iff.mp e
  obtain ⟨e3, h3, e⟩ := Option.map_eq_some_iff.mp e
  cases e
  refine ⟨T, env, rs, e1, R, h1, fun vs H1 T1 g1 R1 i1 => fun H2 hk => ?_⟩
  obtain ⟨s2, i2, n2⟩ := takeP_ok i1 R1 h2
  have R2 := R1.less s2 fun _ h => h
  have g2 : Go T env σ H T1 e2 σ H1 := g1.less s2 (fun _ h => h) g1.sub
  have gk : Go T1 e2 σ H1 T1 e2 σ H2 := Go.kept hk
  refine ⟨by rw [← i2.length, gAll_len h3], T, env, σ, H, T1, e2, rs', _, g2.trans gk, R2.kept hk, InFs.step i2 R2 gk, n2, h3, fun σ' H' T' d' g' R' s' t' => q σ' H' g'.drop (R'.drop g')⟩
end
end Mp

/-! Mp22: a, b = x, y; name op= e; while. -/
namespace Mp
open PySem PySem.Spec PyProof.Rows L2
def swName (env : PySem.Env) (line : Nat) : Expr → Option Str
  | .Name id pos => if env.kindOf id == some .local && pos.line == line then some id else none
  | _ => none
theorem sw_eq (ts vs : List Expr) (kt k2 : Nat) (pt p2 : Pos) (env : PySem.Env) : swappedStores [.Tuple ts kt pt] (.Tuple vs k2 p2) env =
    (if (!(ts.length == 2 || ts.length == 3) || vs.length != ts.length || env.blockKind != .function) = true then pure none
    else if (vs.any fun | .Starred .. => true | _ => false) = true then pure none
    else if ((ts.filterMap (swName env ((ts.head?.map (·.pos.line)).getD 0))).length != ts.length || (ts.filterMap (swName env ((ts.head?.map (·.pos.line)).getD 0))).eraseDups.length != (ts.filterMap (swName env ((ts.head?.map (·.pos.line)).getD 0))).length) = true then pure none
    else if vs.all (foldedForSure 8) = true then pure none
    else if vs.all (constantsAlone 8) = true then (do unsupported "assign.tuple-of-constant-expressions:order-of-the-stores"; return some (ts.filterMap (swName env ((ts.head?.map (·.pos.line)).getD 0))))
    else pure (some (ts.filterMap (swName env ((ts.head?.map (·.pos.line)).getD 0))))) := by
  rfl
theorem sw_cases {ts vs : List Expr} {kt k2 : Nat} {pt p2 : Pos} {env : PySem.Env} (h : vs.all (foldedForSure 8) = true ∨ vs.all (constantsAlone 8) = false) : swappedStores [.Tuple ts kt pt] (.Tuple vs k2 p2) env = pure none ∨
    ∃ line, swappedStores [.Tuple ts kt pt] (.Tuple vs k2 p2) env = pure (some (ts.filterMap (swName env line))) ∧ (ts.length = 2 ∨ ts.length = 3) ∧ vs.length = ts.length ∧ (ts.filterMap (swName env line)).length = ts.length ∧ (ts.filterMap (swName env line)).eraseDups.length = (ts.filterMap (swName env line)).length := by
  rw [sw_eq]
  split
  · exact .inl rfl
  rename_i h1
  split
  · exact .inl rfl
  split
  · exact .inl rfl
  rename_i h3
  split
  · exact .inl rfl
  rename_i h4
  split
  · rename_i h5
    rcases h with h | h
    · exact absurd h h4
    · rw [h] at h5; cases h5
  · refine .inr ⟨_, rfl, ?_, ?_, ?_, ?_⟩
    · simp only [Bool.or_eq_true, not_or, Bool.not_eq_true, Bool.not_eq_false', beq_iff_eq] at h1
      simpa using h1.1.1
    · simp only [Bool.or_eq_true, not_or, bne_iff_ne, ne_eq, Decidable.not_not] at h1
      exact h1.1.2
    · simp only [Bool.or_eq_true, not_or, bne_iff_ne, ne_eq, Decidable.not_not] at h3
      exact h3.1
    · simp only [Bool.or_eq_true, not_or, bne_iff_ne, ne_eq, Decidable.not_not] at h3
      exact h3.2
theorem beq_no {a b : Str} (e : ¬ a = b) : (a == b) = false := by
  cases h : a == b with
  | false => rfl
  | true => exact absurd (eq_of_beq h) e
theorem dups2 {x y : Str} (h : [x, y].eraseDups.length = 2) : x ≠ y := by
  rintro rfl
  rw [List.eraseDups_cons] at h
  simp at h
theorem dups3 {x y z : Str} (h : [x, y, z].eraseDups.length = 3) : x ≠ y ∧ x ≠ z ∧ y ≠ z := by
  refine ⟨?_, ?_, ?_⟩
  · rintro rfl
    rw [List.eraseDups_cons] at h
    by_cases e : z = x
    · subst e; simp at h
    · have e' := beq_no e
      simp [List.filter, e', List.eraseDups_cons] at h
  · rintro rfl
    rw [List.eraseDups_cons] at h
    by_cases e : y = x
    · subst e; simp at h
    · have e' := beq_no e
      simp [List.filter, e', List.eraseDups_cons] at h
  · rintro rfl
    rw [List.eraseDups_cons] at h
    by_cases e : y = x
    · subst e; simp at h
    · have e' := beq_no e
      simp [List.filter, e', List.eraseDups_cons] at h
theorem swName_some {env : PySem.Env} {line : Nat} {t : Expr} {x : Str} (h : swName env line t = some x) : ∃ p, t = .Name x p ∧ env.kindOf x = some .local := by
  cases t <;> simp only [swName] at h <;> try cases h
  split at h
  · rename_i c
    cases h
    exact ⟨_, rfl, by simpa using (Bool.and_eq_true_iff.mp c).1⟩
  · cases h
theorem tFs_mono {X : Cx} {fs : List EvF} {σ : L2.St} {H : Hp} {Q Q' : List V → Hp → Prop} (h : xFs X fs σ H Q) (i : ∀ vs H', Q vs H' → Q' vs H') : xFs X fs σ H Q' := by
  obtain ⟨T, env, rs, env', R, e, q⟩ := h
  exact ⟨T, env, rs, env', R, e, fun vs H' T' g R' j => i _ _ (q vs H' T' g R' j)⟩
/-- a target that is a name -/
def NmOk (X : Cx) (t : Expr) (g : TgF) : Prop := ∀ x p, t = .Name x p → (∃ i, g = gNm i ∧ X.N[i]? = some x) ∨ g = fun _ _ => none
section
variable {X : Cx} {ts es : List Expr} {tgs : List TgF} {fs : List EvF} {pos pt p2 : Pos} {kt k2 : Nat}
theorem gF_none {v : V} {σ : L2.St} {H : Hp} {Q : L2.St → Hp → Prop} (h : xG X any (fun _ _ => none) v σ H Q) : False := by
  obtain ⟨_, _, _, _, _, _, _, _, _, _, _, e, _⟩ := h
  cases e
theorem st_par (hc : X.calm = true) (hN : X.N.Nodup) (hg : GXs X any ts tgs) (hnm : Paired (NmOk X) ts tgs) (he : EXs X es fs) (hts : (ts.all fun e => !isStar e) = true) (hsz : ts.length ≤ 16)
    (hf : es.all (foldedForSure 8) = true ∨ es.all (constantsAlone 8) = false) : PS X (.Assign [.Tuple ts kt pt] (.Tuple es k2 p2) pos) (xS X (sPar tgs fs)) := by
  have hs : swapsWithSole [.Tuple ts kt pt] (.Tuple es k2 p2) pos.line X.env = pure false := rfl
  rcases sw_cases (ts := ts) (vs := es) (kt := kt) (k2 := k2) (pt := pt) (p2 := p2) (env := X.env) hf with hw | ⟨line, hw, h2, hl, hn, hd⟩
  · refine ps_imp (ps_asg (pe_tup he.pa) (pg_tup (n := ts.length) hc hg.pg (each_plain hts).2 (each_plain hts).1) hs hw rfl) fun D σ H q => ?_
    refine tFs_mono (par_ok q) fun vs H1 k => ?_
    have hle : ∀ H2, (∀ b o, H1 b = some o → H2 b = some o) → vs.length = tgs.length ∧ xGs X any tgs vs σ H2 D.nx := k
    have hlen := (hle H1 fun _ _ h => h).1
    have hts' : vs.length = ts.length := by rw [hlen, hg.len]
    refine ⟨by rw [hts', sizeLine_eq]; omega, fun p n => ⟨p, vs, rfl, .inl (.inl upd_same), hts', (hle _ (new_keep n)).2⟩⟩
  · rcases h2 with h2 | h2
    · match ts, es, hnm, h2, hl with
      | [t1, t2], [a, b], .cons n1 (.cons n2 .nil), _, _ =>
        rename_i g1 g2
        obtain ⟨x, h1⟩ : ∃ x, swName X.env line t1 = some x := by
          cases h : swName X.env line t1 with
          | some x => exact ⟨x, rfl⟩
          | none => cases h' : swName X.env line t2 <;> simp [List.filterMap, h, h'] at hn
        obtain ⟨y, h2⟩ : ∃ x, swName X.env line t2 = some x := by
          cases h : swName X.env line t2 with
          | some x => exact ⟨x, rfl⟩
          | none => simp [List.filterMap, h1, h] at hn
        obtain ⟨px, rfl, kx⟩ := swName_some h1
        obtain ⟨py, rfl, ky⟩ := swName_some h2
        have hfm : [Expr.Name x px, .Name y py].filterMap (swName X.env line) = [x, y] := by simp [List.filterMap, h1, h2]
        rw [hfm] at hw hd
        have hxy := dups2 hd
        rcases n1 x px rfl with ⟨i, rfl, hi⟩ | rfl
        · rcases n2 y py rfl with ⟨j, rfl, hj⟩ | rfl
          · have hij : i ≠ j := fun e => by subst e; rw [hi] at hj; cases hj; exact hxy rfl
            refine ps_imp (ps_par hc hN hi hj hij kx ky he.pa hw hs) fun D σ H q => tFs_mono (par_ok q) fun vs H1 k => ?_
            obtain ⟨_, k2⟩ := k H1 fun _ _ h => h
            obtain ⟨v, us, rfl, k3⟩ := gFs_cons k2
            obtain ⟨w', us2, rfl, k4⟩ := gFs_cons (gNm_ok trivial k3)
            obtain ⟨rfl, k5⟩ := gFs_nil (gNm_ok trivial k4)
            exact ⟨v, w', rfl, k5⟩
          · exact ⟨fun pins s σ H D I q => False.elim (by
              obtain ⟨T, env, fl, env', R, e, q⟩ := q
              obtain ⟨⟨rs, e1⟩, h1, e⟩ := Option.bind_eq_some_iff.mp e
              obtain ⟨⟨rs', e2⟩, h2, e⟩ := Option.bind_eq_some_iff.mp e
              obtain ⟨e3, h3, e⟩ := Option.map_eq_some_iff.mp e
              cases rs' with
              | nil => cases h3
              | cons r1 rs' =>
                obtain ⟨e4, h4, h3⟩ := Option.bind_eq_some_iff.mp h3
                cases rs' with
                | nil => cases h3
                | cons r2 rs' => cases h3)⟩
        · exact ⟨fun pins s σ H D I q => False.elim (by
            obtain ⟨T, env, fl, env', R, e, q⟩ := q
            obtain ⟨⟨rs, e1⟩, h1, e⟩ := Option.bind_eq_some_iff.mp e
            obtain ⟨⟨rs', e2⟩, h2, e⟩ := Option.bind_eq_some_iff.mp e
            obtain ⟨e3, h3, e⟩ := Option.map_eq_some_iff.mp e
            cases rs' with
            | nil => cases h3
            | cons r1 rs' => cases h3)⟩
    · match ts, es, hnm, h2, hl with
      | [t1, t2, t3], [a, b, c], .cons n1 (.cons n2 (.cons n3 .nil)), _, _ =>
        rename_i g1 g2 g3
        obtain ⟨x, h1⟩ : ∃ x, swName X.env line t1 = some x := by
          cases h : swName X.env line t1 with
          | some x => exact ⟨x, rfl⟩
          | none => cases h' : swName X.env line t2 <;> cases h'' : swName X.env line t3 <;> simp [List.filterMap, h, h', h''] at hn
        obtain ⟨y, h2⟩ : ∃ x, swName X.env line t2 = some x := by
          cases h : swName X.env line t2 with
          | some x => exact ⟨x, rfl⟩
          | none => cases h' : swName X.env line t3 <;> simp [List.filterMap, h1, h, h'] at hn
        obtain ⟨z, h3⟩ : ∃ x, swName X.env line t3 = some x := by
          cases h : swName X.env line t3 with
          | some x => exact ⟨x, rfl⟩
          | none => simp [List.filterMap, h1, h2, h] at hn
        obtain ⟨px, rfl, kx⟩ := swName_some h1
        obtain ⟨py, rfl, ky⟩ := swName_some h2
        obtain ⟨pz, rfl, kz⟩ := swName_some h3
        have hfm : [Expr.Name x px, .Name y py, .Name z pz].filterMap (swName X.env line) = [x, y, z] := by simp [List.filterMap, h1, h2, h3]
        rw [hfm] at hw hd
        obtain ⟨hxy, hxz, hyz⟩ := dups3 hd
        have bad : ∀ {g1' g2' g3' : TgF}, (g1' = (fun _ _ => none) ∨ g2' = (fun _ _ => none) ∨ g3' = fun _ _ => none) → ∀ rs env q, gAll [g1', g2', g3'] rs env = some q → False := fun h rs env q e => by
          cases rs with
          | nil => cases e
          | cons r1 rs =>
            obtain ⟨e4, h4, e⟩ := Option.bind_eq_some_iff.mp e
            cases rs with
            | nil => cases e
            | cons r2 rs =>
              obtain ⟨e5, h5, e⟩ := Option.bind_eq_some_iff.mp e
              cases rs with
              | nil => cases e
              | cons r3 rs =>
                obtain ⟨e6, h6, e⟩ := Option.bind_eq_some_iff.mp e
                rcases h with rfl | rfl | rfl
                · cases h4
                · cases h5
                · cases h6
        have no : ∀ {g1' g2' g3' : TgF} {D : Ends} {σ : L2.St} {H : Hp}, (g1' = (fun _ _ => none) ∨ g2' = (fun _ _ => none) ∨ g3' = fun _ _ => none) → xS X (sPar [g1', g2', g3'] fs) D σ H → False := fun h q => by
          obtain ⟨T, env, fl, env', R, e, q⟩ := q
          obtain ⟨⟨rs, e1⟩, h1, e⟩ := Option.bind_eq_some_iff.mp e
          obtain ⟨⟨rs', e2⟩, h2, e⟩ := Option.bind_eq_some_iff.mp e
          obtain ⟨e3, h3, e⟩ := Option.map_eq_some_iff.mp e
          exact bad h _ _ _ h3
        rcases n1 x px rfl with ⟨i, rfl, hi⟩ | rfl
        · rcases n2 y py rfl with ⟨j, rfl, hj⟩ | rfl
          · rcases n3 z pz rfl with ⟨l, rfl, hl'⟩ | rfl
            · have hij : i ≠ j := fun e => by subst e; rw [hi] at hj; cases hj; exact hxy rfl
              have hil : i ≠ l := fun e => by subst e; rw [hi] at hl'; cases hl'; exact hxz rfl
              have hjl : j ≠ l := fun e => by subst e; rw [hj] at hl'; cases hl'; exact hyz rfl
              refine ps_imp (ps_par3 hc hN hi hj hl' hij hil hjl kx ky kz he.pa hw hs) fun D σ H q => tFs_mono (par_ok q) fun vs H1 k => ?_
              obtain ⟨_, k2⟩ := k H1 fun _ _ h => h
              obtain ⟨v, us, rfl, k3⟩ := gFs_cons k2
              obtain ⟨w', us2, rfl, k4⟩ := gFs_cons (gNm_ok trivial k3)
              obtain ⟨w2, us3, rfl, k5⟩ := gFs_cons (gNm_ok trivial k4)
              obtain ⟨rfl, k6⟩ := gFs_nil (gNm_ok trivial k5)
              exact ⟨v, w', w2, rfl, k6⟩
            · exact ⟨fun pins s σ H D I q => (no (.inr (.inr rfl)) q).elim⟩
          · exact ⟨fun pins s σ H D I q => (no (.inr (.inl rfl)) q).elim⟩
        · exact ⟨fun pins s σ H D I q => (no (.inl rfl) q).elim⟩
end
end Mp

/-! Mp23: name op= e; while; what is walked. -/
namespace Mp
open PySem PySem.Spec PyProof.Rows L2
section
variable {X : Cx} {e : Expr} {f : EvF} {k : StF} {pos : Pos}
theorem intOf_eq {d : D} {x : Int} (h : intOf d = some x) : d = .int x := by
  cases d <;> first | (cases h; done) | (cases h; rfl)
theorem intAt_eq {s : Slot} {x : Int} (h : intAt s = some x) : s = .fz (.int x) := by
  cases s with
  | fz d => rw [intOf_eq (d := d) h]
  | _ => cases h
theorem aug_ok {op : Operator} {F : Int → Int → Int} (h : augF op = some F) : PIp X op (ipI F) := by
  cases op with
  | Add => cases h; exact ip_add
  | Sub => cases h; exact ip_sub
  | _ => cases h
theorem st_aug {i : Nat} {x : Str} {op : Operator} {p : Pos} (hN : X.N.Nodup) (hi : X.N[i]? = some x) (hx : Loc X.env.scope x) (hf : X.fn x = true ∨ X.env.scope.names.lookup x = some .local) (he : EX X e f) : PS X (.AugAssign (.Name x p) op e pos) (xS X (sAug i op f)) := by
  cases hF : augF op with
  | none =>
    refine ⟨fun pins s σ H D I q => False.elim ?_⟩
    obtain ⟨T, env, fl, env', R, e, q⟩ := q
    obtain ⟨F, h0, e⟩ := Option.bind_eq_some_iff.mp e
    rw [hF] at h0
    cases h0
  | some F =>
    refine ps_imp (ps_aug hN hi hx he.pe (aug_ok hF) hf) fun D σ H q => ?_
    obtain ⟨T, env, fl, env', R, e, q⟩ := q
    obtain ⟨F', h0, e⟩ := Option.bind_eq_some_iff.mp e
    rw [hF] at h0
    cases h0
    obtain ⟨x0, h4, e⟩ := Option.bind_eq_some_iff.mp e
    obtain ⟨⟨d2, e1⟩, h1, e⟩ := Option.bind_eq_some_iff.mp e
    obtain ⟨y0, h5, e⟩ := Option.map_eq_some_iff.mp e
    cases e
    unfold eUse at h1
    obtain ⟨⟨r, e2⟩, h2, h1⟩ := Option.bind_eq_some_iff.mp h1
    obtain ⟨d3, h3, h1⟩ := Option.map_eq_some_iff.mp h1
    cases h1
    have hg := intAt_eq h4
    have hd := intOf_eq h5
    dsimp only at hd
    subst hd
    have z := R.ok i
    rw [hg] at z
    obtain ⟨v0, k1, r0⟩ := z
    cases r0
    refine ⟨.int x0, Option.join_eq_some_iff.mp k1, T, env, r, _, R, h2, fun v H1 T1 g1 R1 i1 => ?_⟩
    have uv := (i1.use R1 h3).int
    subst uv
    refine ⟨x0, y0, rfl, rfl, ?_⟩
    have ft : Fits X.prog X.w X.K T1 T1 e2 σ H1 (.fz (.int (F x0 y0))) (.int (F x0 y0)) := ⟨fun _ h => h, fun h => (nomatch h), ⟨fun _ h => (nomatch h), fun _ h => (nomatch h)⟩, _, rfl, .int _⟩
    have g2 := g1.store (i := i) R1 ft g1.sub
    exact q _ H1 g2.drop ((R1.store (i := i) ft).drop g2)
/-! ### while -/
theorem st_while {c : Expr} {body : List Stmt} {F : Nat} (hp : PassesOwn (model X.prog X.w) X.A X.env X.xe) (hc : EX X c f) (hb : PSs X body (xS X k)) : PS X (.While c body [] pos) (xS X (sWhile F f k)) := by
  refine ps_imp (ps_while hp hc.pt hb) fun D σ H q => ?_
  obtain ⟨T, env, fl, env', R, e, q⟩ := q
  refine ⟨fun m σ H => ∃ T env fl env', Rel X.prog X.w X.K T env σ H ∧ whGo f k m env = some (fl, env') ∧ SEnd X.prog X.w X.K D T env σ H env' fl, ⟨F, T, env, fl, env', R, e, q⟩, fun m σ H W => ?_⟩
  clear q e R
  obtain ⟨T, env, fl, env', R, e, q⟩ := W
  cases m with
  | zero => cases e
  | succ m =>
    unfold whGo at e
    obtain ⟨⟨b, e1⟩, h1, e⟩ := Option.bind_eq_some_iff.mp e
    refine ⟨T, env, b, e1, R, h1, fun H1 g1 R1 => ?_⟩
    cases b with
    | false =>
      rw [if_neg (by decide)]
      rw [if_neg (show ¬ ((false : Bool) = true) from fun z => nomatch z)] at e
      cases e
      exact q σ H1 g1 R1
    | true =>
      rw [if_pos rfl]
      rw [if_pos (show (true : Bool) = true from rfl)] at e
      obtain ⟨⟨fl1, e2⟩, h2, e⟩ := Option.bind_eq_some_iff.mp e
      refine ⟨_, fun σ' H' z => ⟨m, Nat.lt_succ_self m, z⟩, T, e1, fl1, e2, R1, h2, ?_⟩
      cases fl1 with
      | nx => exact fun σ2 H2 g2 R2 => ⟨T, e2, fl, env', R2, e, q.pre (g1.trans g2)⟩
      | ct => exact fun σ2 H2 g2 R2 => ⟨T, e2, fl, env', R2, e, q.pre (g1.trans g2)⟩
      | bk => cases e; exact fun σ2 H2 g2 R2 => q σ2 H2 (g1.trans g2) R2
      | rt b d => cases e; exact q.pre g1
end
end Mp

/-! Mp24: walks of dicts, enumerate, zip over lists and tuples in any mix. -/
namespace Mp
open PySem PySem.Spec PyProof.Rows L2
/-! ### a list or a tuple: k tells which -/
def SqK (k : Bool) (K : PySem.W.Frag) (H : Hp) (a : Addr) (xs : List V) : Prop := match k with
  | true => SqL K H a xs
  | false => SqT K H a xs
def BSeq (k : Bool) (h : Heap) (a : Addr) (its : List Value) : Prop := match k with
  | true => h.IsList a its.toArray
  | false => h.IsTuple a its.toArray
def BIt (k : Bool) (h : Heap) (it a : Addr) (i : Nat) : Prop := match k with
  | true => h.IsListIter it a i
  | false => h.IsTupleIter it a i
def itObj (k : Bool) (a : Addr) : Obj := match k with
  | true => { cls := .type "list_iterator", data := .fields #[.ref a, .int 0 0] }
  | false => { cls := .type "tuple_iterator", data := .fields #[.ref a, .int 0 0] }
theorem bit_obj {k : Bool} {h : Heap} {it a : Addr} {i : Nat} (b : BIt k h it a i) : ∃ o, h.get? it = some o ∧ o.data = .fields #[.ref a, .int i 0] ∧ (o.cls = .type "list_iterator" ∨ o.cls = .type "tuple_iterator") := by
  cases k with
  | true => obtain ⟨o, e, c, d⟩ := (show h.IsListIter it a i from b); exact ⟨o, e, d, .inl c⟩
  | false => obtain ⟨o, e, c, d⟩ := (show h.IsTupleIter it a i from b); exact ⟨o, e, d, .inr c⟩
theorem bseq_obj {k : Bool} {h : Heap} {a : Addr} {its : List Value} (b : BSeq k h a its) : ∃ o, h.get? a = some o ∧ (o.cls = .type "list" ∨ o.cls = .type "tuple") := by
  cases k with
  | true => obtain ⟨o, e, c, d⟩ := (show h.IsList a its.toArray from b); exact ⟨o, e, .inl c⟩
  | false => obtain ⟨o, e, c, d⟩ := (show h.IsTuple a its.toArray from b); exact ⟨o, e, .inr c⟩
theorem bit_at {k : Bool} {h h' : Heap} {it a : Addr} {i : Nat} (b : BIt k h it a i) (e : ∀ o, h.get? it = some o → h'.get? it = some o) : BIt k h' it a i := by
  cases k with
  | true => obtain ⟨o, x, r⟩ := (show h.IsListIter it a i from b); exact ⟨o, e o x, r⟩
  | false => obtain ⟨o, x, r⟩ := (show h.IsTupleIter it a i from b); exact ⟨o, e o x, r⟩
theorem bseq_at {k : Bool} {h h' : Heap} {a : Addr} {its : List Value} (b : BSeq k h a its) (e : ∀ o, h.get? a = some o → h'.get? a = some o) : BSeq k h' a its := by
  cases k with
  | true => obtain ⟨o, x, r⟩ := (show h.IsList a its.toArray from b); exact ⟨o, e o x, r⟩
  | false => obtain ⟨o, x, r⟩ := (show h.IsTuple a its.toArray from b); exact ⟨o, e o x, r⟩
theorem bdraws {prog : Program} {w : World} {A : Around} (hh : A.handled = none) {k : Bool} {it a : Addr} (hne : a ≠ it) (its : List Value) :
    Draws prog w A it [it, a] its.length (fun i v => its[i]? = some v) (fun i h => BIt k h it a i ∧ BSeq k h a its) := by
  have hp : (fun (i : Nat) (v : Value) => its.toArray[i]? = some v) = fun i v => its[i]? = some v := by
    funext i v
    rw [List.getElem?_toArray]
  cases k with
  | true =>
    have d := Draws.list (prog := prog) (w := w) hh it a hne its.toArray
    rw [List.size_toArray, hp] at d
    exact d
  | false =>
    have d := Draws.tuple (prog := prog) (w := w) hh it a hne its.toArray
    rw [List.size_toArray, hp] at d
    exact d
theorem bbegins (k : Bool) (a : Addr) (its : List Value) : Begins (.ref a) (itObj k a) fun h => BSeq k h a its := by
  cases k with
  | true => exact begins_list a its.toArray
  | false => exact begins_tuple a its.toArray
theorem bit_new {k : Bool} {h : Heap} {it a : Addr} (e : h.get? it = some (itObj k a)) : BIt k h it a 0 := by
  cases k with
  | true => exact ⟨_, e, rfl, rfl⟩
  | false => exact ⟨_, e, rfl, rfl⟩
section
variable {X : Cx} {pins : List (Addr × Obj)} {σ : L2.St} {H : Hp} {s : Shared}
theorem sqk_view (I : Inv X pins σ H s) {k : Bool} {a : Addr} {xs : List V} (h : SqK k X.K H a xs) : ∃ its, Vals xs its ∧ BSeq k s.heap a its := by
  cases k with
  | true => obtain ⟨its, r, p, _⟩ := I.list (show SqL X.K H a xs from h); exact ⟨its, r, p.isList⟩
  | false => obtain ⟨its, r, p, _⟩ := I.tuple (show SqT X.K H a xs from h); exact ⟨its, r, p⟩
theorem sqk_inj (I : Inv X pins σ H s) {k : Bool} {a : Addr} {xs ys : List V} (h : SqK k X.K H a xs) (h' : SqK k X.K H a ys) : xs = ys := by
  cases k with
  | true => exact I.list_inj h h'
  | false => exact I.tuple_inj h h'
end
/-! ### enumerate -/
theorem meets_enum1 {v : Value} {o : Obj} {H : Heap → Prop} (B : Begins v o H) :
    Meets (Builtin.«enumerate.__new__» ⟨[.type "enumerate", v], []⟩) (fun _ R s => H s.heap ∧
      R (.ok (.ret (.ref (s.heap.push o).objs.size))) { s with heap := (s.heap.push o).push { cls := .type "enumerate", data := .fields #[.none, .bool false, .ref s.heap.objs.size, rawInt 0, .none, .none] } }) :=
  .of_wp fun prog w A R s h => by
    obtain ⟨hp, g, d, tk, os⟩ := s; obtain ⟨h1, h⟩ := h
    have hsub := sub_enumerate
    have q1 : ∀ {A' : Around} {E : Value → Shared → Prop} {Q : Value → Shared → Prop}, Q (.ref hp.objs.size) ⟨hp.push o, g, d, tk, os⟩ → wpAny (model prog w) A' (pyIter v) Q E ⟨hp, g, d, tk, os⟩ :=
      fun q => B.iter prog w _ _ ⟨hp, g, d, tk, os⟩ _ h1 q
    wp_walk using q1
    refine wpAny_stack_any fun st => wpAny_pure ?_
    split
    · rename_i c _ _ _ _ _
      cases (c == Value.type "enumerate")
      · wp_walk using q1
        exact ⟨_, rfl, h⟩
      · wp_walk using q1
        exact ⟨_, rfl, h⟩
    · wp_walk using q1
      exact ⟨_, rfl, h⟩
theorem enum1_begins {prog : Program} {w : World} {A : Around} {E : Value → Shared → Prop} {s : Shared} {v : Value} {o : Obj} {H : Heap → Prop} {Q : Value → Shared → Prop} (B : Begins v o H) (h1 : H s.heap)
    (h : ∀ h', IsEnum h' (s.heap.objs.size + 1) s.heap.objs.size 0 .none → h'.get? s.heap.objs.size = some o → h'.objs.size = s.heap.objs.size + 2 →
      (∀ b o, s.heap.get? b = some o → h'.get? b = some o) → Q (.ref (s.heap.objs.size + 1)) { s with heap := h' }) :
    wpAny (model prog w) A (call (.type "enumerate") [v]) Q E s := by
  refine callType_new F.called_enumerate (by decide) (F.typeCall_enumerate_1 _) (F.newCall_enumerate_1 _) (fun obj => F.args_object_init_2 obj _) F.entry_enumerate_new
    (meets_enum1 B) ⟨h1, ?_⟩
  have hz : (s.heap.push o).objs.size = s.heap.objs.size + 1 := Heap.size_push ..
  show _ ∧ _
  rw [hz]
  have he : IsEnum ((s.heap.push o).push { cls := .type "enumerate", data := .fields #[.none, .bool false, .ref s.heap.objs.size, rawInt 0, .none, .none] }) (s.heap.objs.size + 1) s.heap.objs.size 0 .none := by
    have := Heap.get?_push_size (s.heap.push o) (o := { cls := .type "enumerate", data := .fields #[.none, .bool false, .ref s.heap.objs.size, rawInt 0, .none, .none] }) rfl
    rw [hz] at this; exact this
  refine ⟨⟨_, he, rfl⟩, h _ he (Heap.get?_push_of_some _ (Heap.get?_push_size _ B.free)) (by rw [Heap.size_push, hz]) fun b o x => Heap.get?_push_of_some _ (Heap.get?_push_of_some _ x)⟩
def ItE (k : Bool) (K : PySem.W.Frag) (a : Addr) : It :=
  ⟨fun i H => ∃ (xs : List V) (x : V), SqK k K H a xs ∧ xs[i]? = some x, fun i H v H' => ∃ T x, v = .ref T ∧ H T = none ∧ H' = upd H T (.tup [.int (i : Nat), x]) ∧ ∀ xs, SqK k K H a xs → xs[i]? = some x, fun i H => ∃ xs : List V, SqK k K H a xs ∧ xs.length = i⟩
theorem ne_cls {h : Heap} {a b : Addr} {o u : Obj} (e1 : h.get? a = some o) (e2 : h.get? b = some u) (n : o.cls ≠ u.cls) : a ≠ b := fun e => by
  subst e
  rw [e1] at e2
  cases e2
  exact n rfl
theorem turn_enumK {P : Program} {w : World} {K : PySem.W.Frag} {elts : List Expr} {kk : Nat} {tpos : Pos} (k : Bool) (a e it : Addr) :
    Turn P w K (.Tuple elts kk tpos) (ItE k K a) [e, it] e (fun i h => (∃ old, IsEnum h e it ((i : Nat) : Int) old) ∧ BIt k h it a i ∧ e ≠ it) where
  mem := by simp
  obj := fun i h st b hb => by
    obtain ⟨⟨old, he⟩, hit, _⟩ := st
    obtain ⟨o, ho, hd, _⟩ := bit_obj hit
    have e' : b = e ∨ b = it := by simpa using hb
    rcases e' with z | z
    · rw [z]; exact ⟨_, he, fun v q => nomatch q⟩
    · rw [z]; exact ⟨o, ho, fun v q => by rw [hd] at q; cases q⟩
  keep := fun i h h' st kp => let ⟨⟨old, he⟩, hi, hne⟩ := st; ⟨⟨old, kp e (by simp) _ he⟩, bit_at hi fun o q => kp it (by simp) o q, hne⟩
  item := by
    intro X hP hw hK hc i pins s σ H E I hf st hg
    subst hP hw hK
    obtain ⟨⟨old, he⟩, hit, hne⟩ := st
    obtain ⟨xs, x, hq, hx⟩ := hg
    obtain ⟨its, rv, p⟩ := sqk_view I hq
    obtain ⟨u0, hu0, ru0⟩ := rv.get hx
    obtain ⟨oa, ea, ca⟩ := bseq_obj p
    obtain ⟨oi, ei, di, ci⟩ := bit_obj hit
    have hea : e ≠ a := ne_cls he ea (by rcases ca with z | z <;> (rw [z]; show Value.type "enumerate" ≠ _; decide))
    have hai : a ≠ it := ne_cls ea ei (by rcases ca with z | z <;> rcases ci with y | y <;> (rw [z, y]; decide))
    have hel : e < s.heap.objs.size := Heap.lt_size he
    have hil : it < s.heap.objs.size := Heap.lt_size ei
    have hlt : i < its.length := (List.getElem?_eq_some_iff.mp hu0).1
    refine wpAny_pyNext_enum_itemD (bdraws (A := X.A.in1) (k := k) (I.ok.hd hc) hai its) he ⟨hit, p⟩ hlt hne (by simp [hne, hea]) fun u h' tk hu ho hst hT hsz hk => ?_
    have hu' : its[i]? = some u := hu
    rw [hu0] at hu'
    cases hu'
    refine ⟨_, rfl, wpAny_letOwnedTupleGo_enum (s := { s with heap := h', toks := tk + 1 }) ho fun h'' he' sb => ?_⟩
    have hT2 : h''.get? s.heap.objs.size = some { cls := .type "tuple", data := .seq #[.int i tk, u0] } := (sb.2 _ (Nat.ne_of_gt hel)).trans hT
    have new : ObjOk X.prog X.w (upd H s.heap.objs.size (.tup [.int (i : Nat), x])) h'' s.heap.objs.size (.tup [.int (i : Nat), x]) :=
      ⟨by show 2 ≤ sizeLine; decide, [.int i tk, u0], .cons ⟨_, rfl⟩ (.cons ru0 .nil), ⟨_, hT2, rfl, _, rfl⟩⟩
    have I1 : Inv X pins σ (upd H s.heap.objs.size (.tup [.int (i : Nat), x])) { s with heap := h'', toks := tk + 1 } :=
      I.turnedNew (ch := [e, it]) (fun b ob hb q => (sb.2 b (fun z => hb (by simp [z]))).trans (hk b ob (fun z => hb (by simp [z])) (fun z => hb (by simp [z])) q)) hf (Nat.le_refl _) new
    refine ⟨.ref s.heap.objs.size, _, I1, rfl, ⟨_, x, rfl, I.hok.fresh (Nat.le_refl _), rfl, fun ys hy => by rw [sqk_inj I hy hq]; exact hx⟩, ⟨⟨u0, ?_⟩, bit_at hst.1 fun o q => (sb.2 it (Ne.symm hne)).trans q, hne⟩, fun b hb => ?_⟩
    · have e1 : ((i + 1 : Nat) : Int) = (i : Int) + 1 := by omega
      rw [e1]; exact he'
    · have hb' : b < s.heap.objs.size := by
        have e' : b = e ∨ b = it := by simpa using hb
        rcases e' with z | z
        · rw [z]; exact hel
        · rw [z]; exact hil
      rw [upd_ne (Nat.ne_of_lt hb')]
      exact (hf b hb).1
  done := by
    intro X hP hw hK hc i pins s σ H E I hf st hg
    subst hP hw hK
    obtain ⟨⟨old, he⟩, hit, hne⟩ := st
    obtain ⟨xs, hq, hx⟩ := hg
    obtain ⟨its, rv, p⟩ := sqk_view I hq
    obtain ⟨oa, ea, ca⟩ := bseq_obj p
    obtain ⟨oi, ei, di, ci⟩ := bit_obj hit
    have hai : a ≠ it := ne_cls ea ei (by rcases ca with z | z <;> rcases ci with y | y <;> (rw [z, y]; decide))
    obtain ⟨f0, f1, f2, f3, f4, f5⟩ := hf it (by simp)
    have hl := rv.length
    have hi : i = its.length := by omega
    subst hi
    exact wpAny_pyNext_enum_endD (bdraws (A := X.A.in1) (k := k) (I.ok.hd hc) hai its) he ⟨hit, p⟩ fun h' eb => ⟨rfl, I.turned (t' := s.toks) (fun b o hb q => eb b o hb q) f0 f1 f3 f4 f5⟩
  self := fun A i s Q E st h => let ⟨⟨_, he⟩, _⟩ := st; wpAny_pyIter_enum he h
def iEnumK (K : PySem.W.Frag) (ta : TA) : TI := fun σ H R => ta σ H fun vs H1 => ∃ k a xs, vs = [.ref a] ∧ SqK k K H1 a xs ∧ R (ItE k K a) H1
theorem pi_enumK {X : Cx} {e : Expr} {ta : TA} {p pos tpos : Pos} {elts : List Expr} {kk : Nat} (hg : Gl X "enumerate") (hm : X.mg "enumerate" = none) (hA : PA X [e] ta) (hst : isStar e = false) :
    PI X (.Tuple elts kk tpos) (.Call (.Name "enumerate" p) [e] [] pos) (iEnumK X.K ta) := by
  refine ⟨fun pins s σ H R I h => ?_⟩
  refine Call_ (ld_blt I hg hm boot_enumerate (PyProof.Rows.callWith_type1 (thn (hA.run pos pins s σ H _ I h) fun us s1 ⟨vs, H1, I1, r1, q1⟩ => ?_) (star_ok e [] X.env hst) rfl))
  obtain ⟨k, a, xs, ex, hq, q⟩ := q1
  subst ex
  cases r1 with
  | cons r rr =>
    cases rr
    cases r
    obtain ⟨its, rv, p'⟩ := sqk_view I1 hq
    refine enum1_begins (bbegins k a its) p' fun h' he hit hsz hk => wpAny_pyIter_enum he ?_
    have I2 : Inv X pins σ H1 { s1 with heap := h' } := I1.kept (t' := s1.toks) hk
    refine ⟨s1.heap.objs.size + 1, [s1.heap.objs.size + 1, s1.heap.objs.size], _, _, H1, rfl, I2, turn_enumK k a (s1.heap.objs.size + 1) s1.heap.objs.size, ⟨⟨.none, he⟩, bit_new hit, Nat.succ_ne_self _⟩, fun b hb => ?_, q⟩
    have e' : b = s1.heap.objs.size + 1 ∨ b = s1.heap.objs.size := by simpa using hb
    have hle : s1.heap.objs.size ≤ b := by
      rcases e' with z | z
      · rw [z]; exact Nat.le_add_right _ _
      · rw [z]; exact Nat.le_refl _
    exact I1.fpOk hle (I1.hok.fresh hle)
/-! ### zip -/
def ItZ (k1 k2 : Bool) (K : PySem.W.Frag) (a b : Addr) : It :=
  ⟨fun i H => ∃ (xs ys : List V) (x y : V), SqK k1 K H a xs ∧ SqK k2 K H b ys ∧ xs[i]? = some x ∧ ys[i]? = some y,
    fun i H v H' => ∃ T x y, v = .ref T ∧ H T = none ∧ H' = upd H T (.tup [x, y]) ∧ (∀ xs, SqK k1 K H a xs → xs[i]? = some x) ∧ ∀ ys, SqK k2 K H b ys → ys[i]? = some y,
    fun i H => ∃ xs ys : List V, SqK k1 K H a xs ∧ SqK k2 K H b ys ∧ i = min xs.length ys.length⟩
theorem turn_zipK {P : Program} {w : World} {K : PySem.W.Frag} {elts : List Expr} {kk : Nat} {tpos : Pos} {k1 k2 : Bool} {a b z TI TO i1 i2 : Addr} (D : ZipSep2 z TI TO i1 i2 [i1, a] [i2, b]) :
    Turn P w K (.Tuple elts kk tpos) (ItZ k1 k2 K a b) [z, TI, TO, i1, i2] z (fun i h => IsZip h z TI TO .none ∧ IsTupOf2 h TI (.ref i1) (.ref i2) ∧ (∃ x y, IsTupOf2 h TO x y) ∧ BIt k1 h i1 a i ∧ BIt k2 h i2 b i) where
  mem := by simp
  obj := fun i h st c hc => by
    obtain ⟨hz, hTI, ⟨x, y, hTO⟩, h1, h2⟩ := st
    obtain ⟨o1, e1, d1, _⟩ := bit_obj h1
    obtain ⟨o2, e2, d2, _⟩ := bit_obj h2
    have e' : c = z ∨ c = TI ∨ c = TO ∨ c = i1 ∨ c = i2 := by simpa using hc
    rcases e' with q | q | q | q | q
    · rw [q]; exact ⟨_, hz, fun v q => nomatch q⟩
    · rw [q]; exact ⟨_, hTI, fun v q => nomatch q⟩
    · rw [q]; exact ⟨_, hTO, fun v q => nomatch q⟩
    · rw [q]; exact ⟨o1, e1, fun v q => by rw [d1] at q; cases q⟩
    · rw [q]; exact ⟨o2, e2, fun v q => by rw [d2] at q; cases q⟩
  keep := fun i h h' st k => by
    obtain ⟨hz, hTI, ⟨x, y, hTO⟩, h1, h2⟩ := st
    exact ⟨k z (by simp) _ hz, k TI (by simp) _ hTI, ⟨x, y, k TO (by simp) _ hTO⟩, bit_at h1 fun o q => k i1 (by simp) o q, bit_at h2 fun o q => k i2 (by simp) o q⟩
  item := by
    intro X hP hw hK hc i pins s σ H E I hf st hg
    subst hP hw hK
    obtain ⟨hz, hTI, ⟨x0, y0, hTO⟩, h1, h2⟩ := st
    obtain ⟨xs, ys, x, y, hqx, hqy, hx, hy⟩ := hg
    obtain ⟨its, rv, p⟩ := sqk_view I hqx
    obtain ⟨its2, rv2, p2⟩ := sqk_view I hqy
    obtain ⟨u, hu, ru⟩ := rv.get hx
    obtain ⟨u2, hu2, ru2⟩ := rv2.get hy
    obtain ⟨oa, ea, ca⟩ := bseq_obj p
    obtain ⟨oi, ei, di, ci⟩ := bit_obj h1
    obtain ⟨ob, eb, cb⟩ := bseq_obj p2
    obtain ⟨oj, ej, dj, cj⟩ := bit_obj h2
    have hai : a ≠ i1 := ne_cls ea ei (by rcases ca with z | z <;> rcases ci with y | y <;> (rw [z, y]; decide))
    have hbi : b ≠ i2 := ne_cls eb ej (by rcases cb with z | z <;> rcases cj with y | y <;> (rw [z, y]; decide))
    have hzl : z < s.heap.objs.size := Heap.lt_size hz
    have l1 : i < its.length := (List.getElem?_eq_some_iff.mp hu).1
    have l2 : i < its2.length := (List.getElem?_eq_some_iff.mp hu2).1
    refine wpAny_pyNext_zipD2_item D (bdraws (A := X.A.in1) (k := k1) (I.ok.hd hc) hai its) (bdraws (A := X.A.in1) (k := k2) (I.ok.hd hc) hbi its2) hz hTI hTO ⟨h1, p⟩ ⟨h2, p2⟩ l1 l2 fun v1 v2 h' tk q1 q2 z' TO' s1' s2' hT hsz hk => ?_
    have q1 : its[i]? = some v1 := q1
    have q2 : its2[i]? = some v2 := q2
    rw [hu] at q1; rw [hu2] at q2
    cases q1; cases q2
    refine ⟨_, rfl, wpAny_letOwnedTupleGo_zip (s := { s with heap := h', toks := tk }) z' fun h'' z'' sb => ?_⟩
    have hT2 : h''.get? s.heap.objs.size = some { cls := .type "tuple", data := .seq #[u, u2] } := (sb.2 _ (Nat.ne_of_gt hzl)).trans hT
    have new : ObjOk X.prog X.w (upd H s.heap.objs.size (.tup [x, y])) h'' s.heap.objs.size (.tup [x, y]) :=
      ⟨by show 2 ≤ sizeLine; decide, [u, u2], .cons ru (.cons ru2 .nil), ⟨_, hT2, rfl, _, rfl⟩⟩
    have I1 : Inv X pins σ (upd H s.heap.objs.size (.tup [x, y])) { s with heap := h'', toks := tk } :=
      I.turnedNew (ch := [z, TI, TO, i1, i2]) (fun c o hb q => (sb.2 c (fun q' => hb (by simp [q']))).trans (hk c o (fun q' => hb (by simp [q'])) (fun q' => hb (by simp [q'])) (fun q' => hb (by simp [q'])) (fun q' => hb (by simp [q'])) q)) hf (Nat.le_refl _) new
    have i1z : i1 ≠ z := Ne.symm D.zi1
    have i2z : i2 ≠ z := Ne.symm D.zi2
    refine ⟨.ref s.heap.objs.size, _, I1, rfl, ⟨_, x, y, rfl, I.hok.fresh (Nat.le_refl _), rfl, fun l hl => by rw [sqk_inj I hl hqx]; exact hx, fun l hl => by rw [sqk_inj I hl hqy]; exact hy⟩, ⟨z'', ?_, ⟨u, u2, ?_⟩, ?_, ?_⟩, fun c hcm => ?_⟩
    · exact (sb.2 _ D.TIz).trans (hk _ _ D.TIz D.TITO D.TIi1 D.TIi2 hTI)
    · exact (sb.2 _ D.TOz).trans TO'
    · exact bit_at s1'.1 fun o q => (sb.2 _ i1z).trans q
    · exact bit_at s2'.1 fun o q => (sb.2 _ i2z).trans q
    · have hlt : c < s.heap.objs.size := by
        have e' : c = z ∨ c = TI ∨ c = TO ∨ c = i1 ∨ c = i2 := by simpa using hcm
        rcases e' with q | q | q | q | q
        · rw [q]; exact hzl
        · rw [q]; exact Heap.lt_size hTI
        · rw [q]; exact Heap.lt_size hTO
        · rw [q]; exact Heap.lt_size ei
        · rw [q]; exact Heap.lt_size ej
      rw [upd_ne (Nat.ne_of_lt hlt)]
      exact (hf c hcm).1
  done := by
    intro X hP hw hK hc i pins s σ H E I hf st hg
    subst hP hw hK
    obtain ⟨hz, hTI, ⟨x0, y0, hTO⟩, h1, h2⟩ := st
    obtain ⟨xs, ys, hqx, hqy, hend⟩ := hg
    obtain ⟨its, rv, p⟩ := sqk_view I hqx
    obtain ⟨its2, rv2, p2⟩ := sqk_view I hqy
    obtain ⟨oa, ea, ca⟩ := bseq_obj p
    obtain ⟨oi, ei, di, ci⟩ := bit_obj h1
    obtain ⟨ob, eb, cb⟩ := bseq_obj p2
    obtain ⟨oj, ej, dj, cj⟩ := bit_obj h2
    have hai : a ≠ i1 := ne_cls ea ei (by rcases ca with z | z <;> rcases ci with y | y <;> (rw [z, y]; decide))
    have hbi : b ≠ i2 := ne_cls eb ej (by rcases cb with z | z <;> rcases cj with y | y <;> (rw [z, y]; decide))
    have l1 := rv.length
    have l2 := rv2.length
    exact wpAny_pyNext_zipD2_end D (bdraws (A := X.A.in1) (k := k1) (I.ok.hd hc) hai its) (bdraws (A := X.A.in1) (k := k2) (I.ok.hd hc) hbi its2) hz hTI hTO ⟨h1, p⟩ ⟨h2, p2⟩ (by omega) (by omega) (by omega) fun h' tk hk => ⟨rfl, I.turnedL (ch := [z, TI, TO, i1, i2]) (fun c o hb q =>
      hk c o (fun q' => hb (by simp [q'])) (fun q' => hb (by simp [q'])) (fun q' => hb (by simp [q'])) (fun q' => hb (by simp [q'])) q) hf⟩
  self := fun A i s Q E st h => wpAny_pyIter_zip st.1 h
def iZipK (K : PySem.W.Frag) (ta : TA) : TI := fun σ H R => ta σ H fun vs H1 => ∃ k1 k2 a b xs ys, vs = [.ref a, .ref b] ∧ SqK k1 K H1 a xs ∧ SqK k2 K H1 b ys ∧ R (ItZ k1 k2 K a b) H1
theorem pi_zipK {X : Cx} {e e2 : Expr} {ta : TA} {p pos tpos : Pos} {elts : List Expr} {kk : Nat} (hg : Gl X "zip") (hm : X.mg "zip" = none) (ha : PA X [e, e2] ta) (h1 : isStar e = false) (h2 : isStar e2 = false) :
    PI X (.Tuple elts kk tpos) (.Call (.Name "zip" p) [e, e2] [] pos) (iZipK X.K ta) := by
  refine ⟨fun pins s σ H R I h => ?_⟩
  refine Call_ (ld_blt I hg hm PyProof.Rows.boot_zip (PyProof.Rows.callWith_type1 (thn (ha.run pos pins s σ H _ I h) fun us s1 ⟨vs, H1, I1, r1, q1⟩ => ?_) (star_ok e [e2] X.env h1) (no_star (by rw [List.all_cons, h2]; rfl))))
  obtain ⟨k1, k2, a, b, xs, ys, ex, hqx, hqy, q⟩ := q1
  subst ex
  cases r1 with
  | cons r rr =>
    cases rr with
    | cons r' rr =>
      cases rr
      cases r
      cases r'
      obtain ⟨its, rv, p1⟩ := sqk_view I1 hqx
      obtain ⟨its2, rv2, p2⟩ := sqk_view I1 hqy
      obtain ⟨oa, ea, ca⟩ := bseq_obj p1
      obtain ⟨ob, eb, cb⟩ := bseq_obj p2
      refine zip_begins2 (bbegins k1 a its) (bbegins k2 b its2) p1 p2 fun h' hz hTI hTO h1 h2 hsz hk => wpAny_pyIter_zip hz ?_
      have I2 : Inv X pins σ H1 { s1 with heap := h' } := I1.kept (t' := s1.toks) hk
      have la : a < s1.heap.objs.size := Heap.lt_size ea
      have lb : b < s1.heap.objs.size := Heap.lt_size eb
      refine ⟨s1.heap.objs.size + 4, [s1.heap.objs.size + 4, s1.heap.objs.size + 2, s1.heap.objs.size + 3, s1.heap.objs.size, s1.heap.objs.size + 1], _, _, H1, rfl, I2, turn_zipK (zip_sep2 (fp1 := [a]) (fp2 := [b]) (by simpa using la) (by simpa using lb)), ⟨hz, hTI, ⟨_, _, hTO⟩, bit_new h1, bit_new h2⟩, fun c hcm => ?_, q⟩
      have e' : c = s1.heap.objs.size + 4 ∨ c = s1.heap.objs.size + 2 ∨ c = s1.heap.objs.size + 3 ∨ c = s1.heap.objs.size ∨ c = s1.heap.objs.size + 1 := by simpa using hcm
      have hle : s1.heap.objs.size ≤ c := by
        rcases e' with z | z | z | z | z
        · rw [z]; exact Nat.le_add_right _ _
        · rw [z]; exact Nat.le_add_right _ _
        · rw [z]; exact Nat.le_add_right _ _
        · rw [z]; exact Nat.le_refl _
        · rw [z]; exact Nat.le_add_right _ _
      exact I1.fpOk hle (I1.hok.fresh hle)
/-! ### lists, tuples, the keys of a dict -/
def ItX (d : Addr) (o : Obj) (ks : List V) : It :=
  ⟨fun i H => H d = some (objAt d o) ∧ i < ks.length, fun i H x H' => H' = H ∧ ks[i]? = some x, fun i H => H d = some (objAt d o) ∧ ks.length ≤ i⟩
theorem turn_x {P : Program} {w : World} {K : PySem.W.Frag} {tg : Expr} {d : Addr} {o : Obj} {es : Array DictEntry} {ep : Nat} {ks : List V} (it : Addr) (hod : o.data = .dict es ep) (hsz : es.size = ks.length)
    (hk : ∀ (i : Nat) (x : V), ks[i]? = some x → ∃ en : DictEntry, es[i]? = some en ∧ RelV x en.key) : Turn P w K tg (ItX d o ks) [it] it (fun i h => h.IsKeyIter it d i ks.length ep) where
  mem := by simp
  obj := fun i h st b hb => by
    have e : b = it := by simpa using hb
    subst e
    obtain ⟨oi, e, c, dd⟩ := st
    exact ⟨oi, e, fun v z => by rw [dd] at z; cases z⟩
  keep := fun i h h' st k => let ⟨oi, e, r⟩ := st; ⟨oi, k it (by simp) oi e, r⟩
  item := by
    intro X hP hw hK hc i pins s σ H E I hf st hg
    subst hP hw hK
    obtain ⟨hd, hi⟩ := hg
    obtain ⟨f0, f1, f2, f3, f4, f5⟩ := hf it (by simp)
    have hgd := obj_at I hd
    have hx := List.getElem?_eq_getElem hi
    obtain ⟨en, hen, hkey⟩ := hk i _ hx
    refine next_key_item st hgd hod hsz hen fun h' st' sb => ?_
    have I1 : Inv X pins σ H { s with heap := h' } := I.turned (t' := s.toks) (fun b ob hb e => (sb.2 b hb).trans e) f0 f1 f3 f4 f5
    obtain ⟨oi, e, c, dd⟩ := id st'
    exact ⟨en.key, rfl, go_of (s := { s with heap := h' }) e c dd (by decide) ⟨_, H, I1, hkey, ⟨rfl, hx⟩, st', fun b hb => (hf b hb).1⟩⟩
  done := by
    intro X hP hw hK hc i pins s σ H E I hf st hg
    subst hP hw hK
    obtain ⟨hd, hi⟩ := hg
    obtain ⟨f0, f1, f2, f3, f4, f5⟩ := hf it (by simp)
    exact next_key_end (I.ok.hd hc) st (obj_at I hd) hod hsz hi fun h' eb => ⟨rfl, I.turned (t' := s.toks) (fun b ob hb e => eb b ob hb e) f0 f1 f3 f4 f5⟩
  self := fun A i s Q E st h => by
    refine wpAny_pyIter_slot st.typeIs F.slot_dict_keyiterator_iter (wpAny_call_entry F.slot_dict_keyiterator_iter st.typeIs F.entry_dict_keyiterator_iter ?_ (F.args_dict_keyiterator_iter_1 _))
    show wpAny _ _ (ret (.ref it)) _ _ s
    exact wpAny_pure ⟨_, rfl, "dict_keyiterator", _, st.typeIs, F.slot_dict_keyiterator_next.lookup, h⟩
theorem dict_keys {X : Cx} {pins : List (Addr × Obj)} {σ : L2.St} {H : Hp} {s : Shared} {a : Addr} {ps : List (V × V)} (I : Inv X pins σ H s) (m : DictM X.prog X.w X.K H a ps) :
    ∃ (o : Obj) (es : Array DictEntry) (ep : Nat), H a = some (objAt a o) ∧ (a == sysModules) = false ∧ s.heap.get? a = some o ∧ o.ExactDict ∧ o.data = .dict es ep ∧ es.size = (ps.map (·.1)).length ∧ ∀ (i : Nat) (x : V), (ps.map (·.1))[i]? = some x → ∃ en : DictEntry, es[i]? = some en ∧ RelV x en.key := by
  have m0 := m
  obtain ⟨o, es, ep, h1, h2, h3, h4, h5, h6⟩ := m
  have ho := obj_at I h1
  refine ⟨o, es, ep, h1, h2, ho, h3, h4, ?_⟩
  rcases h6 with ⟨vs, k1, k2⟩ | ⟨xs, k1, k2, k3⟩
  · obtain ⟨es', ep', ⟨o', r1, r2, r3⟩, r4, r5⟩ := (k1 s.heap ho).raw
    rw [ho] at r1
    cases r1
    rw [h4] at r3
    cases r3
    have hl := vals_len k2
    refine ⟨by rw [r4, List.length_map, hl], fun i x hx => ?_⟩
    rw [List.getElem?_map] at hx
    obtain ⟨p, hp, rfl⟩ := Option.map_eq_some_iff.mp hx
    have hi : i < vs.length := by rw [← hl]; exact (List.getElem?_eq_some_iff.mp hp).1
    obtain ⟨p', hp', e1⟩ := paired_at k2 (List.getElem?_eq_getElem hi)
    rw [hp] at hp'
    cases hp'
    have hs : i < es.size := by omega
    have q := (r5 i hs _ _ (List.getElem?_eq_getElem hi)).1
    exact ⟨es[i], by simp [hs], by rw [e1.1]; exact relV_key q⟩
  · have hl := vals_len k3
    have hs0 : es.size = xs.length := by
      have := congrArg List.length k1
      rw [List.length_map, Array.length_toList] at this
      exact this
    refine ⟨by rw [hs0, List.length_map, hl], fun i x hx => ?_⟩
    rw [List.getElem?_map] at hx
    obtain ⟨p, hp, rfl⟩ := Option.map_eq_some_iff.mp hx
    have hi : i < xs.length := by rw [← hl]; exact (List.getElem?_eq_some_iff.mp hp).1
    obtain ⟨p', hp', e1⟩ := paired_at k3 (List.getElem?_eq_getElem hi)
    rw [hp] at hp'
    cases hp'
    refine ⟨entryOfKey (nestedKind X.prog X.w) xs[i], ?_, ?_⟩
    · rw [← Array.getElem?_toList, k1, List.getElem?_map, List.getElem?_eq_getElem hi]
      rfl
    · rw [e1.1]
      rfl
/-- what is walked as it is -/
def iSeqK (X : Cx) (te : TE) : TI := fun σ H R => te σ H fun x H1 => (∃ a xs, x = .ref a ∧ SqL X.K H1 a xs ∧ R (Itl X.K a) H1) ∨ (∃ a xs, x = .ref a ∧ SqT X.K H1 a xs ∧ R (Itt X.K a) H1) ∨
  ∃ a ps, x = .ref a ∧ DictM X.prog X.w X.K H1 a ps ∧ ∀ o, H1 a = some (objAt a o) → R (ItX a o (ps.map (·.1))) H1
theorem pi_seqK {X : Cx} {tg e : Expr} {te : TE} (he : PE X e te) : PI X tg e (iSeqK X te) := by
  refine ⟨fun pins s σ H R I h => ?_⟩
  refine thn (he.run pins s σ H _ I h) fun v s1 ⟨x, H1, I1, rx, q⟩ => ?_
  rcases q with ⟨a, xs, rfl, hq, q⟩ | ⟨a, xs, rfl, hq, q⟩ | ⟨a, ps, rfl, m, q⟩
  · cases rx
    obtain ⟨its, rv, p, _⟩ := I1.list hq
    exact wpAny_pyIter_list p.isList (pi_one (tk := s1.toks) I1 _ (turn_list a _) ⟨_, Heap.get?_push_size _ rfl, rfl, rfl⟩ q)
  · cases rx
    obtain ⟨its, rv, p, _⟩ := I1.tuple hq
    exact wpAny_pyIter_tuple p (pi_one (tk := s1.toks) I1 _ (turn_tuple a _) ⟨_, Heap.get?_push_size _ rfl, rfl, rfl⟩ q)
  · cases rx
    obtain ⟨o, es, ep, h1, h2, h3, h4, h5, h6, h7⟩ := dict_keys I1 m
    refine iter_keys h2 h3 h4 h5 (pi_one (tk := s1.toks) I1 _ (turn_x _ h5 h6 h7) ⟨_, Heap.get?_push_size _ rfl, rfl, ?_⟩ (q o h1))
    rw [h6]
    rfl
end Mp

/-! Mp25: locks; what is walked; for. -/
namespace Mp
open PySem PySem.Spec PyProof.Rows L2

/-! ### locks -/
/-- envL is env1 with the slots at is locked -/
structure Lk (env1 envL : Mp.Env) (is : List Nat) : Prop where
  len : envL.length = env1.length
  at_ : ∀ j, get envL j = get env1 j ∨ (j ∈ is ∧ ∃ d, get env1 j = .ow d ∧ get envL j = .lk d)
  on : ∀ j, j ∈ is → ∃ d, get env1 j = .ow d ∧ get envL j = .lk d
theorem Lk.refl {env : Mp.Env} : Lk env env [] := ⟨rfl, fun _ => .inl rfl, fun _ h => nomatch h⟩
section
variable {P : Program} {w : World} {K : PySem.W.Frag} {T T' : Addr → Prop} {env1 envL envE env env' : Mp.Env} {σ σ' : L2.St} {H H' : Hp} {is : List Nat}
theorem Lk.holds (k : Lk env1 envL is) (j : Nat) : (get envL j).holds = (get env1 j).holds := by
  rcases k.at_ j with e | ⟨_, d, e1, e2⟩
  · rw [e]
  · rw [e1, e2]; rfl
theorem Lk.held (k : Lk env1 envL is) (a : Addr) : Held envL σ a ↔ Held env1 σ a := ⟨fun ⟨j, x, y⟩ => ⟨j, by rw [← k.holds]; exact x, y⟩, fun ⟨j, x, y⟩ => ⟨j, by rw [k.holds]; exact x, y⟩⟩
theorem Lk.avd (k : Lk env1 envL is) (a : Addr) : Avd T envL σ a ↔ Avd T env1 σ a := by unfold Avd; rw [k.held]
theorem Lk.mut (k : Lk env1 envL is) {a : Addr} (h : Mp.Mut envL σ a) : Mp.Mut env1 σ a := by
  obtain ⟨j, x, y⟩ := h
  rcases k.at_ j with e | ⟨_, d, e1, e2⟩
  · exact ⟨j, by rw [← e]; exact x, y⟩
  · rw [e2] at x; cases x
theorem SlotOk.sw {Av Av' : Addr → Prop} {s : Slot} {o : Option V} (h : SlotOk P w K H Av s o) (e : ∀ a, Av' a → Av a) : SlotOk P w K H Av' s o := by
  cases s with
  | un => exact trivial
  | fz d => obtain ⟨v, e1, r⟩ := h; exact ⟨v, e1, r.anti e⟩
  | ow d => obtain ⟨v, e1, r⟩ := h; exact ⟨v, e1, r.anti e⟩
  | lk d => obtain ⟨v, e1, r⟩ := h; exact ⟨v, e1, r.anti e⟩
  | rf d => obtain ⟨v, e1, r⟩ := h; exact ⟨v, e1, r.anti e⟩
theorem Rel.locked (k : Lk env1 envL is) (R : Rel P w K T env1 σ H) : Rel P w K T envL σ H where
  len := k.len.trans R.len
  ok := fun j => by
    have q := R.ok j
    rcases k.at_ j with e | ⟨_, d, e1, e2⟩
    · rw [e]; exact q.sw fun a => (k.avd a).mp
    · rw [e2]
      rw [e1] at q
      obtain ⟨a, x, y⟩ := q
      exact ⟨a, x, y.anti fun a => (k.avd a).mp⟩
  one := fun i j a x y => R.one i j a ⟨by rw [← k.holds]; exact x.1, x.2⟩ ⟨by rw [← k.holds]; exact y.1, y.2⟩
  apart := fun a x y => R.apart a x ((k.held a).mp y)
  there := R.there
/-- one slot locked -/
theorem lk_one {i : Nat} {d : D} (h : get env i = .ow d) : Lk env (env.set i (.lk d)) [i] := by
  have hl : i < env.length := get_lt (by rw [h]; exact fun z => nomatch z)
  refine ⟨by simp, fun j => ?_, fun j hj => ?_⟩
  · rw [get_set env i j _ hl]
    by_cases e : j = i
    · subst e; rw [if_pos rfl]; exact .inr ⟨by simp, d, h, rfl⟩
    · rw [if_neg e]; exact .inl rfl
  · have e : j = i := by simpa using hj
    subst e
    exact ⟨d, h, by rw [get_set env j j _ hl, if_pos rfl]⟩
theorem Lk.trans {env2 : Mp.Env} {js : List Nat} (a : Lk env1 envL is) (b : Lk envL env2 js) : Lk env1 env2 (is ++ js) where
  len := b.len.trans a.len
  at_ := fun j => by
    rcases b.at_ j with e | ⟨hj, d, e1, e2⟩
    · rcases a.at_ j with e' | ⟨hi, d, e1, e2⟩
      · exact .inl (e.trans e')
      · exact .inr ⟨List.mem_append_left _ hi, d, e1, e.trans e2⟩
    · rcases a.at_ j with e' | ⟨hi, d', e1', e2'⟩
      · exact .inr ⟨List.mem_append_right _ hj, d, e'.symm.trans e1, e2⟩
      · rw [e2'] at e1; cases e1
  on := fun j hj => by
    rcases List.mem_append.mp hj with hj | hj
    · obtain ⟨d, e0, e⟩ := a.on j hj
      rcases b.at_ j with e' | ⟨_, d', e1, _⟩
      · exact ⟨d, e0, e'.trans e⟩
      · rw [e] at e1; cases e1
    · obtain ⟨d, e0, e⟩ := b.on j hj
      rcases a.at_ j with e' | ⟨_, d', e1, e2⟩
      · exact ⟨d, e'.symm.trans e0, e⟩
      · rw [e2] at e0; cases e0
/-- env' is env with some locked slots free again -/
structure Un1 (env' env : Mp.Env) (is : List Nat) : Prop where
  len : env'.length = env.length
  at_ : ∀ j, get env' j = get env j ∨ (j ∈ is ∧ ∃ d, get env j = .lk d ∧ get env' j = .ow d)
  off : ∀ j, j ∈ is → ∀ d, get env' j ≠ .lk d
theorem unlk_un : ∀ (is : List Nat) (env : Mp.Env), Un1 (unlk is env) env is
  | [], env => ⟨rfl, fun _ => .inl rfl, fun _ h => nomatch h⟩
  | i :: is, env => by
    unfold unlk
    have go : ∀ env2 : Mp.Env, env2.length = env.length → (∀ j, get env2 j = get env j ∨ (j = i ∧ ∃ d, get env j = .lk d ∧ get env2 j = .ow d)) → (∀ d, get env2 i ≠ .lk d) → Un1 (unlk is env2) env (i :: is) := fun env2 h1 h2 h3 => by
      have u := unlk_un is env2
      refine ⟨u.len.trans h1, fun j => ?_, fun j hj d e => ?_⟩
      · rcases u.at_ j with e | ⟨hj, d, e1, e2⟩
        · rcases h2 j with e' | ⟨hi, d, e1, e2⟩
          · exact .inl (e.trans e')
          · exact .inr ⟨by rw [hi]; simp, d, e1, e.trans e2⟩
        · rcases h2 j with e' | ⟨_, d', e1', e2'⟩
          · exact .inr ⟨List.mem_cons_of_mem _ hj, d, e'.symm.trans e1, e2⟩
          · rw [e2'] at e1; cases e1
      · rcases List.mem_cons.mp hj with rfl | hj
        · rcases u.at_ j with e' | ⟨_, d', e1, e2⟩
          · exact h3 d (e'.symm.trans e)
          · rw [e2] at e; cases e
        · exact u.off j hj d e
    cases hg : get env i with
    | lk d =>
      have hl : i < env.length := get_lt (by rw [hg]; exact fun z => nomatch z)
      refine go _ (by simp) (fun j => ?_) fun d' => ?_
      · rw [get_set env i j _ hl]
        by_cases e : j = i
        · subst e; rw [if_pos rfl]; exact .inr ⟨rfl, d, hg, rfl⟩
        · rw [if_neg e]; exact .inl rfl
      · rw [get_set env i i _ hl, if_pos rfl]; exact fun z => nomatch z
    | un => exact go _ rfl (fun _ => .inl rfl) fun d => by rw [hg]; exact fun z => nomatch z
    | fz _ => exact go _ rfl (fun _ => .inl rfl) fun d => by rw [hg]; exact fun z => nomatch z
    | ow _ => exact go _ rfl (fun _ => .inl rfl) fun d => by rw [hg]; exact fun z => nomatch z
    | rf _ => exact go _ rfl (fun _ => .inl rfl) fun d => by rw [hg]; exact fun z => nomatch z
theorem Un1.holds (u : Un1 env' env is) (j : Nat) : (get env' j).holds = (get env j).holds := by
  rcases u.at_ j with e | ⟨_, d, e1, e2⟩
  · rw [e]
  · rw [e1, e2]; rfl
theorem Un1.held (u : Un1 env' env is) (a : Addr) : Held env' σ a ↔ Held env σ a := ⟨fun ⟨j, x, y⟩ => ⟨j, by rw [← u.holds]; exact x, y⟩, fun ⟨j, x, y⟩ => ⟨j, by rw [u.holds]; exact x, y⟩⟩
theorem Un1.avd (u : Un1 env' env is) (a : Addr) : Avd T env' σ a ↔ Avd T env σ a := by unfold Avd; rw [u.held]
theorem Rel.unlocked (u : Un1 env' env is) (R : Rel P w K T env σ H) : Rel P w K T env' σ H where
  len := u.len.trans R.len
  ok := fun j => by
    have q := R.ok j
    rcases u.at_ j with e | ⟨_, d, e1, e2⟩
    · rw [e]; exact q.sw fun a => (u.avd a).mp
    · rw [e2]
      rw [e1] at q
      obtain ⟨a, x, y⟩ := q
      exact ⟨a, x, y.anti fun a => (u.avd a).mp⟩
  one := fun i j a x y => R.one i j a ⟨by rw [← u.holds]; exact x.1, x.2⟩ ⟨by rw [← u.holds]; exact y.1, y.2⟩
  apart := fun a x y => R.apart a x ((u.held a).mp y)
  there := R.there
/-- a step within the lock, from outside it -/
theorem Go.unlocked (k : Lk env1 envL is) (g : Go T envL σ H T' envE σ' H') : Go T env1 σ H T' (unlk is envE) σ' H' := by
  have u := unlk_un is envE
  refine ⟨fun a o e n => g.frame a o e fun m => n (k.mut m), g.there, fun a h => ?_, fun a h => ?_, fun j d h => ?_, fun j d h => ?_, g.sub, g.new⟩
  · obtain ⟨j, x, y⟩ := h
    rcases u.at_ j with e | ⟨hj, d, e1, e2⟩
    · exact (g.muts a ⟨j, by rw [← e]; exact x, y⟩).imp k.mut id
    · obtain ⟨h1, h2⟩ := g.lks j d e1
      obtain ⟨d', e1', _⟩ := k.on j hj
      exact .inl ⟨j, by rw [e1']; rfl, by rw [← h2]; exact y⟩
  · refine (g.held a ((u.held a).mp h)).imp (k.held a).mp id
  · have e1 : get envE j = .lk d := by
      rcases u.at_ j with e | ⟨_, d', e1, e2⟩
      · rw [← e]; exact h
      · rw [e2] at h; cases h
    obtain ⟨h1, h2⟩ := g.lks j d e1
    rcases k.at_ j with e' | ⟨hj, d', e1', e2'⟩
    · exact ⟨e'.symm.trans h1, h2⟩
    · exact absurd h (u.off j hj d)
  · have e1 : get envE j = .rf d := by
      rcases u.at_ j with e | ⟨_, d', e1, e2⟩
      · rw [← e]; exact h
      · rw [e2] at h; cases h
    obtain ⟨⟨d', h1⟩, h2⟩ := g.rfs j d e1
    rcases k.at_ j with e' | ⟨hj, d'', e1', e2'⟩
    · exact ⟨⟨d', e'.symm.trans h1⟩, h2⟩
    · rw [e2'] at h1; cases h1
theorem GoR.unlocked (k : Lk env1 envL is) (g : GoR T envL σ H T' envE σ' H') : GoR T env1 σ H T' (unlk is envE) σ' H' := by
  have u := unlk_un is envE
  refine ⟨fun a o e n => g.frame a o e fun m => n (k.mut m), g.there, fun j d h => ?_, g.sub, fun a h => (g.new a h).imp id fun z => z.imp id (k.held a).mp⟩
  have e1 : get envE j = .rf d := by
    rcases u.at_ j with e | ⟨_, d', e1, e2⟩
    · rw [← e]; exact h
    · rw [e2] at h; cases h
  obtain ⟨⟨d', h1⟩, h2⟩ := g.rfs j d e1
  rcases k.at_ j with e' | ⟨hj, d'', e1', e2'⟩
  · exact ⟨⟨d', e'.symm.trans h1⟩, h2⟩
  · rw [e2'] at h1; cases h1
theorem InF.unlocked {T0 : Addr → Prop} {r : Res} {v : V} (u : Un1 env' env is) (i : InF P w K T0 T env σ H r v) : InF P w K T0 T env' σ H r v := by
  cases r with
  | val d => exact Rep.anti i fun a => (u.avd a).mp
  | plc j => exact i
  | new d => obtain ⟨a, e, t, n, o⟩ := i; exact ⟨a, e, t, n, o.anti fun a => (u.avd a).mp⟩
end

/-! ### what is walked -/
def WlkOk (X : Cx) (T : Addr → Prop) (env : Mp.Env) (σ : L2.St) (H : Hp) (ds : List D) (J : It) : Prop := ∃ (G : Hp → Prop) (Y : Nat → Hp → V → Hp → Prop), Walk J ds.length G Y ∧
  (∀ T' env' σ' H', Go T env σ H T' env' σ' H' → Rel X.prog X.w X.K T' env' σ' H' → G H') ∧
  ∀ i H1 x H2 T1 env1 σ1 d, Go T env σ H T1 env1 σ1 H1 → Rel X.prog X.w X.K T1 env1 σ1 H1 → Y i H1 x H2 → ds[i]? = some d → (∀ b o, H1 b = some o → H2 b = some o) ∧ Rep X.prog X.w X.K H2 (Avd T1 env1 σ1) d x
def iF (X : Cx) (it : ItF) : TI := fun σ H R => ∃ T env ds is env', Rel X.prog X.w X.K T env σ H ∧ it env = some (ds, is, env') ∧
  ∀ J H1 T1 env1, Go T env σ H T1 env1 σ H1 → Rel X.prog X.w X.K T1 env1 σ H1 → Lk env1 env' is → Rel X.prog X.w X.K T1 env' σ H1 → WlkOk X T1 env' σ H1 ds J → R J H1
section
variable {X : Cx} {tg e : Expr} {f g : EvF} {pos p : Pos}
theorem pi_imp {t t' : TI} (h : PI X tg e t) (i : ∀ σ H R, t' σ H R → t σ H R) : PI X tg e t' := ⟨fun pins s σ H R I q => h.run pins s σ H R I (i σ H R q)⟩
theorem pi_fail : PI X tg e (iF X fun _ => none) := ⟨fun pins s σ H R I q => by obtain ⟨_, _, _, _, _, _, e, _⟩ := q; cases e⟩
/-! ### range -/
theorem range_get (lo : Int) (n i : Nat) {d : D} (h : (rangeD lo n)[i]? = some d) : d = .int (lo + i) := by
  unfold rangeD at h
  rw [List.getElem?_map] at h
  obtain ⟨j, hj, rfl⟩ := Option.map_eq_some_iff.mp h
  obtain ⟨hlt, hj⟩ := List.getElem?_eq_some_iff.mp hj
  rw [List.getElem_range] at hj
  rw [hj]
theorem wlk_range {T : Addr → Prop} {env : Mp.Env} {σ : L2.St} {H : Hp} {lo : Int} {n : Nat} : WlkOk X T env σ H (rangeD lo n) (Itr lo n) := by
  have hl : (rangeD lo n).length = n := by unfold rangeD; simp
  refine ⟨fun _ => True, YFn fun i => .int (lo + i), by rw [hl]; exact walk_range, fun _ _ _ _ _ _ => trivial, fun i H1 x H2 T1 env1 σ1 d g R y hd => ?_⟩
  obtain ⟨rfl, rfl⟩ := y
  rw [range_get lo n i hd]
  exact ⟨fun _ _ h => h, .int _⟩
theorem use_eq {env env' : Mp.Env} {d : D} (h : eUse f env = some (d, env')) : ∃ r, f env = some (r, env') ∧ deref env' r = some d := by
  unfold eUse at h
  obtain ⟨⟨r, e2⟩, h2, h⟩ := Option.bind_eq_some_iff.mp h
  obtain ⟨d', hd, h⟩ := Option.map_eq_some_iff.mp h
  cases h
  exact ⟨r, h2, hd⟩
theorem pi_rng1 {a : Expr} (hg : Gl X "range") (hm : X.mg "range" = none) (ha : EXs X [a] [f]) (hst : isStar a = false) : PI X tg (.Call (.Name "range" p) [a] [] pos) (iF X (itRange1 f)) :=
  pi_imp (pi_range1 hg hm ha.pa (star_ok a [] X.env hst)) fun σ H R q => by
    obtain ⟨T, env, ds, is, env', R0, e, q⟩ := q
    obtain ⟨⟨d, e1⟩, h1, e⟩ := Option.bind_eq_some_iff.mp e
    obtain ⟨r, h2, h3⟩ := use_eq h1
    cases d <;> first | (cases e; done) | skip
    rename_i j
    dsimp only at e
    split at e
    · rename_i c
      have c := Bool.and_eq_true_iff.mp c
      cases e
      refine ⟨T, env, [r], _, R0, eAll_one h2, fun vs H1 T1 g1 R1 i1 => ?_⟩
      obtain ⟨v, us, rfl, i1, i2⟩ := i1
      cases i2
      have u := (i1.use R1 h3).int
      subst u
      exact ⟨j, rfl, of_decide_eq_true c.1, of_decide_eq_true c.2, q _ H1 T1 _ g1 R1 .refl R1 wlk_range⟩
    · cases e
theorem pi_rng2 {a b : Expr} (hg : Gl X "range") (hm : X.mg "range" = none) (ha : EXs X [a, b] [f, g]) (h1 : isStar a = false) (h2 : isStar b = false) : PI X tg (.Call (.Name "range" p) [a, b] [] pos) (iF X (itRange2 f g)) :=
  pi_imp (pi_range2 hg hm ha.pa (by rw [star_ok a [b] X.env h1, star_ok b [] X.env h2]; rfl) (star_ok b [] X.env h2)) fun σ H R q => by
    obtain ⟨T, env, ds, is, env', R0, e, q⟩ := q
    obtain ⟨⟨r, e1⟩, h2, e⟩ := Option.bind_eq_some_iff.mp e
    obtain ⟨⟨r', e2⟩, k2, e⟩ := Option.bind_eq_some_iff.mp e
    obtain ⟨d, h3, e⟩ := Option.bind_eq_some_iff.mp e
    obtain ⟨d', k3, e⟩ := Option.bind_eq_some_iff.mp e
    cases d <;> first | (cases e; done) | skip
    rename_i i
    cases d' <;> first | (cases e; done) | skip
    rename_i j
    dsimp only at e
    split at e
    · rename_i c
      have c := Bool.and_eq_true_iff.mp c
      have c1 := Bool.and_eq_true_iff.mp c.1
      have c2 := Bool.and_eq_true_iff.mp c1.1
      cases e
      refine ⟨T, env, [r, r'], _, R0, eAll_two h2 k2, fun vs H1 T1 g1 R1 i1 => ?_⟩
      obtain ⟨v, us, rfl, i1, i2⟩ := i1
      obtain ⟨v2, us, rfl, i2, i3⟩ := i2
      cases i3
      have u := (i1.use R1 h3).int
      have u2 := (i2.use R1 k3).int
      subst u u2
      exact ⟨_, _, rfl, ⟨of_decide_eq_true c2.1, of_decide_eq_true c2.2, of_decide_eq_true c1.2, of_decide_eq_true c.2⟩, q _ H1 T1 _ g1 R1 .refl R1 wlk_range⟩
    · cases e
/-! ### lists, tuples, dicts -/
/-- what is walked is not written meanwhile -/
def NoW (X : Cx) (H : Hp) (Av : Addr → Prop) (d : D) (v : V) (env : Mp.Env) (σ : L2.St) : Prop := (∀ a, v = .ref a → (∃ ds, d = .list ds) ∨ (∃ kvs, d = .dict kvs) → ¬ Mp.Mut env σ a) ∨ ∃ a vs ds, d = .list ds ∧ v = .ref a ∧ KLst X.K a vs ∧ RepL X.prog X.w X.K H Av ds vs
theorem rep_noW {H : Hp} {Av : Addr → Prop} {d : D} {v : V} {env : Mp.Env} {σ : L2.St} (i : Rep X.prog X.w X.K H Av d v) (h : ∀ a, Mp.Mut env σ a → Av a) : NoW X H Av d v env σ := by
  cases i with
  | lst n r =>
    rcases n with n | n
    · exact .inl fun a e k m => by cases e; exact n.1 (h _ m)
    · exact .inr ⟨_, _, _, rfl, rfl, n, r⟩
  | dic n _ _ => exact .inl fun a e k m => by cases e; exact n (h _ m)
  | _ => exact .inl fun a e k m => by rcases k with ⟨_, k⟩ | ⟨_, k⟩ <;> cases k
theorem NoW.anti {H : Hp} {Av Av' : Addr → Prop} {d : D} {v : V} {env env2 : Mp.Env} {σ : L2.St} (n : NoW X H Av d v env σ) (s : ∀ a, Av' a → Av a) (m : ∀ a, Mp.Mut env2 σ a → Mp.Mut env σ a) : NoW X H Av' d v env2 σ := by
  rcases n with n | ⟨a, vs, ds, h1, h2, h3, h4⟩
  · exact .inl fun a e k z => n a e k (m a z)
  · exact .inr ⟨a, vs, ds, h1, h2, h3, h4.anti s⟩
/-- what a lock leaves -/
theorem lock_ok {T0 T : Addr → Prop} {env env' : Mp.Env} {σ : L2.St} {H : Hp} {r : Res} {v : V} {d : D} {is : List Nat} (i : InF X.prog X.w X.K T0 T env σ H r v) (R : Rel X.prog X.w X.K T env σ H) (h : lock env r = some (d, is, env')) :
    Lk env env' is ∧ Use X.prog X.w X.K H (Avd T env σ) d v ∧ NoW X H (Avd T env σ) d v env' σ := by
  cases r with
  | val d' =>
    cases h
    have i : Rep X.prog X.w X.K H (Avd T env σ) d v := i
    exact ⟨.refl, .rep i, rep_noW i fun a m => .inr m.held⟩
  | new d' =>
    cases h
    obtain ⟨a, rfl, t, n, o⟩ := i
    exact ⟨.refl, .own o, .inl fun b e k => by cases e; exact R.noMut t⟩
  | plc j =>
    have i : σ[j]? = some (some v) := i
    unfold lock at h
    cases hg : get env j with
    | un => simp only [hg] at h; cases h
    | rf _ => simp only [hg] at h; cases h
    | ow d' =>
      simp only [hg] at h
      cases h
      obtain ⟨v', e1, u⟩ := R.read (i := j) (d := d) (by rw [cont_data, hg]; rfl)
      rw [i] at e1
      cases e1
      refine ⟨lk_one hg, u, .inl fun a e _ m => ?_⟩
      subst e
      obtain ⟨l, m1, m2⟩ := m
      have hl : j < env.length := get_lt (by rw [hg]; exact fun z => nomatch z)
      rw [get_set env j l _ hl] at m1
      by_cases e : l = j
      · rw [if_pos e] at m1; cases m1
      · rw [if_neg e] at m1
        exact e (R.one l j a ⟨muts_holds m1, m2⟩ ⟨by rw [hg]; rfl, i⟩)
    | lk d' =>
      simp only [hg] at h
      cases h
      obtain ⟨v', e1, u⟩ := R.read (i := j) (d := d) (by rw [cont_data, hg]; rfl)
      rw [i] at e1
      cases e1
      refine ⟨.refl, u, .inl fun a e _ m => ?_⟩
      subst e
      obtain ⟨l, m1, m2⟩ := m
      have e := R.one l j a ⟨muts_holds m1, m2⟩ ⟨by rw [hg]; rfl, i⟩
      subst e
      rw [hg] at m1
      cases m1
    | fz d' =>
      simp only [hg] at h
      cases h
      have z := R.ok j
      rw [hg] at z
      obtain ⟨v', e1, r⟩ := z
      have e1 := Option.join_eq_some_iff.mp e1
      rw [i] at e1
      cases e1
      exact ⟨.refl, .rep r, rep_noW r fun a m => .inr m.held⟩
/-- a list or tuple as a source -/
theorem seq_use {T : Addr → Prop} {env : Mp.Env} {σ : L2.St} {H : Hp} {Av : Addr → Prop} {d : D} {v : V} {ds : List D} (R : Rel X.prog X.w X.K T env σ H) (u : Use X.prog X.w X.K H Av d v) (h : lstD d = some ds)
    (n : NoW X H Av d v env σ) :
    ∃ k a xs, v = .ref a ∧ SqK k X.K H a xs ∧ RepL X.prog X.w X.K H Av ds xs ∧ ∀ T' env' σ' H', Go T env σ H T' env' σ' H' → SqK k X.K H' a xs := by
  unfold lstD at h
  split at h
  · cases h
    rcases n with n | ⟨a, vs, ds', e1, rfl, k, r⟩
    · obtain ⟨a, vs, rfl, h1, r⟩ := u.lst
      refine ⟨true, a, vs, rfl, h1, r, fun T' env' σ' H' g => ?_⟩
      have nm := n a rfl (.inl ⟨_, rfl⟩)
      rcases h1 with (e | ⟨o, e⟩) | h1
      · exact .inl (.inl (g.frame a _ e nm))
      · exact .inl (.inr ⟨o, g.frame a _ e nm⟩)
      · exact .inr h1
    · cases e1
      exact ⟨true, a, vs, rfl, .inr k, r, fun _ _ _ _ _ => .inr k⟩
  · cases h
    obtain ⟨a, vs, rfl, h1, r⟩ := u.tup
    exact ⟨false, a, vs, rfl, h1, r, fun T' env' σ' H' g => g.tup R a vs h1⟩
  · cases h
theorem wlk_seq {k : Bool} {T : Addr → Prop} {env : Mp.Env} {σ : L2.St} {H : Hp} {ds : List D} {vs : List V} {a : Addr} (R : Rel X.prog X.w X.K T env σ H) (r : RepL X.prog X.w X.K H (Avd T env σ) ds vs)
    (st : ∀ T' env' σ' H', Go T env σ H T' env' σ' H' → SqK k X.K H' a vs) : WlkOk X T env σ H ds (match k with | true => Itl X.K a | false => Itt X.K a) := by
  refine ⟨fun H => SqK k X.K H a vs, YAt vs, ?_, fun T' env' σ' H' g _ => st T' env' σ' H' g, fun i H1 x H2 T1 env1 σ1 d g R1 y hd => ?_⟩
  · rw [r.length]
    cases k with
    | true => exact walk_list
    | false => exact walk_tup
  · obtain ⟨rfl, hx⟩ := y
    obtain ⟨v, hv, rv⟩ := r.get hd
    rw [hx] at hv
    cases hv
    exact ⟨fun _ _ h => h, rv.step R g⟩
theorem wlk_x {T : Addr → Prop} {env : Mp.Env} {σ : L2.St} {H : Hp} {ds : List D} {ks : List V} {a : Addr} {o : Obj} (R : Rel X.prog X.w X.K T env σ H) (r : RepL X.prog X.w X.K H (Avd T env σ) ds ks)
    (h : H a = some (objAt a o)) (n : ¬ Mp.Mut env σ a) : WlkOk X T env σ H ds (ItX a o ks) := by
  refine ⟨fun H => H a = some (objAt a o), YAt ks, ⟨fun i H hi g => ⟨g, by rw [← r.length]; exact hi⟩, fun H g => ⟨g, by rw [r.length]; exact Nat.le_refl _⟩, fun i H x H' hi g y => y⟩, fun T' env' σ' H' g _ => g.frame a _ h n, fun i H1 x H2 T1 env1 σ1 d g R1 y hd => ?_⟩
  obtain ⟨rfl, hx⟩ := y
  obtain ⟨v, hv, rv⟩ := r.get hd
  rw [hx] at hv
  cases hv
  exact ⟨fun _ _ h => h, rv.step R g⟩
theorem pi_seqF (hf : EX X e f) : PI X tg e (iF X (itSeq f)) :=
  pi_imp (pi_seqK hf.pe) fun σ H R q => by
    obtain ⟨T, env, ds, is, env', R0, e, q⟩ := q
    obtain ⟨⟨r, e1⟩, h1, e⟩ := Option.bind_eq_some_iff.mp e
    obtain ⟨⟨d, is', e2⟩, h2, e⟩ := Option.bind_eq_some_iff.mp e
    obtain ⟨xs, h3, e⟩ := Option.map_eq_some_iff.mp e
    cases e
    refine ⟨T, env, r, e1, R0, h1, fun v H1 T1 g1 R1 i1 => ?_⟩
    obtain ⟨k, u, n⟩ := lock_ok i1 R1 h2
    have R2 := R1.locked k
    have av : ∀ a, Avd T1 env' σ a → Avd T1 e1 σ a := fun a => (k.avd a).mp
    dsimp only at h3
    have two : ∀ ds', lstD d = some ds' → ds = ds' → iSeqK X (fun _ H Q => Q v H) σ H1 R := fun ds' hl e => by
      subst e
      obtain ⟨b, a, vs, rfl, hk, rl, st⟩ := seq_use R2 (u.anti av) hl (n.anti av fun _ z => z)
      have wk := wlk_seq (k := b) (a := a) R2 rl st
      cases b with
      | true => exact .inl ⟨a, vs, rfl, hk, q _ H1 T1 e1 g1 R1 k R2 wk⟩
      | false => exact .inr (.inl ⟨a, vs, rfl, hk, q _ H1 T1 e1 g1 R1 k R2 wk⟩)
    unfold seqD at h3
    split at h3
    · cases h3; exact two _ rfl rfl
    · cases h3; exact two _ rfl rfl
    · cases h3
      obtain ⟨a, ps, rfl, m, rp⟩ := (u.anti av).dic
      exact .inr (.inr ⟨a, ps, rfl, m, fun o ho => q _ H1 T1 e1 g1 R1 k R2 (wlk_x R2 (repP_keys rp) ho (by rcases n with n | ⟨_, _, _, z, _⟩; exact n a rfl (.inr ⟨_, rfl⟩); cases z))⟩)
    · cases h3
/-! ### enumerate, zip -/
theorem enum_get : ∀ (ds : List D) (j i : Nat) {d : D}, (enumGo j ds)[i]? = some d → ∃ x, ds[i]? = some x ∧ d = .tuple [.int ((j + i : Nat) : Int), x]
  | [], _, _, _, h => by simp [enumGo] at h
  | x :: ds, j, 0, d, h => by simp [enumGo] at h; exact ⟨x, rfl, by rw [← h]; rfl⟩
  | x :: ds, j, i + 1, d, h => by
    have h : (enumGo (j + 1) ds)[i]? = some d := by simpa [enumGo] using h
    obtain ⟨y, h1, h2⟩ := enum_get ds (j + 1) i h
    exact ⟨y, by simpa using h1, by rw [h2]; congr 4; omega⟩
theorem enum_len : ∀ (ds : List D) (j : Nat), (enumGo j ds).length = ds.length
  | [], _ => rfl
  | x :: ds, j => by simp [enumGo, enum_len ds]
theorem pair_rep {P : Program} {w : World} {K : PySem.W.Frag} {H : Hp} {Av : Addr → Prop} {p : Addr} {x y : V} {a b : D} (n : H p = none) (h1 : Rep P w K H Av a x) (h2 : Rep P w K H Av b y) : Rep P w K (upd H p (.tup [x, y])) Av (.tuple [a, b]) (.ref p) :=
  .tup (.inl (.inl upd_same)) (.cons (keep_rep (new_keep n) h1) (.cons (keep_rep (new_keep n) h2) .nil))
theorem wlk_enum {k : Bool} {T : Addr → Prop} {env : Mp.Env} {σ : L2.St} {H : Hp} {ds : List D} {vs : List V} {a : Addr} (R : Rel X.prog X.w X.K T env σ H) (r : RepL X.prog X.w X.K H (Avd T env σ) ds vs)
    (st : ∀ T' env' σ' H', Go T env σ H T' env' σ' H' → SqK k X.K H' a vs) : WlkOk X T env σ H (enumGo 0 ds) (ItE k X.K a) := by
  refine ⟨fun H => SqK k X.K H a vs, YPair (fun i => some (.int (i : Nat))) (fun i => vs[i]?), ⟨fun i H hi g => ?_, fun H g => ⟨vs, g, by rw [enum_len, r.length]⟩, fun i H x H' hi g y => ?_⟩, fun T' env' σ' H' g _ => st T' env' σ' H' g, fun i H1 x H2 T1 env1 σ1 d g R1 y hd => ?_⟩
  · rw [enum_len, r.length] at hi
    exact ⟨vs, _, g, List.getElem?_eq_getElem hi⟩
  · obtain ⟨Tt, x', rfl, n, rfl, h⟩ := y
    exact ⟨Tt, _, x', rfl, n, rfl, rfl, h vs g⟩
  · obtain ⟨Tt, x', y', rfl, n, rfl, e1, e2⟩ := y
    obtain ⟨d', h1, rfl⟩ := enum_get ds 0 i hd
    obtain ⟨v, hv, rv⟩ := r.get h1
    cases e1
    have e2 : vs[i]? = some y' := e2
    rw [hv] at e2
    cases e2
    refine ⟨new_keep n, ?_⟩
    have e : ((0 + i : Nat) : Int) = (i : Nat) := by omega
    rw [e]
    exact pair_rep n (.int _) (rv.step R g)
theorem pi_enumF {a : Expr} {elts : List Expr} {kk : Nat} {tpos : Pos} (hg : Gl X "enumerate") (hm : X.mg "enumerate" = none) (ha : EXs X [a] [f]) (hst : isStar a = false) : PI X (.Tuple elts kk tpos) (.Call (.Name "enumerate" p) [a] [] pos) (iF X (itEnum f)) :=
  pi_imp (pi_enumK hg hm ha.pa hst) fun σ H R q => by
    obtain ⟨T, env, ds, is, env', R0, e, q⟩ := q
    obtain ⟨⟨r, e1⟩, h1, e⟩ := Option.bind_eq_some_iff.mp e
    obtain ⟨⟨d, is', e2⟩, h2, e⟩ := Option.bind_eq_some_iff.mp e
    obtain ⟨xs, h3, e⟩ := Option.map_eq_some_iff.mp e
    cases e
    refine ⟨T, env, [r], e1, R0, eAll_one h1, fun vs H1 T1 g1 R1 i1 => ?_⟩
    obtain ⟨v, us, rfl, i1, i2⟩ := i1
    cases i2
    obtain ⟨k, u, n⟩ := lock_ok i1 R1 h2
    have R2 := R1.locked k
    obtain ⟨b, a, vs, rfl, hk, rl, st⟩ := seq_use R2 (u.anti fun a => (k.avd a).mp) h3 (n.anti (fun a => (k.avd a).mp) fun _ z => z)
    exact ⟨b, a, vs, rfl, hk, q _ H1 T1 e1 g1 R1 k R2 (wlk_enum R2 rl st)⟩
theorem zip_get : ∀ (xs ys : List D) (i : Nat) {d : D}, (zipD xs ys)[i]? = some d → ∃ x y, xs[i]? = some x ∧ ys[i]? = some y ∧ d = .tuple [x, y]
  | [], _, _, _, h => by simp [zipD] at h
  | _ :: _, [], _, _, h => by simp [zipD] at h
  | x :: xs, y :: ys, 0, d, h => by simp [zipD] at h; exact ⟨x, y, rfl, rfl, h.symm⟩
  | x :: xs, y :: ys, i + 1, d, h => by
    have h : (zipD xs ys)[i]? = some d := by simpa [zipD] using h
    obtain ⟨a, b, h1, h2, h3⟩ := zip_get xs ys i h
    exact ⟨a, b, by simpa using h1, by simpa using h2, h3⟩
theorem zip_len : ∀ (xs ys : List D), (zipD xs ys).length = min xs.length ys.length
  | [], _ => by simp [zipD]
  | _ :: _, [] => by simp [zipD]
  | x :: xs, y :: ys => by simp [zipD, zip_len xs ys]
theorem pi_zipF {a b : Expr} {elts : List Expr} {kk : Nat} {tpos : Pos} (hg : Gl X "zip") (hm : X.mg "zip" = none) (ha : EXs X [a, b] [f, g]) (h1 : isStar a = false) (h2 : isStar b = false) : PI X (.Tuple elts kk tpos) (.Call (.Name "zip" p) [a, b] [] pos) (iF X (itZip f g)) :=
  pi_imp (pi_zipK hg hm ha.pa h1 h2) fun σ H R q => by
    obtain ⟨T, env, ds, is, env', R0, e, q⟩ := q
    obtain ⟨⟨r, e1⟩, h1, e⟩ := Option.bind_eq_some_iff.mp e
    obtain ⟨⟨r2, e2⟩, h2, e⟩ := Option.bind_eq_some_iff.mp e
    obtain ⟨⟨d, is1, e3⟩, h3, e⟩ := Option.bind_eq_some_iff.mp e
    obtain ⟨⟨d2, is2, e4⟩, h4, e⟩ := Option.bind_eq_some_iff.mp e
    obtain ⟨xs, h5, e⟩ := Option.bind_eq_some_iff.mp e
    obtain ⟨ys, h6, e⟩ := Option.map_eq_some_iff.mp e
    cases e
    refine ⟨T, env, [r, r2], e2, R0, eAll_two h1 h2, fun vs H1 T1 g1 R1 i1 => ?_⟩
    obtain ⟨v, us, rfl, i1, i2⟩ := i1
    obtain ⟨v2, us, rfl, i2, i3⟩ := i2
    cases i3
    obtain ⟨k, u, n⟩ := lock_ok i1 R1 h3
    have R2 := R1.locked k
    have i2' : InF X.prog X.w X.K (newOf T r v) T1 e3 σ H1 r2 v2 := by
      cases r2 with
      | val d => exact Rep.anti i2 fun a => (k.avd a).mp
      | plc j => exact i2
      | new d => obtain ⟨a, e, t, n, o⟩ := i2; exact ⟨a, e, t, n, o.anti fun a => (k.avd a).mp⟩
    obtain ⟨k2, u2, n2⟩ := lock_ok i2' R2 h4
    have R3 := R2.locked k2
    have kk := k.trans k2
    obtain ⟨b1, a1, vs1, rfl, hk1, rl1, st1⟩ := seq_use R3 (u.anti fun a => (kk.avd a).mp) h5 (n.anti (fun a => (kk.avd a).mp) fun a z => k2.mut z)
    obtain ⟨b2, a2, vs2, rfl, hk2, rl2, st2⟩ := seq_use R3 (u2.anti fun a => (k2.avd a).mp) h6 (n2.anti (fun a => (k2.avd a).mp) fun _ z => z)
    refine ⟨b1, b2, a1, a2, vs1, vs2, rfl, hk1, hk2, q _ H1 T1 e2 g1 R1 kk R3 ?_⟩
    refine ⟨fun H => SqK b1 X.K H a1 vs1 ∧ SqK b2 X.K H a2 vs2, YPair (fun i => vs1[i]?) (fun i => vs2[i]?), ⟨fun i H hi g => ?_, fun H g => ⟨vs1, vs2, g.1, g.2, by rw [zip_len, rl1.length, rl2.length]⟩, fun i H x H' hi g y => ?_⟩, fun T' env' σ' H' g _ => ⟨st1 T' env' σ' H' g, st2 T' env' σ' H' g⟩, fun i H1 x H2 T1 env1 σ1 d g R1 y hd => ?_⟩
    · rw [zip_len, rl1.length, rl2.length] at hi
      have l1 : i < vs1.length := by omega
      have l2 : i < vs2.length := by omega
      exact ⟨vs1, vs2, _, _, g.1, g.2, List.getElem?_eq_getElem l1, List.getElem?_eq_getElem l2⟩
    · obtain ⟨Tt, x', y', rfl, n, rfl, h, h'⟩ := y
      exact ⟨Tt, x', y', rfl, n, rfl, h vs1 g.1, h' vs2 g.2⟩
    · obtain ⟨Tt, x', y', rfl, n, rfl, e1, e2⟩ := y
      obtain ⟨dx, dy, z1, z2, rfl⟩ := zip_get xs ys i hd
      obtain ⟨v, hv, rv⟩ := rl1.get z1
      obtain ⟨v', hv', rv'⟩ := rl2.get z2
      have e1 : vs1[i]? = some x' := e1
      have e2 : vs2[i]? = some y' := e2
      rw [hv] at e1
      rw [hv'] at e2
      cases e1
      cases e2
      exact ⟨new_keep n, pair_rep n (rv.step R3 g) (rv'.step R3 g)⟩
end
end Mp

/-! Mp26: for; list comprehensions. -/
namespace Mp
open PySem PySem.Spec PyProof.Rows L2
section
variable {X : Cx} {tg iter : Expr} {it : ItF} {g : TgF} {k : StF} {body : List Stmt} {pos : Pos}
theorem drop_cons {α : Type} {l : List α} {i : Nat} (h : i < l.length) : l.drop i = l[i] :: l.drop (i + 1) := List.drop_eq_getElem_cons h
theorem for_ok {D : Ends} {σ : L2.St} {H : Hp} (q : xS X (sFor g it k) D σ H) : tFor (iF X it) (xG X any g) (xS X k) D σ H := by
  obtain ⟨T, env, fl, env', R0, e, q⟩ := q
  obtain ⟨⟨ds, is, envL⟩, h1, e⟩ := Option.bind_eq_some_iff.mp e
  obtain ⟨⟨fl2, envE⟩, h2, e⟩ := Option.map_eq_some_iff.mp e
  cases e
  refine ⟨T, env, ds, is, envL, R0, h1, fun J H1 T1 env1 g1 R1 lk R2 wk => ?_⟩
  obtain ⟨G, Y, W, st, yl⟩ := wk
  have fin_nx : fl2 = .nx → ∀ σ' H', Go T1 envL σ H1 T1 envE σ' H' → Rel X.prog X.w X.K T1 envE σ' H' → D.nx σ' H' := fun hf σ' H' g' R' => by
    subst hf
    have g2 := g1.trans (g'.unlocked lk)
    exact q σ' H' g2.drop ((R'.unlocked (unlk_un is envE)).drop g2)
  refine for_it W (Pv := fun i σ' H' => ∃ envi, Go T1 envL σ H1 T1 envi σ' H' ∧ Rel X.prog X.w X.K T1 envi σ' H' ∧ forGo g k (ds.drop i) envi = some (fl2, envE)) ⟨envL, .refl, R2, h2⟩
    (fun i σ' H' _ ⟨envi, gi, Ri, _⟩ => st _ _ _ _ gi Ri) (fun i x σ' H' H2 hi ⟨envi, gi, Ri, ei⟩ y => ?_) (fun σ' H' ⟨envi, gi, Ri, ei⟩ => ?_)
  · obtain ⟨kp, rx⟩ := yl i H' x H2 T1 envi σ' _ gi Ri y (List.getElem?_eq_getElem hi)
    rw [drop_cons hi] at ei
    obtain ⟨e1, k1, ei⟩ := Option.bind_eq_some_iff.mp ei
    obtain ⟨⟨fl1, e2⟩, k2, ei⟩ := Option.bind_eq_some_iff.mp ei
    have gk := gi.trans (Go.kept kp)
    refine ⟨T1, envL, σ, H1, T1, envi, .val ds[i], e1, gk, Ri.kept kp, rx, k1, fun σ2 H3 T' _ g2 R3 _ _ => ?_⟩
    refine ⟨T1, e1, fl1, e2, R3.drop g2, k2, ?_⟩
    cases fl1 with
    | nx => exact fun σ3 H4 g3 R4 => ⟨e2, g2.drop.trans g3, R4, ei⟩
    | ct => exact fun σ3 H4 g3 R4 => ⟨e2, g2.drop.trans g3, R4, ei⟩
    | bk => cases ei; exact fun σ3 H4 g3 R4 => fin_nx rfl σ3 H4 (g2.drop.trans g3) R4
    | rt b d =>
      cases ei
      intro v σ3 H4 T3 g3 R4 i4
      have g4 : GoR T env σ H T3 (unlk is e2) σ3 H4 := GoR.pre g1 (GoR.unlocked lk (GoR.pre g2.drop g3))
      have u := unlk_un is e2
      exact q v σ3 H4 T3 g4 (R4.unlocked u) ((i4.unlocked u).base g1.sub)
  · rw [List.drop_length] at ei
    cases ei
    exact fin_nx rfl σ' H' gi Ri
theorem st_for (hp : PassesOwn (model X.prog X.w) X.A X.env X.xe) (hc : X.calm = true) (hi : PI X tg iter (iF X it)) (hg : PG X tg (xG X any g)) (hb : PSs X body (xS X k)) (hs : ∀ x, foldedSetIterable iter X.env x = pure x) :
    PS X (.For tg iter body [] pos) (xS X (sFor g it k)) := ps_imp (ps_for hp hc hi hg hb hs) fun D σ H q => for_ok q
end

/-! ### a block's own names -/
theorem get_wipe (env : Mp.Env) (j : Nat) : ∀ own : List Nat, get (wipeE env own) j = if j ∈ own then .un else get env j
  | [] => by simp [wipeE]
  | v :: vs => by
    have ih := get_wipe env j vs
    show get ((wipeE env vs).set v .un) j = _
    by_cases hl : v < (wipeE env vs).length
    · rw [get_set _ v j _ hl]
      by_cases e : j = v
      · rw [if_pos e, if_pos (by simp [e])]
      · rw [if_neg e, ih]
        by_cases h : j ∈ vs
        · rw [if_pos h, if_pos (by simp [h])]
        · rw [if_neg h, if_neg (by simp [h, e])]
    · rw [List.set_eq_of_length_le (by omega), ih]
      by_cases h : j ∈ vs
      · rw [if_pos h, if_pos (by simp [h])]
      · by_cases e : j = v
        · rw [if_neg h, if_pos (by simp [e])]
          have := ih
          rw [if_neg h] at this
          rw [← this]
          unfold get
          rw [List.getD_eq_getElem?_getD, List.getElem?_eq_none (by omega)]
          rfl
        · rw [if_neg h, if_neg (by simp [h, e])]
theorem wipeE_length (env : Mp.Env) : ∀ own : List Nat, (wipeE env own).length = env.length
  | [] => rfl
  | v :: vs => by show ((wipeE env vs).set v .un).length = _; rw [List.length_set, wipeE_length env vs]
theorem wipe_in (σ : L2.St) (j : Nat) : ∀ vs : List Nat, j ∈ vs → (wipe σ vs)[j]? = if j < σ.length then some none else none
  | [], h => by cases h
  | v :: vs, h => by
    show ((wipe σ vs).set v none)[j]? = _
    by_cases e : v = j
    · subst e
      by_cases hl : v < σ.length
      · rw [List.getElem?_set_self (by rw [wipe_length]; exact hl), if_pos hl]
      · rw [List.getElem?_eq_none (by rw [List.length_set, wipe_length]; omega), if_neg hl]
    · rw [List.getElem?_set_ne e]
      rcases List.mem_cons.mp h with h | h
      · exact absurd h.symm e
      · exact wipe_in σ j vs h
theorem wipe_eq {σ σ2 : L2.St} {own : List Nat} (hl : σ2.length = (wipe σ own).length) (h : ∀ j, ¬ j ∈ own → σ2[j]? = (wipe σ own)[j]?) : wipe σ2 own = wipe σ own := by
  rw [wipe_length] at hl
  apply List.ext_getElem?
  intro j
  by_cases hj : j ∈ own
  · rw [wipe_in σ2 j own hj, wipe_in σ j own hj, hl]
  · rw [wipe_out hj, h j hj]
theorem back_length (env : Mp.Env) : ∀ (own : List Nat) (e : Mp.Env), (back env own e).length = e.length
  | [], _ => rfl
  | v :: vs, e => by
    show (back env vs (e.set v (get env v))).length = _
    rw [back_length env vs, List.length_set]
theorem get_back (env : Mp.Env) (j : Nat) : ∀ (own : List Nat) (e : Mp.Env), e.length = env.length → get (back env own e) j = if j ∈ own then get env j else get e j
  | [], e, _ => by simp [back]
  | v :: vs, e, hl => by
    show get (back env vs (e.set v (get env v))) j = _
    rw [get_back env j vs _ (by rw [List.length_set]; exact hl)]
    by_cases h : j ∈ vs
    · rw [if_pos h, if_pos (by simp [h])]
    · rw [if_neg h]
      by_cases hv : v < e.length
      · rw [get_set e v j _ hv]
        by_cases q : j = v
        · rw [if_pos q, if_pos (by simp [q]), q]
        · rw [if_neg q, if_neg (by simp [q, h])]
      · rw [List.set_eq_of_length_le (by omega)]
        by_cases q : j = v
        · rw [if_pos (by simp [q])]
          subst q
          unfold get
          rw [List.getD_eq_getElem?_getD, List.getElem?_eq_none (by omega), List.getD_eq_getElem?_getD, List.getElem?_eq_none (by omega)]
        · rw [if_neg (by simp [q, h])]
theorem free_holds {own : List Nat} {env : Mp.Env} (h : own.all (free env) = true) {j : Nat} (hj : j ∈ own) : (get env j).holds = false ∧ (get env j).muts = false ∧ (∀ d, get env j ≠ .lk d) ∧ ∀ d, get env j ≠ .rf d := by
  have q := List.all_eq_true.mp h j hj
  unfold free at q
  cases g : get env j with
  | un => exact ⟨rfl, rfl, fun _ z => (nomatch z), fun _ z => (nomatch z)⟩
  | fz d => exact ⟨rfl, rfl, fun _ z => (nomatch z), fun _ z => (nomatch z)⟩
  | ow d => rw [g] at q; cases q
  | lk d => rw [g] at q; cases q
  | rf d => rw [g] at q; cases q
theorem free_back {own : List Nat} {env e : Mp.Env} (h : own.all (free env) = true) (hl : e.length = env.length) : own.all (free (back env own e)) = true := by
  refine List.all_eq_true.mpr fun j hj => ?_
  have q := List.all_eq_true.mp h j hj
  unfold free at q ⊢
  rw [get_back env j own e hl, if_pos hj]
  exact q
section
variable {P : Program} {w : World} {K : PySem.W.Frag} {T : Addr → Prop} {env e : Mp.Env} {σ σ2 : L2.St} {H H2 : Hp} {own : List Nat}
theorem wipe_held (fr : own.all (free env) = true) (a : Addr) : Held (wipeE env own) (wipe σ own) a ↔ Held env σ a := by
  constructor
  · rintro ⟨j, h1, h2⟩
    rw [get_wipe] at h1
    by_cases hj : j ∈ own
    · rw [if_pos hj] at h1; cases h1
    · rw [if_neg hj] at h1; rw [wipe_out hj] at h2; exact ⟨j, h1, h2⟩
  · rintro ⟨j, h1, h2⟩
    by_cases hj : j ∈ own
    · rw [(free_holds fr hj).1] at h1; cases h1
    · exact ⟨j, by rw [get_wipe, if_neg hj]; exact h1, by rw [wipe_out hj]; exact h2⟩
theorem wipe_mut (fr : own.all (free env) = true) (a : Addr) : Mp.Mut (wipeE env own) (wipe σ own) a ↔ Mp.Mut env σ a := by
  constructor
  · rintro ⟨j, h1, h2⟩
    rw [get_wipe] at h1
    by_cases hj : j ∈ own
    · rw [if_pos hj] at h1; cases h1
    · rw [if_neg hj] at h1; rw [wipe_out hj] at h2; exact ⟨j, h1, h2⟩
  · rintro ⟨j, h1, h2⟩
    by_cases hj : j ∈ own
    · rw [(free_holds fr hj).2.1] at h1; cases h1
    · exact ⟨j, by rw [get_wipe, if_neg hj]; exact h1, by rw [wipe_out hj]; exact h2⟩
theorem wipe_avd (fr : own.all (free env) = true) (a : Addr) : Avd T (wipeE env own) (wipe σ own) a ↔ Avd T env σ a := by unfold Avd; rw [wipe_held fr]
theorem Rel.wiped (fr : own.all (free env) = true) (R : Rel P w K T env σ H) : Rel P w K T (wipeE env own) (wipe σ own) H where
  len := by rw [wipeE_length, wipe_length]; exact R.len
  ok := fun j => by
    rw [get_wipe]
    by_cases hj : j ∈ own
    · rw [if_pos hj]; trivial
    · rw [if_neg hj, wipe_out hj]
      exact (R.ok j).sw fun a => (wipe_avd fr a).mp
  one := fun i j a h1 h2 => by
    have key : ∀ i, Hld (wipeE env own) (wipe σ own) i a → Hld env σ i a := fun i h => by
      obtain ⟨h1, h2⟩ := h
      rw [get_wipe] at h1
      by_cases hj : i ∈ own
      · rw [if_pos hj] at h1; cases h1
      · rw [if_neg hj] at h1; rw [wipe_out hj] at h2; exact ⟨h1, h2⟩
    exact R.one i j a (key i h1) (key j h2)
  apart := fun a h1 h2 => R.apart a h1 ((wipe_held fr a).mp h2)
  there := R.there
/-- behind a turn -/
theorem back_ok (fr : own.all (free env) = true) (R0 : Rel P w K T env σ H) (g : Go T (wipeE env own) (wipe σ own) H T e σ2 H2) (R2 : Rel P w K T e σ2 H2) (hw : wipe σ2 own = wipe σ own) :
    Go T env σ H T (back env own e) σ H2 ∧ Rel P w K T (back env own e) σ H2 ∧ ∀ a, Avd T (back env own e) σ a → Avd T e σ2 a := by
  have hl2 : σ2.length = σ.length := by have := congrArg List.length hw; rw [wipe_length, wipe_length] at this; exact this
  have hle : e.length = env.length := by rw [R2.len, R0.len, hl2]
  have so : ∀ j, ¬ j ∈ own → σ2[j]? = σ[j]? := fun j hj => by rw [← wipe_out (σ := σ2) hj, hw, wipe_out hj]
  have gb : ∀ j, get (back env own e) j = if j ∈ own then get env j else get e j := fun j => get_back env j own e hle
  have hld : ∀ j a, Hld (back env own e) σ j a → ¬ j ∈ own ∧ Hld e σ2 j a := fun j a h => by
    obtain ⟨h1, h2⟩ := h
    rw [gb] at h1
    by_cases hj : j ∈ own
    · rw [if_pos hj, (free_holds fr hj).1] at h1; cases h1
    · rw [if_neg hj] at h1; exact ⟨hj, h1, by rw [so j hj]; exact h2⟩
  have held : ∀ a, Held (back env own e) σ a → Held e σ2 a := fun a ⟨j, h⟩ => ⟨j, (hld j a h).2⟩
  have mut' : ∀ a, Mp.Mut (back env own e) σ a → Mp.Mut e σ2 a := fun a h => by
    obtain ⟨j, h1, h2⟩ := h
    rw [gb] at h1
    by_cases hj : j ∈ own
    · rw [if_pos hj, (free_holds fr hj).2.1] at h1; cases h1
    · rw [if_neg hj] at h1; exact ⟨j, h1, by rw [so j hj]; exact h2⟩
  have av : ∀ a, Avd T (back env own e) σ a → Avd T e σ2 a := fun a h => h.imp id (held a)
  have G : Go T env σ H T (back env own e) σ H2 := by
    refine ⟨fun a o h n => g.frame a o h fun m => n ((wipe_mut fr a).mp m), g.there, fun a h => (g.muts a (mut' a h)).imp (wipe_mut fr a).mp id, fun a h => (g.held a (held a h)).imp (wipe_held fr a).mp id, fun j d h => ?_, fun j d h => ?_, fun _ h => h, fun _ h => .inl h⟩
    · rw [gb] at h
      by_cases hj : j ∈ own
      · rw [if_pos hj] at h; exact absurd h ((free_holds fr hj).2.2.1 d)
      · rw [if_neg hj] at h
        have k := (g.lks j d h).1
        rw [get_wipe, if_neg hj] at k
        exact ⟨k, rfl⟩
    · rw [gb] at h
      by_cases hj : j ∈ own
      · rw [if_pos hj] at h; exact absurd h ((free_holds fr hj).2.2.2 d)
      · rw [if_neg hj] at h
        obtain ⟨d', k⟩ := (g.rfs j d h).1
        rw [get_wipe, if_neg hj] at k
        exact ⟨⟨d', k⟩, rfl⟩
  refine ⟨G, ⟨by rw [back_length, hle, R0.len], fun j => ?_, fun i j a h1 h2 => R2.one i j a (hld i a h1).2 (hld j a h2).2, fun a h1 h2 => R2.apart a h1 (held a h2), R2.there⟩, av⟩
  rw [gb]
  by_cases hj : j ∈ own
  · rw [if_pos hj]
    have q := R0.ok j
    have z := List.all_eq_true.mp fr j hj
    unfold free at z
    cases gg : get env j with
    | un => exact trivial
    | fz d =>
      rw [gg] at q
      obtain ⟨v, e1, r⟩ := q
      exact ⟨v, e1, r.step R0 G⟩
    | ow d => rw [gg] at z; cases z
    | lk d => rw [gg] at z; cases z
    | rf d => rw [gg] at z; cases z
  · rw [if_neg hj, ← so j hj]
    exact (R2.ok j).sw av
end
section
variable {X : Cx} {tg iter elt : Expr} {it : ItF} {g : TgF} {f : EvF} {ifs : List Expr} {fs : List EvF} {own : List Nat} {pos : Pos}
theorem lc_ok {σ : L2.St} {H : Hp} {Q : VK} (q : xF X (eLc own g it fs f) σ H Q) : tLc (iF X it) (xG X (· ∈ own) g) (xT X (tsts fs)) (xF X f) own σ H Q := by
  obtain ⟨T, env, r, env', R0, e, q⟩ := q
  obtain ⟨⟨ds, is, envL⟩, h1, e⟩ := Option.bind_eq_some_iff.mp e
  dsimp only at e
  split at e
  · rename_i hz
    have hz := Bool.and_eq_true_iff.mp hz
    obtain ⟨⟨ys, envE⟩, h2, e⟩ := Option.map_eq_some_iff.mp e
    cases e
    refine ⟨T, env, ds, is, envL, R0, h1, fun J H1 T1 env1 g1 R1 lk R2 wk D hD => ?_⟩
    obtain ⟨G, Y, W, st, yl⟩ := wk
    have R3 : Rel X.prog X.w X.K (plus T1 D) envL σ (upd H1 D (.lst [])) := R2.fresh hD
    have g3 : Go T1 envL σ H1 (plus T1 D) envL σ (upd H1 D (.lst [])) := Go.fresh hD
    have tD : plus T1 D D := .inr rfl
    refine lc_it W (Pv := fun i H' => ∃ envi acc vs rest, Go T1 envL σ H1 (plus T1 D) envi σ H' ∧ Rel X.prog X.w X.K (plus T1 D) envi σ H' ∧ H' D = some (.lst vs) ∧ RepL X.prog X.w X.K H' (Avd (plus T1 D) envi σ) acc vs ∧
      acc.length ≤ i ∧ lcGo own g fs f (ds.drop i) envi = some (rest, envE) ∧ ys = acc ++ rest ∧ own.all (free envi) = true) ⟨envL, [], [], ys, g3, R3, upd_same, .nil, Nat.le_refl _, h2, rfl, hz.2⟩
      (fun i H' _ ⟨envi, acc, vs, rest, gi, Ri, _⟩ => st _ _ _ _ gi Ri) (fun i x H' H2 hi ⟨envi, acc, vs, rest, gi, Ri, hd, ra, hla, ei, hy, fr⟩ y => ?_) (fun H' ⟨envi, acc, vs, rest, gi, Ri, hd, ra, hla, ei, hy, fr⟩ => ?_)
    · obtain ⟨kp, rx⟩ := yl i H' x H2 _ envi σ _ gi Ri y (List.getElem?_eq_getElem hi)
      rw [drop_cons hi] at ei
      obtain ⟨e1, k1, ei⟩ := Option.bind_eq_some_iff.mp ei
      obtain ⟨⟨b, e2⟩, k2, ei⟩ := Option.bind_eq_some_iff.mp ei
      have Rk := Ri.kept kp
      have Rw := Rk.wiped fr
      have gk : Go (plus T1 D) envi σ H' (plus T1 D) envi σ H2 := Go.kept kp
      refine ⟨plus T1 D, wipeE envi own, wipe σ own, H2, plus T1 D, wipeE envi own, .val ds[i], e1, .refl, Rw, Rep.anti rx fun a => (wipe_avd fr a).mp, k1, fun σ2 H3 T' dd g2 Re _ _ => ?_⟩
      have hw : wipe σ2 own = wipe σ own := wipe_eq dd.1 dd.2
      refine ⟨hw, plus T1 D, e1, b, e2, Re.drop g2, k2, fun H4 g4 R4 => ?_⟩
      have g24 := g2.drop.trans g4
      cases b with
      | false =>
        show (if (false : Bool) = true then _ else _)
        rw [if_neg (by decide)]
        rw [if_neg (show ¬ ((false : Bool) = true) from fun z => nomatch z)] at ei
        obtain ⟨gb, Rb, av⟩ := back_ok fr Rk g24 R4 hw
        have gt := gk.trans gb
        refine ⟨_, acc, vs, rest, gi.trans gt, Rb, gt.frame D _ hd (Ri.noMut tD), ra.step Ri gt, by omega, ei, hy, free_back fr (by rw [R4.len, dd.1, wipe_length, Ri.len])⟩
      | true =>
        show (if (true : Bool) = true then _ else _)
        rw [if_pos rfl]
        rw [if_pos (show (true : Bool) = true from rfl)] at ei
        obtain ⟨⟨r5, e5⟩, k5, ei⟩ := Option.bind_eq_some_iff.mp ei
        obtain ⟨⟨d6, e6⟩, k6, ei⟩ := Option.bind_eq_some_iff.mp ei
        obtain ⟨⟨rest', e7⟩, k7, ei⟩ := Option.bind_eq_some_iff.mp ei
        cases ei
        refine ⟨plus T1 D, e2, r5, e5, R4, k5, fun v H5 T5 g5 R5 i5 => ?_⟩
        have s6 := take_sub k6
        obtain ⟨R6, r6⟩ := take_ok i5 R5 k6
        have g25 := (g24.trans g5).less s6 (fun a => less_sub (r := r5) (v := v)) fun a h => less_base i5 g5.sub h
        have g26 := g25.drop
        have R7 : Rel X.prog X.w X.K (plus T1 D) e6 σ2 H5 := R6.less .refl fun a h => less_base i5 g5.sub h
        have r7 : Rep X.prog X.w X.K H5 (Avd (plus T1 D) e6 σ2) d6 v := r6.anti fun a h => h.imp (less_base i5 g5.sub) id
        obtain ⟨gb, Rb, av⟩ := back_ok fr Rk g26 R7 hw
        have gt := gk.trans gb
        have hd5 : H5 D = some (.lst vs) := gt.frame D _ hd (Ri.noMut tD)
        have mu : IsMut H5 D := .inl ⟨vs, hd5⟩
        have ra5 := (ra.step Ri gt).append (.cons (r7.anti av) .nil)
        have hlen : acc.length < sizeLine := by
          have := okN_le hz.1
          omega
        refine ⟨vs, hd5, by rw [← ra.length]; exact hlen, _, acc ++ [d6], vs ++ [v], rest', ?_, Rb.writeT tD mu, upd_same, ra5.writeT tD mu, by rw [List.length_append, List.length_singleton]; omega, k7, by rw [hy, List.append_assoc]; rfl, free_back fr (by rw [R7.len, dd.1, wipe_length, Ri.len])⟩
        exact (gi.trans gt).writeT hD
    · rw [List.drop_length] at ei
      cases ei
      have gu := Go.unlocked lk gi
      have u := unlk_un is envE
      refine q (.ref D) H' (plus T1 D) (g1.trans gu) (Ri.unlocked u) ⟨D, rfl, tD, fun t => R1.there D (g1.sub D t) hD, ?_⟩
      rw [hy, List.append_nil]
      exact .lst hd (ra.anti fun a => (u.avd a).mp)
  · cases e
end
end Mp

/-! Mp27: list comprehensions, as values and stored. -/
namespace Mp
open PySem PySem.Spec PyProof.Rows L2
section
variable {X : Cx} {tg iter elt c : Expr} {it : ItF} {g : TgF} {f : EvF} {ifs : List Expr} {fs : List EvF} {own : List (Str × Nat)} {pos : Pos} {scope : Scope}
theorem pts_nilF : PTs X [] (xT X (tsts [])) := ⟨fun pins s σ H Q I q => pts_nil.run pins s σ H Q I (by
  obtain ⟨T, env, b, env', R, e, q⟩ := q
  cases e
  exact q H .refl R)⟩
theorem tsts_one {env env' : Mp.Env} {b : Bool} (e : tsts [f] env = some (b, env')) : tst f env = some (b, env') := by
  obtain ⟨⟨c, e1⟩, h1, e⟩ := Option.bind_eq_some_iff.mp e
  cases c with
  | true =>
    rw [if_pos (show (true : Bool) = true from rfl)] at e
    cases e
    exact h1
  | false =>
    rw [if_neg (show ¬ ((false : Bool) = true) from fun z => nomatch z)] at e
    cases e
    exact h1
theorem pts_oneF (h : EX X c f) : PTs X [c] (xT X (tsts [f])) := ⟨fun pins s σ H Q I q => (pts_one h.pt).run pins s σ H Q I (by
  obtain ⟨T, env, b, env', R, e, q⟩ := q
  exact ⟨T, env, b, env', R, tsts_one e, q⟩)⟩
/-- what a block's parts must keep, wherever it runs -/
structure BlkX (X : Cx) (scope : Scope) (Pr : Cx → Prop) : Prop where
  run : ∀ (s : Shared) (H : Hp) (C : Addr) (cl : List (Str × Addr)) (fp : List Addr), Pr (X.blk s H scope (compEnvC scope cl C X.env) fp)
theorem ex_lc (hc : X.calm = true) (hN : X.N.Nodup) (hi : PI X tg iter (iF X it)) (ok : BlkOk X.N X.env.scope scope own) (hg : BlkX X scope fun Y => PG Y tg (xG Y (· ∈ own.map (·.2)) g)) (ht : BlkX X scope fun Y => PTs Y ifs (xT Y (tsts fs)))
    (he : BlkX X scope fun Y => EX Y elt f) (hs : ∀ x, foldedSetIterable iter X.env x = pure x) : EX X (.ListComp elt [⟨tg, iter, ifs, 0⟩] scope pos) (eLc (own.map (·.2)) g it fs f) :=
  .ofVal (pe_imp (pe_lc hc hN hi ok hg.run ht.run (fun s H C cl fp => (he.run s H C cl fp).pe) hs) fun σ H Q q => lc_ok q) (fun _ => rfl) (fun _ _ _ h => nomatch h)
theorem tF_mono {σ : L2.St} {H : Hp} {Q Q' : VK} (h : xF X f σ H Q) (i : ∀ v H', Q v H' → Q' v H') : xF X f σ H Q' := by
  obtain ⟨T, env, r, env', R, e, q⟩ := h
  exact ⟨T, env, r, env', R, e, fun v H' T' g R' j => i _ _ (q v H' T' g R' j)⟩
theorem swaps_lc {t : Str} {tp spos : Pos} {gens : List Comprehension} : swapsWith (.ListComp elt gens scope pos) (some (.Name t tp)) spos.line X.env =
    pure (X.env.blockKind == .function && X.env.kindOf t == some .local && tp.line == pos.line && !(scope.names.any fun (n, k) => n == t && (k == .local || k == .cell))) := rfl
theorem st_asgLc {x : Str} {xp spos : Pos} {i : Nat} (hx : X.N[i]? = some x) (hl : Loc X.env.scope x) (hf : X.fn x = true ∨ X.env.scope.names.lookup x = some .local) (hc : X.calm = true) (hN : X.N.Nodup) (hi : PI X tg iter (iF X it)) (ok : BlkOk X.N X.env.scope scope own)
    (hg : BlkX X scope fun Y => PG Y tg (xG Y (· ∈ own.map (·.2)) g)) (ht : BlkX X scope fun Y => PTs Y ifs (xT Y (tsts fs))) (he : BlkX X scope fun Y => EX Y elt f) (hs : ∀ x, foldedSetIterable iter X.env x = pure x) :
    PS X (.Assign [.Name x xp] (.ListComp elt [⟨tg, iter, ifs, 0⟩] scope pos) spos) (xS X (sAsg (gNm i) (eLc (own.map (·.2)) g it fs f))) := by
  have hsw := swaps_lc (X := X) (elt := elt) (scope := scope) (pos := pos) (t := x) (tp := xp) (spos := spos) (gens := [⟨tg, iter, ifs, 0⟩])
  cases hb : (X.env.blockKind == .function && X.env.kindOf x == some .local && xp.line == pos.line && !(scope.names.any fun (n, k) => n == x && (k == .local || k == .cell))) with
  | true =>
    rw [hb] at hsw
    have hb := Bool.and_eq_true_iff.mp hb
    have hb1 := Bool.and_eq_true_iff.mp hb.1
    have hb2 := Bool.and_eq_true_iff.mp hb1.1
    have hlo : X.env.scope.names.lookup x = some .local := by
      have := hb2.2
      exact (by simpa using this : X.env.kindOf x = some .local)
    exact ps_imp (ps_setLc hc hN hx hlo hsw hi ok hg.run ht.run (fun s H C cl fp => (he.run s H C cl fp).pe) hs) fun D σ H q => lc_ok (tF_mono (asg_ok q) fun v H' z => gNm_ok trivial z)
  | false =>
    rw [hb] at hsw
    exact ps_imp (ps_asg (ex_lc hc hN hi ok hg ht he hs).pe (pg_nm (S := any) trivial hN hx hl hf) hsw rfl rfl) fun D σ H q => asg_ok q
end
end Mp

/-! Mp28: the call of a def: what the caller hands over and what comes back. -/
namespace Mp
open PySem PySem.Spec PyProof.Rows L2
/-- what the lent ones hold behind a call -/
def endE : List Bool → List D → Mp.Env
  | true :: bs, d :: ds => .rf d :: endE bs ds
  | true :: bs, [] => .un :: endE bs []
  | false :: bs, ds => .un :: endE bs ds
  | [], _ => []
section
variable (P : Program) (w : World) (K : PySem.W.Frag)
/-- the promise of a def, by its oracle -/
def spF (call : Call) (lent : List Bool) (x : Str) : Sp := fun vs H Q _ => ∃ T args b d outs, call x args = some (b, d, outs) ∧ args.length = lent.length ∧ vs.length = lent.length ∧ Rel P w K T (Mp.start lent args) (vs.map some) H ∧
  ∀ v H' T', GoR T (Mp.start lent args) (vs.map some) H T' (endE lent outs) (vs.map some) H' → Rel P w K T' (endE lent outs) (vs.map some) H' → InF P w K T T' (endE lent outs) (vs.map some) H' (resOf b d) v → Q v H'
end
/-! ### positions -/
theorem get_nil (i : Nat) : get [] i = .un := rfl
theorem get_zero (s : Slot) (env : Mp.Env) : get (s :: env) 0 = s := rfl
theorem get_succ (s : Slot) (env : Mp.Env) (i : Nat) : get (s :: env) (i + 1) = get env i := rfl
theorem start_get : ∀ (lent : List Bool) (args : List D) (m : Nat), get (Mp.start lent args) m = match lent[m]?, args[m]? with
    | some b, some d => if b then .rf d else .fz d
    | _, _ => .un
  | [], args, m => by simp [Mp.start, get]
  | b :: bs, [], m => by
    have : Mp.start (b :: bs) [] = [] := rfl
    rw [this, get_nil]
    cases (b :: bs)[m]? <;> rfl
  | b :: bs, d :: ds, 0 => rfl
  | b :: bs, d :: ds, m + 1 => by
    have ih := start_get bs ds m
    show get (Mp.start bs ds) m = _
    rw [ih]
    rfl
theorem start_len {lent : List Bool} {args : List D} (h : args.length = lent.length) : (Mp.start lent args).length = lent.length := by
  unfold Mp.start
  rw [List.length_zipWith, h, Nat.min_self]
section
variable {P : Program} {w : World} {K : PySem.W.Frag} {T T1 : Addr → Prop} {env e1 e2 e3 : Mp.Env} {σ : L2.St} {H H1 : Hp}
theorem argsOf_len : ∀ {rs : List Res} {lent : List Bool} {ds : List D}, argsOf e1 rs lent = some ds → rs.length = lent.length ∧ ds.length = lent.length
  | [], [], ds, h => by cases h; exact ⟨rfl, rfl⟩
  | [], _ :: _, _, h => by cases h
  | _ :: _, [], _, h => by cases h
  | r :: rs, b :: bs, ds, h => by
    obtain ⟨d, _, h⟩ := Option.bind_eq_some_iff.mp h
    obtain ⟨ds', h1, rfl⟩ := Option.map_eq_some_iff.mp h
    obtain ⟨a1, a2⟩ := argsOf_len h1
    exact ⟨by rw [List.length_cons, List.length_cons, a1], by rw [List.length_cons, List.length_cons, a2]⟩
/-- what stands at a position -/
structure ArgAt (P : Program) (w : World) (K : PySem.W.Frag) (T T1 : Addr → Prop) (e1 : Mp.Env) (σ : L2.St) (H1 : Hp) (r : Res) (b : Bool) (d : D) (v : V) : Prop where
  lent : b = true → ∃ i, r = .plc i ∧ (get e1 i = .ow d ∨ get e1 i = .rf d)
  kept : b = false → deref e1 r = some d
  inf : InF P w K T T1 e1 σ H1 r v
theorem args_at : ∀ {rs : List Res} {lent : List Bool} {ds : List D} {vs : List V} {T : Addr → Prop}, argsOf e1 rs lent = some ds → InFs P w K T T1 e1 σ H1 rs vs → ∀ (m : Nat) (b : Bool) (d : D), lent[m]? = some b → ds[m]? = some d →
    ∃ r v, rs[m]? = some r ∧ vs[m]? = some v ∧ ArgAt P w K T T1 e1 σ H1 r b d v
  | [], [], ds, vs, T, h, i, m, b, d, h1, h2 => by simp at h1
  | [], _ :: _, _, _, _, h, _, _, _, _, _, _ => by cases h
  | _ :: _, [], _, _, _, h, _, _, _, _, _, _ => by cases h
  | r :: rs, c :: bs, ds, vs, T, h, i, m, b, d, h1, h2 => by
    obtain ⟨v, us, rfl, i1, i2⟩ := i
    obtain ⟨d0, h3, h⟩ := Option.bind_eq_some_iff.mp h
    obtain ⟨ds', h4, rfl⟩ := Option.map_eq_some_iff.mp h
    cases m with
    | zero =>
      have e1' : c = b := by simpa using h1
      have e2' : d0 = d := by simpa using h2
      subst e1' e2'
      refine ⟨r, v, rfl, rfl, fun hb => ?_, fun hb => ?_, i1⟩
      · rw [if_pos hb] at h3
        cases r with
        | val _ => cases h3
        | new _ => cases h3
        | plc i =>
          refine ⟨i, rfl, ?_⟩
          dsimp only at h3
          cases hg : get e1 i with
          | ow d => rw [hg] at h3; cases h3; exact .inl rfl
          | rf d => rw [hg] at h3; cases h3; exact .inr rfl
          | un => rw [hg] at h3; cases h3
          | fz d => rw [hg] at h3; cases h3
          | lk d => rw [hg] at h3; cases h3
      · rw [if_neg (by rw [hb]; exact fun z => nomatch z)] at h3
        exact h3
    | succ m =>
      obtain ⟨r', v', k1, k2, k3⟩ := args_at h4 i2 m b d (by simpa using h1) (by simpa using h2)
      exact ⟨r', v', by simpa using k1, by simpa using k2, k3.lent, k3.kept, k3.inf.base fun a h => newOf_sub h⟩
theorem lent_mem : ∀ {rs : List Res} {lent : List Bool} {m i : Nat}, lent[m]? = some true → rs[m]? = some (.plc i) → i ∈ lentOf rs lent
  | [], _, m, _, _, h => by simp at h
  | r :: rs, [], m, _, h, _ => by simp at h
  | r :: rs, b :: bs, 0, i, h1, h2 => by
    simp at h1 h2
    subst h1 h2
    simp [lentOf]
  | r :: rs, b :: bs, m + 1, i, h1, h2 => by
    have ih := lent_mem (rs := rs) (lent := bs) (m := m) (i := i) (by simpa using h1) (by simpa using h2)
    cases r <;> cases b <;> simp [lentOf, ih]
theorem kept_mem : ∀ {rs : List Res} {lent : List Bool} {m i : Nat}, lent[m]? = some false → rs[m]? = some (.plc i) → i ∈ keptOf rs lent
  | [], _, m, _, _, h => by simp at h
  | r :: rs, [], m, _, h, _ => by simp at h
  | r :: rs, b :: bs, 0, i, h1, h2 => by
    simp at h1 h2
    subst h1 h2
    simp [keptOf]
  | r :: rs, b :: bs, m + 1, i, h1, h2 => by
    have ih := kept_mem (rs := rs) (lent := bs) (m := m) (i := i) (by simpa using h1) (by simpa using h2)
    cases r <;> cases b <;> simp [keptOf, ih]
theorem lent_inj : ∀ {rs : List Res} {lent : List Bool} {m m' i : Nat}, (lentOf rs lent).Nodup → lent[m]? = some true → rs[m]? = some (.plc i) → lent[m']? = some true → rs[m']? = some (.plc i) → m = m'
  | [], _, m, _, _, _, _, h, _, _ => by simp at h
  | r :: rs, [], m, _, _, _, h, _, _, _ => by simp at h
  | r :: rs, b :: bs, 0, 0, i, _, _, _, _, _ => rfl
  | r :: rs, b :: bs, 0, m' + 1, i, nd, h1, h2, h3, h4 => by
    simp at h1 h2
    subst h1 h2
    have q := lent_mem (rs := rs) (lent := bs) (m := m') (i := i) (by simpa using h3) (by simpa using h4)
    have nd : (i :: lentOf rs bs).Nodup := nd
    exact absurd q (List.nodup_cons.mp nd).1
  | r :: rs, b :: bs, m + 1, 0, i, nd, h1, h2, h3, h4 => by
    simp at h3 h4
    subst h3 h4
    have q := lent_mem (rs := rs) (lent := bs) (m := m) (i := i) (by simpa using h1) (by simpa using h2)
    have nd : (i :: lentOf rs bs).Nodup := nd
    exact absurd q (List.nodup_cons.mp nd).1
  | r :: rs, b :: bs, m + 1, m' + 1, i, nd, h1, h2, h3, h4 => by
    have nd' : (lentOf rs bs).Nodup := by
      cases r <;> cases b <;> first | exact nd | exact (List.nodup_cons.mp (show (_ :: lentOf rs bs).Nodup from nd)).2
    have h1' : bs[m]? = some true := by simpa using h1
    have h2' : rs[m]? = some (.plc i) := by simpa using h2
    have h3' : bs[m']? = some true := by simpa using h3
    have h4' : rs[m']? = some (.plc i) := by simpa using h4
    rw [lent_inj nd' h1' h2' h3' h4']
theorem put_other {i : Nat} {d : D} (e : put e1 i d = some e2) : ∀ j, j ≠ i → get e2 j = get e1 j := (put_get e).2.2.2.1
theorem put_same {i : Nat} {d : D} (e : put e1 i d = some e2) : (get e2 i = .ow d ∧ ∃ d', get e1 i = .ow d') ∨ (get e2 i = .rf d ∧ ∃ d', get e1 i = .rf d') := by
  unfold put at e
  cases hg : get e1 i with
  | un => simp only [hg] at e; cases e
  | fz d' => simp only [hg] at e; cases e
  | lk d' => simp only [hg] at e; cases e
  | ow d' =>
    simp only [hg] at e
    cases e
    have hl : i < e1.length := get_lt (by rw [hg]; exact fun z => nomatch z)
    exact .inl ⟨by rw [get_set e1 i i _ hl, if_pos rfl], d', rfl⟩
  | rf d' =>
    simp only [hg] at e
    cases e
    have hl : i < e1.length := get_lt (by rw [hg]; exact fun z => nomatch z)
    exact .inr ⟨by rw [get_set e1 i i _ hl, if_pos rfl], d', rfl⟩
/-- every lent position is a slot -/
def LentOk : List Res → List Bool → Prop
  | r :: rs, b :: bs => (b = true → ∃ i, r = .plc i) ∧ LentOk rs bs
  | _, _ => True
theorem puts_ok : ∀ {rs : List Res} {lent : List Bool} {outs : List D} {e1 e2 : Mp.Env}, LentOk rs lent → rs.length = lent.length → (lentOf rs lent).Nodup → puts (lentOf rs lent) outs e1 = some e2 →
    e2.length = e1.length ∧ (∀ j, ¬ j ∈ lentOf rs lent → get e2 j = get e1 j) ∧
    ∀ (m i : Nat), lent[m]? = some true → rs[m]? = some (.plc i) → ∃ d', get (endE lent outs) m = .rf d' ∧ ((get e2 i = .ow d' ∧ ∃ d, get e1 i = .ow d) ∨ (get e2 i = .rf d' ∧ ∃ d, get e1 i = .rf d))
  | [], [], outs, e1, e2, _, _, _, h => by
    cases outs with
    | nil => cases h; exact ⟨rfl, fun _ _ => rfl, fun m i h => by simp at h⟩
    | cons _ _ => cases h
  | [], _ :: _, _, _, _, _, hl, _, _ => by simp at hl
  | _ :: _, [], _, _, _, _, hl, _, _ => by simp at hl
  | r :: rs, b :: bs, outs, e1, e2, ok, hl, nd, h => by
    have hl' : rs.length = bs.length := by simpa using hl
    cases b with
    | false =>
      have e : lentOf (r :: rs) (false :: bs) = lentOf rs bs := by cases r <;> rfl
      rw [e] at nd h ⊢
      obtain ⟨a1, a2, a3⟩ := puts_ok ok.2 hl' nd h
      refine ⟨a1, a2, fun m i h1 h2 => ?_⟩
      cases m with
      | zero => simp at h1
      | succ m => exact a3 m i (by simpa using h1) (by simpa using h2)
    | true =>
      obtain ⟨i0, rfl⟩ := ok.1 rfl
      have e : lentOf (.plc i0 :: rs) (true :: bs) = i0 :: lentOf rs bs := rfl
      rw [e] at nd h ⊢
      cases outs with
      | nil => cases h
      | cons d ds =>
        obtain ⟨e', h1, h⟩ := Option.bind_eq_some_iff.mp h
        have nd' := List.nodup_cons.mp nd
        obtain ⟨a1, a2, a3⟩ := puts_ok ok.2 hl' nd'.2 h
        have s1 := put_same h1
        have o1 := put_other h1
        have l1 := (put_get h1).2.1
        refine ⟨a1.trans l1, fun j hj => ?_, fun m i h2 h3 => ?_⟩
        · rw [a2 j fun q => hj (List.mem_cons_of_mem _ q), o1 j fun q => hj (by rw [q]; simp)]
        · cases m with
          | zero =>
            have : i0 = i := by simpa using h3
            subst this
            refine ⟨d, rfl, ?_⟩
            rw [a2 i0 nd'.1]
            exact s1
          | succ m =>
            obtain ⟨d', k1, k2⟩ := a3 m i (by simpa using h2) (by simpa using h3)
            have hm := lent_mem (rs := rs) (lent := bs) (m := m) (i := i) (by simpa using h2) (by simpa using h3)
            have hne : i ≠ i0 := fun q => nd'.1 (q ▸ hm)
            rw [o1 i hne] at k2
            exact ⟨d', k1, k2⟩
theorem freezes_ok : ∀ {is : List Nat} {e1 e2 : Mp.Env}, freezes is e1 = some e2 → Sub e2 e1 ∧ ∀ i, i ∈ is → (get e2 i).holds = false
  | [], e1, e2, h => by cases h; exact ⟨.refl, fun _ h => nomatch h⟩
  | i :: is, e1, e2, h => by
    obtain ⟨⟨d, e'⟩, h1, h⟩ := Option.bind_eq_some_iff.mp h
    have s1 := take_sub h1
    obtain ⟨s2, k⟩ := freezes_ok h
    refine ⟨s2.trans s1, fun j hj => ?_⟩
    rcases List.mem_cons.mp hj with rfl | hj
    · have : (get e' j).holds = false := by
        unfold take at h1
        cases g : get e1 j with
        | un => simp only [g] at h1; cases h1
        | lk d' => simp only [g] at h1; cases h1
        | rf d' => simp only [g] at h1; cases h1
        | fz d' => simp only [g] at h1; cases h1; rw [g]; rfl
        | ow d' =>
          simp only [g] at h1
          cases h1
          rw [get_set e1 j j _ (get_lt (by rw [g]; exact fun z => nomatch z)), if_pos rfl]
          rfl
      cases q : (get e2 j).holds with
      | false => rfl
      | true => rw [s2.holds q] at this; cases this
    · exact k j hj
end

/-! ### what goes to the def, and what comes back -/
theorem lent_ex : ∀ {rs : List Res} {lent : List Bool} {i : Nat}, i ∈ lentOf rs lent → ∃ m : Nat, lent[m]? = some true ∧ rs[m]? = some (.plc i)
  | [], lent, i, h => by cases lent <;> cases h
  | r :: rs, [], i, h => by cases r <;> cases h
  | r :: rs, b :: bs, i, h => by
    have next : i ∈ lentOf rs bs → ∃ m : Nat, (b :: bs)[m]? = some true ∧ (r :: rs)[m]? = some (.plc i) := fun h => by
      obtain ⟨m, h1, h2⟩ := lent_ex h
      exact ⟨m + 1, by simpa using h1, by simpa using h2⟩
    cases b with
    | false => exact next (by cases r <;> exact h)
    | true =>
      cases r with
      | val _ => exact next h
      | new _ => exact next h
      | plc j =>
        have h : i ∈ j :: lentOf rs bs := h
        rcases List.mem_cons.mp h with rfl | h
        · exact ⟨0, rfl, rfl⟩
        · exact next h
theorem endE_mem : ∀ {lent : List Bool} {outs : List D} {m : Nat} {d : D}, get (endE lent outs) m = .rf d → d ∈ outs
  | [], _, m, _, h => by rw [show endE [] _ = [] from rfl, get_nil] at h; cases h
  | true :: bs, [], 0, _, h => by cases h
  | true :: bs, [], m + 1, _, h => by
    have h : get (endE bs []) m = .rf _ := h
    have := endE_mem h
    cases this
  | true :: bs, d :: ds, 0, _, h => by cases h; simp
  | true :: bs, d :: ds, m + 1, _, h => by
    have h : get (endE bs ds) m = .rf _ := h
    exact List.mem_cons_of_mem _ (endE_mem h)
  | false :: bs, ds, 0, _, h => by cases h
  | false :: bs, ds, m + 1, _, h => by
    have h : get (endE bs ds) m = .rf _ := h
    exact endE_mem h
section
variable {P : Program} {w : World} {K : PySem.W.Frag} {T T1 : Addr → Prop} {e1 e2 : Mp.Env} {σ : L2.St} {H1 H2 : Hp} {rs : List Res} {lent : List Bool} {ds : List D} {vs : List V}
def given (e1 : Mp.Env) (rs : List Res) (vs : List V) (a : Addr) : Prop := ∃ (m : Nat) (r : Res), rs[m]? = some r ∧ vs[m]? = some (.ref a) ∧ ((∃ d, r = .new d) ∨ ∃ i, r = .plc i ∧ (get e1 i).holds = true)
def Tc (T1 : Addr → Prop) (e1 : Mp.Env) (σ : L2.St) (rs : List Res) (vs : List V) (a : Addr) : Prop := Avd T1 e1 σ a ∧ ¬ given e1 rs vs a
structure CallIn (P : Program) (w : World) (K : PySem.W.Frag) (T T1 : Addr → Prop) (e1 : Mp.Env) (σ : L2.St) (H1 : Hp) (rs : List Res) (lent : List Bool) (ds : List D) (vs : List V) : Prop where
  R : Rel P w K T1 e1 σ H1
  t : ∀ a, T a → T1 a
  at_ : ∀ (m : Nat) (b : Bool) (d : D), lent[m]? = some b → ds[m]? = some d → ∃ r v, rs[m]? = some r ∧ vs[m]? = some v ∧ ArgAt P w K T T1 e1 σ H1 r b d v
  l1 : rs.length = lent.length
  l2 : ds.length = lent.length
  l3 : vs.length = lent.length
  nd : (lentOf rs lent).Nodup
  dj : ∀ i, i ∈ lentOf rs lent → ¬ i ∈ keptOf rs lent
theorem vmap {m : Nat} {v : V} (h : vs[m]? = some v) : (vs.map some)[m]? = some (some v) := by rw [List.getElem?_map, h]; rfl
theorem CallIn.pos (c : CallIn P w K T T1 e1 σ H1 rs lent ds vs) {m : Nat} {v : V} (h : vs[m]? = some v) : ∃ b d r, lent[m]? = some b ∧ ds[m]? = some d ∧ rs[m]? = some r ∧ ArgAt P w K T T1 e1 σ H1 r b d v := by
  have hm : m < lent.length := by rw [← c.l3]; exact (List.getElem?_eq_some_iff.mp h).1
  have hd : m < ds.length := by rw [c.l2]; exact hm
  obtain ⟨r, v', k1, k2, k3⟩ := c.at_ m _ _ (List.getElem?_eq_getElem hm) (List.getElem?_eq_getElem hd)
  rw [h] at k2
  cases k2
  exact ⟨_, _, r, List.getElem?_eq_getElem hm, List.getElem?_eq_getElem hd, k1, k3⟩
/-- what a lent one is -/
theorem CallIn.held (c : CallIn P w K T T1 e1 σ H1 rs lent ds vs) {m : Nat} {a : Addr} (h : Hld (Mp.start lent ds) (vs.map some) m a) : ∃ i, lent[m]? = some true ∧ rs[m]? = some (.plc i) ∧ vs[m]? = some (.ref a) ∧ (get e1 i).muts = true ∧ Hld e1 σ i a := by
  obtain ⟨h1, h2⟩ := h
  rw [List.getElem?_map] at h2
  obtain ⟨v, hv, e⟩ := Option.map_eq_some_iff.mp h2
  cases e
  obtain ⟨b, d, r, k1, k2, k3, k4⟩ := c.pos hv
  rw [start_get, k1, k2] at h1
  cases b with
  | false => cases h1
  | true =>
    obtain ⟨i, rfl, hg⟩ := k4.lent rfl
    have inf : σ[i]? = some (some (.ref a)) := k4.inf
    have mu : (get e1 i).muts = true := by rcases hg with e | e <;> (rw [e]; rfl)
    exact ⟨i, k1, k3, hv, mu, muts_holds mu, inf⟩
theorem CallIn.av (c : CallIn P w K T T1 e1 σ H1 rs lent ds vs) {a : Addr} (h : Avd (Tc T1 e1 σ rs vs) (Mp.start lent ds) (vs.map some) a) : Avd T1 e1 σ a := by
  rcases h with h | ⟨m, h⟩
  · exact h.1
  · obtain ⟨i, _, _, _, _, k⟩ := c.held h
    exact .inr ⟨i, k⟩
theorem CallIn.start (c : CallIn P w K T T1 e1 σ H1 rs lent ds vs) : Rel P w K (Tc T1 e1 σ rs vs) (Mp.start lent ds) (vs.map some) H1 where
  len := by rw [start_len c.l2, List.length_map, c.l3]
  ok := fun m => by
    cases hl : lent[m]? with
    | none => rw [start_get, hl]; trivial
    | some b =>
      have hm : m < lent.length := (List.getElem?_eq_some_iff.mp hl).1
      obtain ⟨dm, hd⟩ : ∃ dm, ds[m]? = some dm := ⟨_, List.getElem?_eq_getElem (by rw [c.l2]; exact hm)⟩
      obtain ⟨r, v, k1, k2, k3⟩ := c.at_ m b _ hl hd
      rw [start_get, hl, hd, vmap k2]
      cases b with
      | true =>
        obtain ⟨i, rfl, hg⟩ := k3.lent rfl
        have inf : σ[i]? = some (some v) := k3.inf
        have hh : (get e1 i).holds = true := by rcases hg with e | e <;> (rw [e]; rfl)
        obtain ⟨a, d', q1, q2, ow⟩ := c.R.own hh
        rw [inf] at q1
        cases q1
        have : d' = dm := by rcases hg with e | e <;> (rw [e] at q2; cases q2; rfl)
        subst this
        exact ⟨a, rfl, ow.anti fun a => c.av⟩
      | false =>
        have hdr := k3.kept rfl
        refine ⟨v, rfl, ?_⟩
        have inf := k3.inf
        cases r with
        | val d' => cases hdr; exact Rep.anti inf fun a => c.av
        | new d' =>
          cases hdr
          obtain ⟨a, rfl, t, n, ow⟩ := inf
          refine (ow.anti fun a => c.av).rep ?_
          rintro (z | ⟨m', z⟩)
          · exact z.2 ⟨m, _, k1, k2, .inl ⟨_, rfl⟩⟩
          · obtain ⟨i, _, _, _, _, k⟩ := c.held z
            exact c.R.apart a t ⟨i, k⟩
        | plc i =>
          have inf : σ[i]? = some (some v) := inf
          cases hh : (get e1 i).holds with
          | false =>
            have hc : cont e1 i = some dm := hdr
            have q := c.R.ok i
            rw [cont_data] at hc
            cases g : get e1 i with
            | un => rw [g] at hc; cases hc
            | fz d0 =>
              rw [g] at hc q
              cases hc
              obtain ⟨v', q1, q2⟩ := q
              rw [inf] at q1
              cases q1
              exact q2.anti fun a => c.av
            | ow _ => rw [g] at hh; cases hh
            | lk _ => rw [g] at hh; cases hh
            | rf _ => rw [g] at hh; cases hh
          | true =>
            obtain ⟨a, d', q1, q2, ow⟩ := c.R.own hh
            rw [inf] at q1
            cases q1
            have hc : cont e1 i = some dm := hdr
            rw [cont_data, q2] at hc
            cases hc
            refine (ow.anti fun a => c.av).rep ?_
            rintro (z | ⟨m', z⟩)
            · exact z.2 ⟨m, _, k1, k2, .inr ⟨i, rfl, hh⟩⟩
            · obtain ⟨i', z1, z2, _, _, z3⟩ := c.held z
              have := c.R.one i' i a z3 ⟨hh, inf⟩
              subst this
              exact c.dj i' (lent_mem z1 z2) (kept_mem hl k1)
  one := fun m m' a h h' => by
    obtain ⟨i, z1, z2, _, _, z3⟩ := c.held h
    obtain ⟨i', y1, y2, _, _, y3⟩ := c.held h'
    have := c.R.one i i' a z3 y3
    subst this
    exact lent_inj c.nd z1 z2 y1 y2
  apart := fun a h ⟨m, h'⟩ => by
    obtain ⟨i, z1, z2, z3, z4, z5⟩ := c.held h'
    exact h.2 ⟨m, _, z2, z3, .inr ⟨i, rfl, z5.1⟩⟩
  there := fun a h => c.R.avSome h.1
theorem lentOk_of (c : CallIn P w K T T1 e1 σ H1 rs lent ds vs) : LentOk rs lent := by
  have key : ∀ (rs : List Res) (lent : List Bool), (∀ m : Nat, lent[m]? = some true → ∀ r : Res, rs[m]? = some r → ∃ i, r = .plc i) → LentOk rs lent := by
    intro rs
    induction rs with
    | nil => intro lent _; cases lent <;> trivial
    | cons r rs ih =>
      intro lent h
      cases lent with
      | nil => trivial
      | cons b bs => exact ⟨fun hb => h 0 (by rw [hb]; rfl) r rfl, ih bs fun m h1 r' h2 => h (m + 1) (by simpa using h1) r' (by simpa using h2)⟩
  refine key rs lent fun m h r hr => ?_
  have hm : m < lent.length := (List.getElem?_eq_some_iff.mp h).1
  have hd := List.getElem?_eq_getElem (l := ds) (i := m) (by rw [c.l2]; exact hm)
  obtain ⟨r', v, k1, k2, k3⟩ := c.at_ m true _ h hd
  rw [hr] at k1
  cases k1
  obtain ⟨i, e, _⟩ := k3.lent rfl
  exact ⟨i, e⟩
theorem flat_own {Av Av' : Addr → Prop} {H : Hp} {a : Addr} {d : D} (f : flatD d = true) (o : Own P w K H Av a d) : Own P w K H Av' a d := by
  cases o with
  | lst e r => exact .lst e (pure_anyL f r)
  | dic e r => exact .dic e (pure_anyP f r)
theorem CallIn.back (c : CallIn P w K T T1 e1 σ H1 rs lent ds vs) {b : Bool} {d : D} {outs : List D} (hp : puts (lentOf rs lent) outs e1 = some e2) (fl : flatR b d outs = true ∨ ∀ i, i ∈ keptOf rs lent → (get e1 i).holds = false)
    {T' : Addr → Prop} {v : V} (g : GoR (Tc T1 e1 σ rs vs) (Mp.start lent ds) (vs.map some) H1 T' (endE lent outs) (vs.map some) H2) (R' : Rel P w K T' (endE lent outs) (vs.map some) H2) (i' : InF P w K (Tc T1 e1 σ rs vs) T' (endE lent outs) (vs.map some) H2 (resOf b d) v) :
    ∃ T2, Go T e1 σ H1 T2 e2 σ H2 ∧ Rel P w K T2 e2 σ H2 ∧ InF P w K T T2 e2 σ H2 (resOf b d) v := by
  obtain ⟨p1, p2, p3⟩ := puts_ok (lentOk_of c) c.l1 c.nd hp
  -- slots behind the call
  have slot : ∀ j, j ∈ lentOf rs lent → ∃ (m : Nat) (d' : D), lent[m]? = some true ∧ rs[m]? = some (.plc j) ∧ get (endE lent outs) m = .rf d' ∧ ((get e2 j = .ow d' ∧ ∃ d, get e1 j = .ow d) ∨ (get e2 j = .rf d' ∧ ∃ d, get e1 j = .rf d)) ∧ vs[m]? = (σ[j]?).join := fun j hj => by
    obtain ⟨m, h1, h2⟩ := lent_ex hj
    obtain ⟨d', h3, h4⟩ := p3 m j h1 h2
    have hm : m < vs.length := by rw [c.l3]; exact (List.getElem?_eq_some_iff.mp h1).1
    obtain ⟨b0, d0, r0, q1, q2, q3, q4⟩ := c.pos (List.getElem?_eq_getElem hm)
    rw [h2] at q3
    cases q3
    have inf : σ[j]? = some (some vs[m]) := q4.inf
    exact ⟨m, d', h1, h2, h3, h4, by rw [inf, List.getElem?_eq_getElem hm]; rfl⟩
  have hs : ∀ j, (get e2 j).holds = (get e1 j).holds ∧ (get e2 j).muts = (get e1 j).muts := fun j => by
    by_cases hj : j ∈ lentOf rs lent
    · obtain ⟨m, d', _, _, _, h, _⟩ := slot j hj
      rcases h with ⟨x, y, z⟩ | ⟨x, y, z⟩ <;> (rw [x, z]; exact ⟨rfl, rfl⟩)
    · rw [p2 j hj]; exact ⟨rfl, rfl⟩
  have hld : ∀ j a, Hld e2 σ j a → Hld e1 σ j a := fun j a h => ⟨by rw [← (hs j).1]; exact h.1, h.2⟩
  have held : ∀ a, Held e2 σ a → Held e1 σ a := fun a ⟨j, h⟩ => ⟨j, hld j a h⟩
  -- what is not lent stands
  have fr : ∀ a o, H1 a = some o → (∀ m i : Nat, lent[m]? = some true → rs[m]? = some (.plc i) → vs[m]? ≠ some (.ref a)) → H2 a = some o := fun a o h n => g.frame a o h fun ⟨m, m1, m2⟩ => by
    obtain ⟨i, z1, z2, z3, _⟩ := c.held ⟨muts_holds m1, m2⟩
    exact n m i z1 z2 z3
  have lentHeld : ∀ (a : Addr) (m i : Nat), lent[m]? = some true → rs[m]? = some (.plc i) → vs[m]? = some (.ref a) → Hld e1 σ i a ∧ (get e1 i).muts = true := fun a m i h1 h2 h3 => by
    obtain ⟨b0, d0, r0, q1, q2, q3, q4⟩ := c.pos h3
    rw [h2] at q3
    cases q3
    rw [h1] at q1
    cases q1
    obtain ⟨i2, e, hg⟩ := q4.lent rfl
    cases e
    have mu : (get e1 i).muts = true := by rcases hg with e | e <;> (rw [e]; rfl)
    exact ⟨⟨muts_holds mu, q4.inf⟩, mu⟩
  have frA : ∀ a o, H1 a = some o → ¬ Held e1 σ a → H2 a = some o := fun a o h n => fr a o h fun m i h1 h2 h3 => n ⟨i, (lentHeld a m i h1 h2 h3).1⟩
  -- what was made
  have fresh : ∀ a, b = true → v = .ref a → T' a ∧ H1 a = none := fun a hb hv => by
    subst hb hv
    obtain ⟨a0, e, t, n, o⟩ := i'
    cases e
    refine ⟨t, ?_⟩
    rcases g.new a t with h | h | ⟨m, h⟩
    · exact absurd h n
    · exact h
    · obtain ⟨i, z1, z2, z3, _⟩ := c.held h
      obtain ⟨d', k1, _⟩ := p3 m i z1 z2
      exact absurd ⟨m, by rw [k1]; rfl, vmap z3⟩ (R'.apart a t)
  let T2 : Addr → Prop := fun a => T a ∨ (b = true ∧ v = .ref a)
  have av1 : ∀ a, Avd T2 e2 σ a → Avd T1 e1 σ a ∨ H1 a = none := fun a h => by
    rcases h with (h | ⟨h1, h2⟩) | h
    · exact .inl (.inl (c.t a h))
    · exact .inr (fresh a h1 h2).2
    · exact .inl (.inr (held a h))
  have noT : ∀ a, T a → ¬ given e1 rs vs a := fun a ht ⟨m, r, h1, h2, h3⟩ => by
    obtain ⟨b0, d0, r0, q1, q2, q3, q4⟩ := c.pos h2
    rw [h1] at q3
    cases q3
    rcases h3 with ⟨d3, rfl⟩ | ⟨i, rfl, hh⟩
    · obtain ⟨a0, e, t, n, o⟩ := q4.inf
      cases e
      exact n ht
    · have inf : σ[i]? = some (some (.ref a)) := q4.inf
      exact c.R.apart a (c.t a ht) ⟨i, hh, inf⟩
  have av2 : (∀ i, i ∈ keptOf rs lent → (get e1 i).holds = false) → ∀ a, Avd T2 e2 σ a → Avd T' (endE lent outs) (vs.map some) a := fun nk a h => by
    rcases h with (h | ⟨h1, h2⟩) | ⟨j, h⟩
    · exact .inl (g.sub a ⟨.inl (c.t a h), noT a h⟩)
    · exact .inl (fresh a h1 h2).1
    · by_cases hj : j ∈ lentOf rs lent
      · obtain ⟨m, d', k1, k2, k3, _, k4⟩ := slot j hj
        have : vs[m]? = some (.ref a) := by rw [k4, h.2]; rfl
        exact .inr ⟨m, by rw [k3]; rfl, vmap this⟩
      · have h1 := hld j a h
        refine .inl (g.sub a ⟨.inr ⟨j, h1⟩, fun ⟨m, r, y1, y2, y3⟩ => ?_⟩)
        obtain ⟨b0, d0, r0, q1, q2, q3, q4⟩ := c.pos y2
        rw [y1] at q3
        cases q3
        rcases y3 with ⟨d3, rfl⟩ | ⟨i, rfl, hh⟩
        · obtain ⟨a0, e, t, n, o⟩ := q4.inf
          cases e
          exact c.R.apart a t ⟨j, h1⟩
        · have inf : σ[i]? = some (some (.ref a)) := q4.inf
          have := c.R.one i j a ⟨hh, inf⟩ h1
          subst this
          cases b0 with
          | true => exact hj (lent_mem q1 y1)
          | false => have := nk i (kept_mem q1 y1); rw [hh] at this; cases this
  have hT : ∀ a xs, SqT K H1 a xs → SqT K H2 a xs := fun a xs h => by
    rcases h with (e | ⟨o, e⟩) | h
    · exact .inl (.inl (frA a _ e fun z => (c.R.heldMut z).noTup.1 _ e))
    · exact .inl (.inr ⟨o, frA a _ e fun z => (c.R.heldMut z).noTup.2 _ _ e⟩)
    · exact .inr h
  have na : ∀ a, H1 a ≠ none → ¬ Avd T1 e1 σ a → ¬ Avd T2 e2 σ a := fun a h n z => (av1 a z).elim n h
  have hL : ∀ a xs, ¬ Avd T1 e1 σ a → Rd H1 a (.lst xs) → ¬ Avd T2 e2 σ a ∧ Rd H2 a (.lst xs) := fun a xs n h => by
    rcases h with e | ⟨o, e⟩
    · exact ⟨na a (ne_none e) n, .inl (frA a _ e fun z => n (.inr z))⟩
    · exact ⟨na a (ne_none e) n, .inr ⟨o, frA a _ e fun z => n (.inr z)⟩⟩
  have hD : ∀ a ps, ¬ Avd T1 e1 σ a → DictM P w K H1 a ps → ¬ Avd T2 e2 σ a ∧ DictM P w K H2 a ps := fun a ps n h => by
    have hn : H1 a ≠ none := let ⟨_, e⟩ := h.kind; ne_none e
    exact ⟨na a hn n, h.at hT fun o e => frA a _ e fun z => n (.inr z)⟩
  have own : ∀ j a d, Hld e1 σ j a → ¬ j ∈ lentOf rs lent → Own P w K H1 (Avd T1 e1 σ) a d → Own P w K H2 (Avd T2 e2 σ) a d := fun j a d hj hn h => by
    have k : ∀ o, H1 a = some o → H2 a = some o := fun o e => fr a o e fun m i h1 h2 h3 => by
      have := c.R.one i j a (lentHeld a m i h1 h2 h3).1 hj
      subst this
      exact hn (lent_mem h1 h2)
    cases h with
    | lst e r => exact .lst (k _ e) (r.map hT hL hD)
    | dic e r => exact .dic (e.at hT fun o q => k o q) (r.map hT hL hD)
  have Rn : Rel P w K T2 e2 σ H2 := by
    refine ⟨p1.trans c.R.len, fun j => ?_, fun i j a h1 h2 => c.R.one i j a (hld i a h1) (hld j a h2), fun a h1 h2 => ?_, fun a h => ?_⟩
    · by_cases hj : j ∈ lentOf rs lent
      · obtain ⟨m, d', k1, k2, k3, k4, k5⟩ := slot j hj
        have q := R'.ok m
        rw [k3] at q
        obtain ⟨a, q1, q2⟩ := q
        rw [List.getElem?_map] at q1
        have q1' : (σ[j]?).join = some (.ref a) := by
          rw [← k5]
          cases h : vs[m]? with
          | none => rw [h] at q1; cases q1
          | some z => rw [h] at q1; exact q1
        have o2 : Own P w K H2 (Avd T2 e2 σ) a d' := by
          rcases fl with f | f
          · exact flat_own (List.all_eq_true.mp (Bool.and_eq_true_iff.mp f).2 d' (endE_mem k3)) q2
          · exact q2.anti (av2 f)
        rcases k4 with ⟨x, _⟩ | ⟨x, _⟩
        · rw [x]; exact ⟨a, q1', o2⟩
        · rw [x]; exact ⟨a, q1', o2⟩
      · rw [p2 j hj]
        have q := c.R.ok j
        cases gg : get e1 j with
        | un => exact trivial
        | fz d => rw [gg] at q; obtain ⟨v, x, r⟩ := q; exact ⟨v, x, r.map hT hL hD⟩
        | ow d => rw [gg] at q; obtain ⟨v, x, r⟩ := q; exact ⟨v, x, own j v d ⟨by rw [gg]; rfl, Option.join_eq_some_iff.mp x⟩ hj r⟩
        | lk d => rw [gg] at q; obtain ⟨v, x, r⟩ := q; exact ⟨v, x, own j v d ⟨by rw [gg]; rfl, Option.join_eq_some_iff.mp x⟩ hj r⟩
        | rf d => rw [gg] at q; obtain ⟨v, x, r⟩ := q; exact ⟨v, x, own j v d ⟨by rw [gg]; rfl, Option.join_eq_some_iff.mp x⟩ hj r⟩
    · have h2 := held a h2
      rcases h1 with h1 | ⟨h3, h4⟩
      · exact c.R.apart a (c.t a h1) h2
      · exact (c.R.heldMut h2).ne (fresh a h3 h4).2
    · rcases h with h | ⟨h3, h4⟩
      · exact g.there a (c.R.there a (c.t a h))
      · exact R'.there a (fresh a h3 h4).1
  refine ⟨T2, ⟨fun a o h n => fr a o h fun m i h1 h2 h3 => n ⟨i, (lentHeld a m i h1 h2 h3).2, (lentHeld a m i h1 h2 h3).1.2⟩, g.there, fun a ⟨j, h1, h2⟩ => .inl ⟨j, by rw [← (hs j).2]; exact h1, h2⟩, fun a h => .inl (held a h), fun j d h => ?_, fun j d h => ?_, fun a h => .inl h, fun a h => ?_⟩, Rn, ?_⟩
  · by_cases hj : j ∈ lentOf rs lent
    · obtain ⟨m, d', _, _, _, k, _⟩ := slot j hj
      rcases k with ⟨x, _⟩ | ⟨x, _⟩ <;> (rw [x] at h; cases h)
    · rw [p2 j hj] at h; exact ⟨h, rfl⟩
  · by_cases hj : j ∈ lentOf rs lent
    · obtain ⟨m, d', _, _, _, k, _⟩ := slot j hj
      rcases k with ⟨x, _⟩ | ⟨x, y⟩
      · rw [x] at h; cases h
      · exact ⟨y, rfl⟩
    · rw [p2 j hj] at h; exact ⟨⟨d, h⟩, rfl⟩
  · rcases h with h | ⟨h3, h4⟩
    · exact .inl h
    · exact .inr (fresh a h3 h4).2
  · cases b with
    | false =>
      have i' : Rep P w K H2 (Avd T' (endE lent outs) (vs.map some)) d v := i'
      show Rep P w K H2 (Avd T2 e2 σ) d v
      rcases fl with f | f
      · exact pure_any (Bool.and_eq_true_iff.mp f).1 i'
      · exact i'.anti (av2 f)
    | true =>
      have i0 := i'
      obtain ⟨a, rfl, t, n, o⟩ := i'
      have hf := fresh a rfl rfl
      refine ⟨a, rfl, .inr ⟨rfl, rfl⟩, fun z => c.R.there a (c.t a z) hf.2, ?_⟩
      rcases fl with f | f
      · exact flat_own (Bool.and_eq_true_iff.mp f).1 o
      · exact o.anti (av2 f)
end
end Mp

/-! Mp29: calls. -/
namespace Mp
open PySem PySem.Spec PyProof.Rows L2
section
variable {X : Cx} {e : Expr} {args es : List Expr} {fs fs1 fs2 : List EvF} {call : Call} {x : Str} {lent : List Bool} {ps : List Str} {p pos : Pos} {k : Nat} {f : Addr} {fd : FuncData}
theorem argAt_sub {P : Program} {w : World} {K : PySem.W.Frag} {T T1 : Addr → Prop} {e1 e1' : Mp.Env} {σ : L2.St} {H1 : Hp} {r : Res} {b : Bool} {d : D} {v : V} (a : ArgAt P w K T T1 e1 σ H1 r b d v) (s : Sub e1' e1)
    (h : ∀ i, r = .plc i → b = true → (∃ d, get e1' i = .ow d) ∨ ∃ d, get e1' i = .rf d) : ArgAt P w K T T1 e1' σ H1 r b d v where
  lent := fun hb => by
    obtain ⟨i, rfl, hg⟩ := a.lent hb
    refine ⟨i, rfl, ?_⟩
    rcases s.at_ i with q | ⟨d', q1, q2⟩
    · rw [q]; exact hg
    · rcases h i rfl hb with ⟨d2, z⟩ | ⟨d2, z⟩ <;> (rw [q2] at z; cases z)
  kept := fun hb => by
    have q := a.kept hb
    cases r with
    | val _ => exact q
    | new _ => exact q
    | plc i => show cont e1' i = _; rw [cont_sub s]; exact q
  inf := a.inf.sub s
theorem call_ok {σ : L2.St} {H : Hp} {Q : VK} {E : XK} (q : xF X (eCall call x lent fs) σ H Q) : xFs X fs σ H fun vs H1 => spF X.prog X.w X.K call lent x vs H1 Q E := by
  obtain ⟨T, env, r, env', R, e, q⟩ := q
  obtain ⟨⟨rs, e1⟩, h1, e⟩ := Option.bind_eq_some_iff.mp e
  obtain ⟨ds, h2, e⟩ := Option.bind_eq_some_iff.mp e
  dsimp only at e
  split at e
  · rename_i hc
    have hc := Bool.and_eq_true_iff.mp hc
    obtain ⟨⟨b, d, outs⟩, h3, e⟩ := Option.bind_eq_some_iff.mp e
    obtain ⟨e1', h4, e⟩ := Option.bind_eq_some_iff.mp e
    obtain ⟨e2, h5, e⟩ := Option.map_eq_some_iff.mp e
    cases e
    obtain ⟨l1, l2⟩ := argsOf_len h2
    refine ⟨T, env, rs, e1, R, h1, fun vs H1 T1 g1 R1 i1 => ?_⟩
    have l3 : vs.length = lent.length := by rw [← i1.length, l1]
    have dj : ∀ i, i ∈ lentOf rs lent → ¬ i ∈ keptOf rs lent := fun i hi hk => by
      have := List.all_eq_true.mp hc.1 i hi
      simp at this
      exact this hk
    have c1 : CallIn X.prog X.w X.K T T1 e1 σ H1 rs lent ds vs := ⟨R1, g1.sub, args_at h2 i1, l1, l2, l3, of_decide_eq_true hc.2, dj⟩
    have key : Sub e1' e1 ∧ (flatR b d outs = true ∨ ∀ i, i ∈ keptOf rs lent → (get e1' i).holds = false) := by
      dsimp only at h4
      split at h4
      · rename_i hf
        cases h4
        exact ⟨.refl, .inl hf⟩
      · obtain ⟨s, k⟩ := freezes_ok h4
        exact ⟨s, .inr k⟩
    obtain ⟨s, fl⟩ := key
    obtain ⟨_, _, p3⟩ := puts_ok (lentOk_of c1) l1 c1.nd h5
    have c2 : CallIn X.prog X.w X.K T T1 e1' σ H1 rs lent ds vs := ⟨R1.less s fun _ h => h, g1.sub, fun m b d hb hd => by
      obtain ⟨r, v, k1, k2, k3⟩ := c1.at_ m b d hb hd
      refine ⟨r, v, k1, k2, argAt_sub k3 s fun i hi hbt => ?_⟩
      subst hi hbt
      obtain ⟨d', _, z⟩ := p3 m i hb k1
      exact z.imp (fun z => z.2) fun z => z.2, l1, l2, l3, c1.nd, dj⟩
    refine ⟨_, ds, b, d, outs, h3, l2, l3, c2.start, fun v H' T' gR R' i' => ?_⟩
    obtain ⟨T2, g2, R2, i2⟩ := c2.back h5 fl gR R' i'
    have er : (if b = true then Res.new d else Res.val d) = resOf b d := rfl
    exact q v H' T2 ((g1.less s g1.sub fun _ h => h).trans g2) R2 i2
  · cases e
theorem sp_len : ∀ vs H Q E, spF X.prog X.w X.K call lent x vs H Q E → vs.length = lent.length := fun vs H Q E ⟨_, _, _, _, _, _, _, h, _⟩ => h
theorem ex_call (F : FnOk X.prog X.w X.K X.mg X.base CX0 k f fd ps (spF X.prog X.w X.K call lent x)) (hr : Room k X.A) (hg : Gl X x) (hm : X.mg x = some (.ref f)) (hk : PySem.W.keepIn X.K (.ref f) = true) (hb : Binds X.K fd ps [])
    (hdb : (x == ("__debug__" : Str)) = false) (ha : EXs X args fs) : EX X (.Call (.Name x p) args [] pos) (eCall call x lent fs) := by
  refine .ofVal ⟨fun pins s σ H Q I h => ?_⟩ (fun _ => rfl) (fun _ _ _ h => nomatch h)
  have h0 := h
  obtain ⟨T, env, r, env', R, e, q⟩ := h0
  obtain ⟨q1, h1, _⟩ := Option.bind_eq_some_iff.mp e
  have st := ha.star _ _ h1
  have hq := tFs_mono (call_ok (E := E0) h) (Q' := fun vs H1 => spF X.prog X.w X.K call lent x (vs ++ []) H1 Q E0) fun vs H' z => by rw [List.append_nil]; exact z
  cases args with
  | nil =>
    cases fs with
    | cons _ _ => have := ha.len; cases this
    | nil =>
      refine (pe_call0 F hr hg hm hk hb .nil pass0 hdb).run pins s σ H Q I ?_
      obtain ⟨T, env, rs, env', R, e, q⟩ := hq
      cases e
      exact q [] H T .refl R rfl
  | cons a as =>
    rw [List.all_cons] at st
    have st := Bool.and_eq_true_iff.mp st
    exact (pe_call F hr hg hm hk hb .nil pass0 ha.pa hdb (star_ok a as X.env (by simpa using st.1)) (no_star st.2)).run pins s σ H Q I hq
/-! ### keywords -/
theorem eAll_append : ∀ {fs1 fs2 : List EvF} {env env' : Mp.Env} {rs : List Res}, eAll (fs1 ++ fs2) env = some (rs, env') → ∃ r1 e1 r2, eAll fs1 env = some (r1, e1) ∧ eAll fs2 e1 = some (r2, env') ∧ rs = r1 ++ r2
  | [], fs2, env, env', rs, h => ⟨[], env, rs, rfl, h, rfl⟩
  | f :: fs1, fs2, env, env', rs, h => by
    obtain ⟨⟨r, e1⟩, h1, h⟩ := Option.bind_eq_some_iff.mp h
    obtain ⟨⟨rs', e2⟩, h2, h⟩ := Option.bind_eq_some_iff.mp h
    cases h
    obtain ⟨r1, e3, r2, k1, k2, rfl⟩ := eAll_append h2
    refine ⟨r :: r1, e3, r2, ?_, k2, rfl⟩
    show (f env).bind _ = _
    rw [h1]
    show (eAll fs1 e1).bind _ = _
    rw [k1]
    rfl
theorem infs_append {P : Program} {w : World} {K : PySem.W.Frag} {T2 : Addr → Prop} {env : Mp.Env} {σ : L2.St} {H : Hp} {T1 : Addr → Prop} {r2 : List Res} {v2 : List V} (i2 : InFs P w K T1 T2 env σ H r2 v2) : ∀ {r1 : List Res} {v1 : List V} {T0 : Addr → Prop},
    InFs P w K T0 T2 env σ H r1 v1 → (∀ a, T0 a ∨ newsAt r1 v1 a → T1 a) → InFs P w K T0 T2 env σ H (r1 ++ r2) (v1 ++ v2)
  | [], _, T0, h, s => by subst h; exact InFs.base i2 fun a z => s a (.inl z)
  | r :: r1, _, T0, h, s => by
    obtain ⟨v, us, rfl, h1, h2⟩ := h
    exact ⟨v, us ++ v2, rfl, h1, infs_append i2 h2 fun a z => s a (by
      rcases z with z | z
      · exact (newOf_at z).imp id .inl
      · exact .inr (.inr z))⟩
theorem eAll_len : ∀ {fs : List EvF} {env env' : Mp.Env} {rs : List Res}, eAll fs env = some (rs, env') → rs.length = fs.length
  | [], _, _, _, h => by cases h; rfl
  | f :: fs, env, env', rs, h => by
    obtain ⟨⟨r, e1⟩, h1, h⟩ := Option.bind_eq_some_iff.mp h
    obtain ⟨⟨rs', e2⟩, h2, h⟩ := Option.bind_eq_some_iff.mp h
    cases h
    rw [List.length_cons, List.length_cons, eAll_len h2]
theorem tFs_append {σ : L2.St} {H : Hp} {Q : List V → Hp → Prop} (q : xFs X (fs1 ++ fs2) σ H Q) : xFs X fs1 σ H fun vs H1 => xFs X fs2 σ H1 fun zs H2 => vs.length = fs1.length ∧ zs.length = fs2.length ∧ Q (vs ++ zs) H2 := by
  obtain ⟨T, env, rs, env', R, e, q⟩ := q
  obtain ⟨r1, e1, r2, k1, k2, rfl⟩ := eAll_append e
  refine ⟨T, env, r1, e1, R, k1, fun v1 H1 T1 g1 R1 i1 => ⟨T1, e1, r2, env', R1, k2, fun v2 H2 T2 g2 R2 i2 => ?_⟩⟩
  refine ⟨by rw [← i1.length, eAll_len k1], by rw [← i2.length, eAll_len k2], q _ H2 T2 (g1.trans g2) R2 (infs_append i2 (InFs.step i1 R1 g2) fun a z => ?_)⟩
  rcases z with z | z
  · exact g1.sub a z
  · exact (news_of i1 a z).1
theorem allKw_each : ∀ {kws : List Keyword} {es : List (Str × Expr)} {env : PySem.Env} {pos : Pos}, allKw kws = some es →
    (backToKw pos (keywordEach kws env)).all (·.1.isSome) = true ∧ (backToKw pos (keywordEach kws env)).filterMap (·.1) = es.map (·.1) ∧ (backToKw pos (keywordEach kws env)).any (·.1.isNone) = false
  | [], es, env, pos, h => by cases h; exact ⟨rfl, rfl, rfl⟩
  | ⟨some x, e, q⟩ :: r, es, env, pos, h => by
    obtain ⟨es', h1, rfl⟩ := Option.map_eq_some_iff.mp h
    obtain ⟨a, b, c⟩ := allKw_each (env := env) (pos := pos) h1
    refine ⟨?_, ?_, ?_⟩
    · show (true && (backToKw pos (keywordEach r env)).all (·.1.isSome)) = true
      rw [a]
      rfl
    · show x :: (backToKw pos (keywordEach r env)).filterMap (·.1) = x :: es'.map (·.1)
      rw [b]
    · show (false || (backToKw pos (keywordEach r env)).any (·.1.isNone)) = false
      rw [c]
      rfl
  | ⟨none, _, _⟩ :: _, _, _, _, h => by cases h
theorem pk_ok : ∀ {kws : List Keyword} {es : List (Str × Expr)} {fs : List EvF}, allKw kws = some es → Paired (fun (p : Str × Expr) f => EX X p.2 f) es fs → PK X kws (xFs X fs)
  | [], es, fs, h, p => by
    cases h
    cases p
    exact ⟨fun pos pins s σ H Q I q => pk_nil.run pos pins s σ H Q I (by
      obtain ⟨T, env, rs, env', R, e, q⟩ := q
      cases e
      exact q [] H T .refl R rfl)⟩
  | ⟨some x, e, q⟩ :: r, es, fs, h, p => by
    obtain ⟨es', h1, rfl⟩ := Option.map_eq_some_iff.mp h
    cases p with
    | cons p1 p2 =>
      have ih := pk_ok h1 p2
      exact ⟨fun pos pins s σ H Q I q => (pk_cons p1.pe ih).run pos pins s σ H Q I (tFs_cons q)⟩
  | ⟨none, _, _⟩ :: _, _, _, h, _ => by cases h
theorem ex_callK {kws : List Keyword} {ke : List (Str × Expr)} (F : FnOk X.prog X.w X.K X.mg X.base CX0 k f fd ps (spF X.prog X.w X.K call lent x)) (hr : Room k X.A) (hg : Gl X x) (hm : X.mg x = some (.ref f)) (hk : PySem.W.keepIn X.K (.ref f) = true)
    (hb : KBn X.K fd ps args.length (ke.map (·.1)) (fun us ws => us ++ ws) (fun vs zs => vs ++ zs)) (hdb : (x == ("__debug__" : Str)) = false) (ha : EXs X args fs1) (hkw : allKw kws = some ke) (hke : Paired (fun (p : Str × Expr) f => EX X p.2 f) ke fs2) (h0 : 0 < args.length) :
    EX X (.Call (.Name x p) args kws pos) (eCall call x lent (fs1 ++ fs2)) := by
  refine .ofVal ⟨fun pins s σ H Q I h => ?_⟩ (fun _ => rfl) (fun _ _ _ h => nomatch h)
  have h0' := h
  obtain ⟨T, env, r, env', R, e, q⟩ := h0'
  obtain ⟨⟨rs, e9⟩, h1, _⟩ := Option.bind_eq_some_iff.mp e
  obtain ⟨r1, e1, r2, k1, k2, _⟩ := eAll_append h1
  have st := ha.star _ _ k1
  have hl2 : ke.length = fs2.length := vals_len hke
  have hq := tFs_append (call_ok (E := E0) h)
  obtain ⟨z1, z2, z3⟩ := allKw_each (env := X.env) (pos := pos) hkw
  cases args with
  | nil => cases h0
  | cons a as =>
    rw [List.all_cons] at st
    have st := Bool.and_eq_true_iff.mp st
    have sa : isStar a = false := by simpa using st.1
    refine (pe_callN F hr hg hm hk hb pass0 ha.pa (pk_ok hkw hke) z1 z2 hdb (star_ok a as X.env sa) ?_).run pins s σ H Q I (tFs_mono hq fun vs H' z => tFs_mono z fun zs H2 y => ⟨by rw [y.1, ← ha.len], by rw [y.2.1, List.length_map, hl2], y.2.2⟩)
    rw [no_star (es := a :: as) (by rw [List.all_cons, sa]; simpa using st.2), z3]
    rfl
end
end Mp

/-! Mp30: the reader keeps to the model, by induction: expressions. -/
namespace Mp
open PySem PySem.Spec PyProof.Rows L2
/-- a body (or a block) at level k, and what the reader is told of it -/
structure XOk (X : Cx) (C : Ctx) (k : Nat) : Prop where
  N : X.N = C.N
  nd : X.N.Nodup
  sc : X.env.scope = C.sc
  calm : X.calm = true
  xe : X.xe = fun _ _ => False
  room : Room k X.A
  asg : ∀ x, C.asg x = true → Loc X.env.scope x ∧ (X.fn x = true ∨ X.env.scope.names.lookup x = some .local)
  glob : ∀ x d, C.glob x = some d → ∃ u v, X.mg x = some u ∧ RelV v u ∧ ∀ H Av, Rep X.prog X.w X.K H Av d v
  blt : ∀ x, C.blt x = true → X.mg x = none
  fns : ∀ x ps lent, C.fns x = some (ps, lent) → ∃ f fd, X.mg x = some (.ref f) ∧ PySem.W.keepIn X.K (.ref f) = true ∧ FnOk X.prog X.w X.K X.mg X.base CX0 k f fd ps (spF X.prog X.w X.K C.call lent x) ∧ Binds X.K fd ps [] ∧
    ∀ n, C.kw x n = true → KBn X.K fd ps n (ps.drop n) (fun us ws => us ++ ws) (fun vs zs => vs ++ zs)
/-- where targets may stand -/
def SOk (C : Ctx) (S : Nat → Prop) : Prop := ∀ x i, C.asg x = true → slotOf C.N x = some i → S i
theorem slotOf_at : ∀ {N : List Str} {x : Str} {i : Nat}, slotOf N x = some i → N[i]? = some x
  | [], _, _, h => by cases h
  | y :: ys, x, i, h => by
    unfold slotOf at h
    split at h
    · rename_i e
      cases h
      rw [e]; rfl
    · obtain ⟨j, h1, rfl⟩ := Option.map_eq_some_iff.mp h
      have := slotOf_at h1
      simpa using this
theorem Paired.of_map {α β : Type} {F : α → β → Prop} {f : α → β} : ∀ {l : List α}, (∀ a, a ∈ l → F a (f a)) → Paired F l (l.map f)
  | [], _ => .nil
  | a :: l, h => .cons (h a (by simp)) (Paired.of_map fun b hb => h b (by simp [hb]))
section
variable {X : Cx} {C : Ctx} {k : Nat}
theorem XOk.units (o : XOk X C k) : X.A.units + 100 < cLine := by have := o.room.un; omega
theorem XOk.vis (o : XOk X C k) {x : Str} (h : isVis C.sc x = true) : Vis X.env.scope x := by
  rw [o.sc]
  unfold isVis at h
  unfold Vis
  cases g : C.sc.names.lookup x with
  | none => rw [g] at h; cases h
  | some kd => rw [g] at h; cases kd <;> first | (cases h; done) | simp
theorem XOk.gl (o : XOk X C k) {x : Str} (h : isGlob C.sc x = true) : Gl X x := by
  show X.env.scope.names.lookup x = some .globalImplicit
  rw [o.sc]
  unfold isGlob at h
  cases g : C.sc.names.lookup x with
  | none => rw [g] at h; cases h
  | some kd => rw [g] at h; cases kd <;> first | (cases h; done) | rfl
theorem XOk.isB (o : XOk X C k) {x : Str} (h : isB C x = true) : Gl X x ∧ X.mg x = none := by
  unfold Mp.isB at h
  have h := Bool.and_eq_true_iff.mp h
  exact ⟨o.gl h.1, o.blt x h.2⟩
theorem no_dbg {x : Str} (h : dbg x = false) : (x == ("__debug__" : Str)) = false ∧ (x == ("__classdict__" : Str)) = false := by
  unfold dbg at h
  exact Bool.or_eq_false_iff.mp h
theorem ex_name (o : XOk X C k) {x : Str} {pos : Pos} : EX X (.Name x pos) (nameE C x) := by
  unfold nameE
  split
  · exact .ofFail
  rename_i hd
  have hd := no_dbg (by simpa using hd)
  split
  · rename_i hv
    cases hs : slotOf C.N x with
    | none => exact .ofFail
    | some i => exact ex_var (by rw [o.N]; exact slotOf_at hs) (o.vis hv) hd.1 hd.2
  · split
    · rename_i hg
      cases hs : C.glob x with
      | none => exact .ofFail
      | some d =>
        obtain ⟨u, v, h1, h2, h3⟩ := o.glob x d hs
        exact ex_const (pe_glob (o.gl hg) h1 h2 hd.1) h3 (fun _ => rfl) (fun _ _ _ h => nomatch h)
    · exact .ofFail
theorem ex_const? {c : Const} {j : Nat} {pos : Pos} : EX X (.Constant c j pos) (match const? c with | some d => eC d | none => fail) := by
  have he : ∀ whole, PySem.isTrue (.Constant c j pos) X.env whole = (do let v ← whole; standAt (Expr.Constant c j pos).pos; holding [v] (truthy v)) := fun _ => rfl
  have hn : ∀ op es p, Expr.Constant c j pos ≠ .BoolOp op es p := fun _ _ _ h => nomatch h
  cases c with
  | none => exact ex_const pe_non (fun _ _ => .non) he hn
  | bool b => exact ex_const pe_bl (fun _ _ => .bl b) he hn
  | int i => exact ex_const pe_int (fun _ _ => .int i) he hn
  | str x => exact ex_const pe_str (fun _ _ => .str x) he hn
  | _ => exact .ofFail
/-! ### blocks -/
theorem blk_asg {scope sc : Scope} {x : Str} (h : isLoc scope x = true) : (scope.names.lookup x = some .local ∨ scope.names.lookup x = some .cell) := by
  unfold isLoc at h
  cases g : scope.names.lookup x with
  | none => rw [g] at h; cases h
  | some kd => rw [g] at h; cases kd <;> first | (cases h; done) | simp
theorem XOk.blk (o : XOk X C k) {scope : Scope} : BlkX X scope fun Y => XOk Y (C.blk scope) k := ⟨fun s H Cc cl fp => by
  refine ⟨o.N, o.nd, ?_, o.calm, rfl, o.room, fun x h => ?_, o.glob, o.blt, o.fns⟩
  · show relabel scope X.env = relS scope C.sc
    rw [← o.sc]
    rfl
  · have h := blk_asg (sc := C.sc) h
    have key : ∀ kd, kd ≠ NameKind.free → scope.names.lookup x = some kd → (relabel scope X.env).names.lookup x = some kd := fun kd hk hl => lookup_relS_keep (sc := X.env.scope) hk hl
    rcases h with h | h
    · exact ⟨.inl (key _ (by decide) h), .inr (key _ (by decide) h)⟩
    · exact ⟨.inr (key _ (by decide) h), .inl (by show (scope.names.lookup x == some .cell) = true; rw [h]; rfl)⟩⟩
theorem own_mem {N : List Str} {scope : Scope} {x : Str} {i : Nat} (h : isLoc scope x = true) (hs : slotOf N x = some i) : i ∈ (ownOf N scope).map (·.2) := by
  have h := blk_asg (sc := scope) h
  have key : ∀ (l : List (Str × NameKind)) kd, (kd = .local ∨ kd = .cell) → l.lookup x = some kd → (x, i) ∈ l.filterMap fun y => match y.2 with
      | .local => (slotOf N y.1).map fun i => (y.1, i)
      | .cell => (slotOf N y.1).map fun i => (y.1, i)
      | _ => none := by
    intro l kd hk hl
    induction l with
    | nil => cases hl
    | cons y ys ih =>
      obtain ⟨y1, y2⟩ := y
      rw [List.lookup_cons] at hl
      by_cases e : x = y1
      · subst e
        rw [show (x == x) = true from beq_self_eq_true x] at hl
        cases hl
        rw [List.filterMap_cons]
        rcases hk with rfl | rfl <;> (dsimp only; rw [hs]; simp)
      · rw [beq_no e] at hl
        have := ih hl
        rw [List.filterMap_cons]
        split
        · exact this
        · exact List.mem_cons_of_mem _ this
  have : (x, i) ∈ ownOf N scope := by
    rcases h with h | h
    · exact key _ _ (.inl rfl) h
    · exact key _ _ (.inr rfl) h
  exact List.mem_map.mpr ⟨_, this, rfl⟩
end

/-! ### the induction -/
structure All (n : Nat) : Prop where
  e : ∀ X C k, XOk X C k → ∀ e, EX X e (evE n C e)
  es : ∀ X C k, XOk X C k → ∀ es, EXs X es (evEs n C es)
  t : ∀ X C k, XOk X C k → ∀ S, SOk C S → ∀ t, PG X t (xG X S (tgE n C t))
  ts : ∀ X C k, XOk X C k → ∀ S, SOk C S → ∀ ts, GXs X S ts (tgEs n C ts)
  i : ∀ X C k, XOk X C k → ∀ tg e, PI X tg e (iF X (itE n C tg e))
theorem exs_fails {X : Cx} : ∀ es : List Expr, EXs X es (es.map fun _ => fail)
  | [] => exs_nil
  | _ :: es => exs_fail (by simp)
theorem gxs_fails {X : Cx} {S : Nat → Prop} : ∀ es : List Expr, GXs X S es (es.map fun _ => fun _ _ => none)
  | [] => gxs_nil
  | _ :: es => gxs_fail (by simp)
theorem star_fail {n : Nat} {C : Ctx} {e : Expr} (h : isStar e = true) : evE n C e = fail := by
  cases n with
  | zero => rfl
  | succ n => cases e <;> first | (cases h; done) | rfl
theorem star_failT {n : Nat} {C : Ctx} {e : Expr} (h : isStar e = true) : tgE n C e = fun _ _ => none := by
  cases n with
  | zero => rfl
  | succ n => cases e <;> first | (cases h; done) | rfl
theorem all0 : All 0 where
  e := fun X C k o e => .ofFail
  es := fun X C k o es => exs_fails es
  t := fun X C k o S h t => pg_fail
  ts := fun X C k o S h ts => gxs_fails ts
  i := fun X C k o tg e => pi_fail
theorem fail1 {X : Cx} {e : Expr} {f : EvF} (h : ∀ env q, f env = some q → False) : EX X e f where
  pe := ⟨fun _ _ _ _ _ _ q => by obtain ⟨_, env, r, env', _, e, _⟩ := q; exact (h env _ e).elim⟩
  pt := ⟨fun _ _ _ _ _ _ q => by
    obtain ⟨_, env, r, env', _, e, _⟩ := q
    obtain ⟨⟨d, e1⟩, h1, e⟩ := Option.bind_eq_some_iff.mp e
    obtain ⟨⟨r', e2⟩, h2, h1⟩ := Option.bind_eq_some_iff.mp h1
    exact (h _ _ h2).elim⟩
  pw := fun _ _ _ _ => ⟨fun _ _ _ _ _ _ _ q => by
    obtain ⟨_, env, r, env', _, e, _⟩ := q
    obtain ⟨⟨d, e1⟩, h1, e⟩ := Option.bind_eq_some_iff.mp e
    obtain ⟨⟨r', e2⟩, h2, h1⟩ := Option.bind_eq_some_iff.mp h1
    exact (h _ _ h2).elim⟩
theorem fail_op {X : Cx} {e : Expr} {f g : EvF} {kk : D → D → Option Res} (h : f = fail ∨ g = fail) : EX X e (eOp kk f g) := fail1 fun env q e => by
  obtain ⟨⟨r, e1⟩, h1, e⟩ := Option.bind_eq_some_iff.mp e
  obtain ⟨⟨r', e2⟩, h2, e⟩ := Option.bind_eq_some_iff.mp e
  rcases h with rfl | rfl
  · cases h1
  · cases h2
theorem bool_pos {op : BoolOp} {es : List Expr} {p q : Pos} {C : Ctx} : ∀ {n : Nat}, evE n C (.BoolOp op es p) = evE n C (.BoolOp op es q)
  | 0 => rfl
  | n + 1 => by simp only [evE]
section
variable {n : Nat} (ih : All n)
include ih
theorem es_succ {X : Cx} {C : Ctx} {k : Nat} (o : XOk X C k) (es : List Expr) : EXs X es (evEs (n + 1) C es) := by
  cases es with
  | nil => exact exs_nil
  | cons e es =>
    show EXs X (e :: es) (evE n C e :: evEs n C es)
    cases h : isStar e with
    | true => rw [star_fail h]; exact exs_fail (ih.es X C k o es).len
    | false => exact exs_cons (ih.e X C k o e) (ih.es X C k o es) h
theorem ts_succ {X : Cx} {C : Ctx} {k : Nat} (o : XOk X C k) {S : Nat → Prop} (hS : SOk C S) (es : List Expr) : GXs X S es (tgEs (n + 1) C es) := by
  cases es with
  | nil => exact gxs_nil
  | cons e es =>
    show GXs X S (e :: es) (tgE n C e :: tgEs n C es)
    cases h : isStar e with
    | true => rw [star_failT h]; exact gxs_fail (ih.ts X C k o S hS es).len
    | false => exact gxs_cons (ih.t X C k o S hS e) (ih.ts X C k o S hS es) h
theorem one {X : Cx} {C : Ctx} {k : Nat} (o : XOk X C k) (a : Expr) : (isStar a = false ∧ EXs X [a] [evE n C a]) ∨ evE n C a = fail := by
  cases h : isStar a with
  | true => exact .inr (star_fail h)
  | false => exact .inl ⟨rfl, exs_cons (ih.e X C k o a) exs_nil h⟩
theorem two {X : Cx} {C : Ctx} {k : Nat} (o : XOk X C k) (a b : Expr) : (isStar a = false ∧ isStar b = false ∧ EXs X [a, b] [evE n C a, evE n C b]) ∨ evE n C a = fail ∨ evE n C b = fail := by
  cases h : isStar a with
  | true => exact .inr (.inl (star_fail h))
  | false =>
    cases h2 : isStar b with
    | true => exact .inr (.inr (star_fail h2))
    | false => exact .inl ⟨rfl, rfl, exs_cons (ih.e X C k o a) (exs_cons (ih.e X C k o b) exs_nil h2) h⟩
theorem t_succ {X : Cx} {C : Ctx} {k : Nat} (o : XOk X C k) {S : Nat → Prop} (hS : SOk C S) (t : Expr) : PG X t (xG X S (tgE (n + 1) C t)) := by
  cases t with
  | Name x pos =>
    show PG X (.Name x pos) (xG X S (if C.asg x then (match slotOf C.N x with | some i => gNm i | none => fun _ _ => none) else fun _ _ => none))
    split
    · rename_i h
      cases hs : slotOf C.N x with
      | none => exact pg_fail
      | some i =>
        obtain ⟨h1, h2⟩ := o.asg x h
        exact pg_nm (hS x i h hs) o.nd (by rw [o.N]; exact slotOf_at hs) h1 h2
    · exact pg_fail
  | Tuple ts kk pos =>
    show PG X (.Tuple ts kk pos) (xG X S (if (ts.all fun e => !starE e) = true then gTp (tgEs n C ts) else fun _ _ => none))
    split
    · rename_i h
      have h' : (ts.all fun e => !isStar e) = true := h
      exact pg_tp o.calm (ih.ts X C k o S hS ts) h'
    · exact pg_fail
  | Subscript a i pos =>
    show PG X (.Subscript a i pos) (xG X S (if isSlice i = true then fun _ _ => none else gSb (evE n C a) (evE n C i)))
    split
    · exact pg_fail
    · rename_i h
      exact pg_sb o.units (ih.e X C k o a) (ih.e X C k o i) (by cases i <;> first | rfl | exact absurd rfl h)
  | _ => exact pg_fail
theorem i_succ {X : Cx} {C : Ctx} {k : Nat} (o : XOk X C k) (tg e : Expr) : PI X tg e (iF X (itE (n + 1) C tg e)) := by
  have sq : PI X tg e (iF X (itSeq (evE n C e))) := pi_seqF (ih.e X C k o e)
  cases e with
  | Call f args kws pos =>
    cases f with
    | Name x p =>
      simp only [itE]
      split
      · rename_i hb
        obtain ⟨g, m⟩ := o.isB hb
        cases kws with
        | cons _ _ => exact sq
        | nil =>
          dsimp only
          split
          · rename_i hx
            subst hx
            match args with
            | [a] =>
              rcases one ih o a with ⟨h, ha⟩ | h
              · exact pi_rng1 g m ha h
              · show PI X tg _ (iF X (itRange1 (evE n C a)))
                rw [h]; exact pi_fail
            | [a, b] =>
              rcases two ih o a b with ⟨h1, h2, ha⟩ | h
              · exact pi_rng2 g m ha h1 h2
              · refine ⟨fun pins s σ H R I q => ?_⟩
                obtain ⟨_, _, _, _, _, _, e, _⟩ := q
                obtain ⟨⟨r, e1⟩, h1, e⟩ := Option.bind_eq_some_iff.mp e
                obtain ⟨⟨r', e2⟩, h2, e⟩ := Option.bind_eq_some_iff.mp e
                rcases h with h | h
                · rw [h] at h1; cases h1
                · rw [h] at h2; cases h2
            | [] => exact pi_fail
            | _ :: _ :: _ :: _ => exact pi_fail
          · split
            · rename_i hx
              subst hx
              cases tg with
              | Tuple elts kk tpos =>
                match args with
                | [a] =>
                  rcases one ih o a with ⟨h, ha⟩ | h
                  · exact pi_enumF g m ha h
                  · show PI X _ _ (iF X (itEnum (evE n C a)))
                    rw [h]; exact pi_fail
                | [] => exact pi_fail
                | _ :: _ :: _ => exact pi_fail
              | _ => exact pi_fail
            · split
              · rename_i hx
                subst hx
                cases tg with
                | Tuple elts kk tpos =>
                  match args with
                  | [a, b] =>
                    rcases two ih o a b with ⟨h1, h2, ha⟩ | h
                    · exact pi_zipF g m ha h1 h2
                    · refine ⟨fun pins s σ H R I q => ?_⟩
                      obtain ⟨_, _, _, _, _, _, e, _⟩ := q
                      obtain ⟨⟨r, e1⟩, h1, e⟩ := Option.bind_eq_some_iff.mp e
                      obtain ⟨⟨r', e2⟩, h2, e⟩ := Option.bind_eq_some_iff.mp e
                      rcases h with h | h
                      · rw [h] at h1; cases h1
                      · rw [h] at h2; cases h2
                  | [] => exact pi_fail
                  | [_] => exact pi_fail
                  | _ :: _ :: _ :: _ => exact pi_fail
                | _ => exact pi_fail
              · exact sq
      · exact sq
    | _ => exact sq
  | _ => exact sq
theorem paired_es (low : ∀ j, j ≤ n → All j) {X : Cx} {C : Ctx} {k : Nat} (o : XOk X C k) : ∀ (m : Nat) (es : List (Str × Expr)), m ≤ n → Paired (fun (p : Str × Expr) f => EX X p.2 f) es (evEs m C (es.map (·.2)))
  | 0, es, _ => by
    show Paired _ es ((es.map (·.2)).map fun _ => fail)
    rw [List.map_map]
    exact Paired.of_map fun a _ => .ofFail
  | m + 1, [], _ => .nil
  | m + 1, p :: es, hm => .cons ((low m (by omega)).e X C k o p.2) (paired_es low o m es (by omega))
theorem part_ok {X : Cx} {C : Ctx} {k : Nat} (o : XOk X C k) (lo : Option Expr) : (lo = none ∧ lo.map (evE n C) = none) ∨ ∃ e f, lo = some e ∧ lo.map (evE n C) = some f ∧ EX X e f := by
  cases lo with
  | none => exact .inl ⟨rfl, rfl⟩
  | some e => exact .inr ⟨e, _, rfl, rfl, ih.e X C k o e⟩
theorem lc_succ (low : ∀ j, j ≤ n → All j) {X : Cx} {C : Ctx} {k : Nat} (o : XOk X C k) {scope : Scope} {tg it elt : Expr} {ifs : List Expr} (hb : blkC C.N C.sc scope (ownOf C.N scope) = true) (hl : ifs.length ≤ 1) (hs : isSetE it = false) :
    BlkOk X.N X.env.scope scope (ownOf C.N scope) ∧ BlkX X scope (fun Y => PG Y tg (xG Y (· ∈ (ownOf C.N scope).map (·.2)) (tgE n (C.blk scope) tg))) ∧ BlkX X scope (fun Y => PTs Y ifs (xT Y (tsts (evEs n (C.blk scope) ifs)))) ∧
      BlkX X scope (fun Y => EX Y elt (evE n (C.blk scope) elt)) ∧ ∀ x, foldedSetIterable it X.env x = pure x := by
  have B := o.blk (scope := scope)
  refine ⟨by rw [o.N, o.sc]; exact blkOk_by hb, ⟨fun s H Cc cl fp => ?_⟩, ⟨fun s H Cc cl fp => ?_⟩, ⟨fun s H Cc cl fp => ih.e _ _ k (B.run s H Cc cl fp) elt⟩, fun x => by cases it <;> first | rfl | cases hs⟩
  · exact ih.t _ _ k (B.run s H Cc cl fp) _ (fun x i h1 h2 => own_mem h1 h2) tg
  · have oY := B.run s H Cc cl fp
    match ifs, hl with
    | [], _ =>
      have e : evEs n (C.blk scope) [] = [] := by cases n <;> rfl
      rw [e]
      exact pts_nilF
    | [c], _ =>
      cases n with
      | zero => exact ⟨fun pins s σ H Q I q => by obtain ⟨_, _, _, _, _, e, _⟩ := q; obtain ⟨⟨_, _⟩, h1, _⟩ := Option.bind_eq_some_iff.mp e; cases h1⟩
      | succ n =>
        have e : evEs (n + 1) (C.blk scope) [c] = [evE n (C.blk scope) c] := by cases n <;> rfl
        rw [e]
        exact pts_oneF ((low n (by omega)).e _ _ k oY c)
    | _ :: _ :: _, h => simp at h
end
end Mp

/-! Mp31: the reader keeps to the model: the step for expressions. -/
namespace Mp
open PySem PySem.Spec PyProof.Rows L2
theorem fail_un {X : Cx} {e : Expr} {kk : D → Option Res} : EX X e (eUn kk fail) := fail1 fun env q e => by
  obtain ⟨⟨r, e1⟩, h1, e⟩ := Option.bind_eq_some_iff.mp e
  cases h1
section
variable {n : Nat} (ih : All n) (low : ∀ j, j ≤ n → All j)
include ih low
theorem call_succ {X : Cx} {C : Ctx} {k : Nat} (o : XOk X C k) (f : Expr) (args : List Expr) (kws : List Keyword) (pos : Pos) : EX X (.Call f args kws pos) (evE (n + 1) C (.Call f args kws pos)) := by
  cases f with
  | Name x p =>
    simp only [evE]
    split
    · rename_i hg
      have hg := Bool.and_eq_true_iff.mp hg
      have gl := o.gl hg.1
      have hd := no_dbg (by simpa using hg.2)
      cases hf : C.fns x with
      | some sg =>
        obtain ⟨ps, lent⟩ := sg
        obtain ⟨fa, fd, m1, m2, F, m3, m4⟩ := o.fns x ps lent hf
        cases kws with
        | nil =>
          dsimp only
          split
          · exact ex_call F o.room gl m1 m2 m3 hd.1 (ih.es X C k o args)
          · exact .ofFail
        | cons kw ks =>
          dsimp only
          cases hk : allKw (kw :: ks) with
          | none => exact .ofFail
          | some es =>
            dsimp only
            split
            · rename_i h
              have h := Bool.and_eq_true_iff.mp h
              have h1 := Bool.and_eq_true_iff.mp h.1
              have hb := m4 args.length h1.1
              rw [← of_decide_eq_true h1.2] at hb
              exact ex_callK F o.room gl m1 m2 hb hd.1 (ih.es X C k o args) hk (paired_es ih low o n es (Nat.le_refl n)) (of_decide_eq_true h.2)
            · exact .ofFail
      | none =>
        dsimp only
        split
        · rename_i hb
          have mg := o.blt x hb
          cases kws with
          | cons _ _ => exact .ofFail
          | nil =>
            match args with
            | [] => exact .ofFail
            | [a] =>
              show EX X _ (eB1 x (evE n C a))
              rcases one ih o a with ⟨h, ha⟩ | h
              · exact ex_b1 o.units o.calm gl mg ha h
              · rw [h]
                exact fail_un
            | [a, b] =>
              dsimp only
              split
              · rename_i hx
                cases b with
                | Name T p2 =>
                  dsimp only
                  split
                  · rename_i hB
                    obtain ⟨gT, mT⟩ := o.isB hB
                    rcases one ih o a with ⟨h, ha⟩ | h
                    · exact ex_inst hx gl mg gT mT (ih.e X C k o a) h
                    · rw [h]
                      exact fail_un
                  · exact .ofFail
                | _ => exact .ofFail
              · show EX X _ (eB2 x (evE n C a) (evE n C b))
                rcases two ih o a b with ⟨h1, h2, ha⟩ | h
                · exact ex_b2 o.calm gl mg ha h1 h2
                · exact fail_op h
            | _ :: _ :: _ :: _ => exact .ofFail
        · exact .ofFail
    · exact .ofFail
  | Attribute ob m apos =>
    cases ob with
    | Name x p =>
      simp only [evE]
      split
      · rename_i hl
        cases kws with
        | cons _ _ => exact .ofFail
        | nil =>
          match args with
          | [] => exact .ofFail
          | [a] =>
            dsimp only
            split
            · rename_i hm
              subst hm
              rcases one ih o a with ⟨h, ha⟩ | h
              · exact ex_append (ih.e X C k o _) ha hl h
              · rw [h]
                exact fail1 fun env q e => by
                  obtain ⟨⟨r, e1⟩, h1, e⟩ := Option.bind_eq_some_iff.mp e
                  obtain ⟨_, _, e⟩ := Option.bind_eq_some_iff.mp e
                  obtain ⟨⟨r', e2⟩, h2, e⟩ := Option.bind_eq_some_iff.mp e
                  cases h2
            · exact .ofFail
          | [a, b] =>
            dsimp only
            split
            · rename_i hm
              subst hm
              rcases two ih o a b with ⟨h1, h2, ha⟩ | h
              · exact ex_setdef o.units (ih.e X C k o _) ha hl h1 h2
              · exact fail1 fun env q e => by
                  obtain ⟨⟨r, e1⟩, h1, e⟩ := Option.bind_eq_some_iff.mp e
                  obtain ⟨_, _, e⟩ := Option.bind_eq_some_iff.mp e
                  obtain ⟨⟨r', e2⟩, h2, e⟩ := Option.bind_eq_some_iff.mp e
                  obtain ⟨⟨r3, e3⟩, h3, e⟩ := Option.bind_eq_some_iff.mp e
                  rcases h with h | h
                  · rw [h] at h2; cases h2
                  · rw [h] at h3; cases h3
            · exact .ofFail
          | _ :: _ :: _ :: _ => exact .ofFail
      · exact .ofFail
    | _ => exact .ofFail
  | _ => exact .ofFail
theorem e_succ {X : Cx} {C : Ctx} {k : Nat} (o : XOk X C k) (e : Expr) : EX X e (evE (n + 1) C e) := by
  cases e with
  | Constant c j pos => simp only [evE]; exact ex_const?
  | Name x pos => simp only [evE]; exact ex_name o
  | Tuple es kk pos => simp only [evE]; exact ex_tup (ih.es X C k o es)
  | List es pos => simp only [evE]; exact ex_lst (ih.es X C k o es)
  | Dict ks vs pos =>
    match ks, vs with
    | [], [] => simp only [evE]; exact ex_dict0
    | [some a], [b] => simp only [evE]; exact ex_dict1 (ih.e X C k o a) (ih.e X C k o b)
    | [], _ :: _ => exact .ofFail
    | [none], _ => simp only [evE]; exact .ofFail
    | [some _], [] => exact .ofFail
    | [some _], _ :: _ :: _ => exact .ofFail
    | _ :: _ :: _, _ => simp only [evE]; exact .ofFail
  | BinOp a op b pos => simp only [evE]; exact ex_bin (ih.e X C k o a) (ih.e X C k o b)
  | UnaryOp op a pos =>
    cases op with
    | Not => simp only [evE]; exact ex_not (ih.e X C k o a)
    | USub => simp only [evE]; exact ex_neg (ih.e X C k o a)
    | _ => exact .ofFail
  | BoolOp op es pos =>
    match es with
    | [] => exact .ofFail
    | [a] => simp only [evE]; exact ex_one (ih.e X C k o a)
    | a :: b :: r =>
      cases op with
      | And => simp only [evE]; rw [bool_pos (q := pos)]; exact ex_and (ih.e X C k o a) (ih.e X C k o _)
      | Or => simp only [evE]; rw [bool_pos (q := pos)]; exact ex_or (ih.e X C k o a) (ih.e X C k o _)
  | IfExp t a b pos => simp only [evE]; exact ex_if (ih.e X C k o t) (ih.e X C k o a) (ih.e X C k o b)
  | Compare a ops bs pos =>
    match ops, bs with
    | [op], [b] =>
      simp only [evE]
      split
      · exact .ofFail
      · rename_i h
        exact ex_cmp o.units (ih.e X C k o a) (ih.e X C k o b) (by simpa using h)
    | [op1, op2], [b, c] =>
      simp only [evE]
      split
      · exact .ofFail
      · rename_i h
        exact ex_chain o.units (ih.e X C k o a) (ih.e X C k o b) (ih.e X C k o c) (by simpa using h)
    | [], _ => simp only [evE]; exact .ofFail
    | [_], [] => exact .ofFail
    | [_], _ :: _ :: _ => exact .ofFail
    | [_, _], [] => exact .ofFail
    | [_, _], [_] => exact .ofFail
    | [_, _], _ :: _ :: _ :: _ => exact .ofFail
    | _ :: _ :: _ :: _, _ => simp only [evE]; exact .ofFail
  | Subscript a i pos =>
    cases i with
    | Slice lo hi st p2 =>
      cases st with
      | none => simp only [evE]; exact ex_sl (ih.e X C k o a) (part_ok ih o lo) (part_ok ih o hi)
      | some _ => exact .ofFail
    | _ =>
      simp only [evE]
      exact ex_ix o.units (ih.e X C k o a) (ih.e X C k o _) rfl
  | ListComp elt gs scope pos =>
    simp only [evE]
    split
    · rename_i tg it ifs
      split
      · rename_i h
        have h := Bool.and_eq_true_iff.mp h
        have h1 := Bool.and_eq_true_iff.mp h.1
        obtain ⟨b1, b2, b3, b4, b5⟩ := lc_succ ih low o (scope := scope) (tg := tg) (it := it) (elt := elt) h1.1 (of_decide_eq_true h1.2) (by simpa using h.2)
        exact ex_lc o.calm o.nd (ih.i X C k o tg it) b1 b2 b3 b4 b5
      · exact .ofFail
    · exact .ofFail
  | Call f args kws pos => exact call_succ ih low o f args kws pos
  | _ => exact .ofFail
end
theorem all_upto : ∀ n : Nat, ∀ j, j ≤ n → All j
  | 0, j, h => by
    have : j = 0 := by omega
    subst this
    exact all0
  | n + 1, j, h => by
    by_cases hj : j ≤ n
    · exact all_upto n j hj
    · have : j = n + 1 := by omega
      subst this
      have low := all_upto n
      have ih := low n (Nat.le_refl n)
      exact ⟨fun X C k o e => e_succ ih low o e, fun X C k o es => es_succ ih o es, fun X C k o S hS t => t_succ ih o hS t, fun X C k o S hS ts => ts_succ ih o hS ts, fun X C k o tg e => i_succ ih o tg e⟩
theorem all (n : Nat) : All n := all_upto n n (Nat.le_refl n)
end Mp

/-! Mp32: the reader keeps to the model: statements. -/
namespace Mp
open PySem PySem.Spec PyProof.Rows L2
section
variable {X : Cx} {C : Ctx} {k : Nat}
theorem st_none {st : Stmt} {f : StF} (h : ∀ env q, f env = some q → False) : PS X st (xS X f) := ⟨fun pins s σ H D I q => by obtain ⟨_, env, _, _, _, e, _⟩ := q; exact (h env _ e).elim⟩
theorem sAsg_none {st : Stmt} {tg : TgF} {f : EvF} (h : tg = (fun _ _ => none) ∨ f = fail) : PS X st (xS X (sAsg tg f)) := st_none fun env q e => by
  obtain ⟨⟨r, e1⟩, h1, e⟩ := Option.bind_eq_some_iff.mp e
  obtain ⟨e2, h2, e⟩ := Option.map_eq_some_iff.mp e
  rcases h with rfl | rfl
  · cases h2
  · cases h1
theorem any_ok : SOk C any := fun _ _ _ _ => trivial
theorem nm_ok (o : XOk X C k) (n : Nat) (t : Expr) : NmOk X t (tgE n C t) := by
  rintro x p rfl
  cases n with
  | zero => exact .inr rfl
  | succ n =>
    simp only [tgE]
    split
    · cases hs : slotOf C.N x with
      | none => exact .inr rfl
      | some i => exact .inl ⟨i, rfl, by rw [o.N]; exact slotOf_at hs⟩
    · exact .inr rfl
theorem nms_ok (o : XOk X C k) : ∀ (n : Nat) (ts : List Expr), Paired (NmOk X) ts (tgEs n C ts)
  | 0, ts => by
    show Paired _ ts (ts.map fun _ => fun _ _ => none)
    exact Paired.of_map fun a _ x p _ => .inr rfl
  | n + 1, [] => .nil
  | n + 1, t :: ts => .cons (nm_ok o n t) (nms_ok o n ts)
theorem asg_lc (o : XOk X C k) (n : Nat) {x : Str} {xp pos spos : Pos} {elt : Expr} {gs : List Comprehension} {scope : Scope} :
    PS X (.Assign [.Name x xp] (.ListComp elt gs scope pos) spos) (xS X (sAsg (tgE n C (.Name x xp)) (evE n C (.ListComp elt gs scope pos)))) := by
  cases n with
  | zero => exact sAsg_none (.inr rfl)
  | succ n =>
    cases ha : C.asg x with
    | false =>
      have ht : tgE (n + 1) C (.Name x xp) = fun _ _ => none := by simp only [tgE, ha]; rfl
      exact sAsg_none (.inl ht)
    | true =>
      cases hs : slotOf C.N x with
      | none =>
        have ht : tgE (n + 1) C (.Name x xp) = fun _ _ => none := by simp only [tgE, ha, hs]; rfl
        exact sAsg_none (.inl ht)
      | some i =>
        have ht : tgE (n + 1) C (.Name x xp) = gNm i := by simp only [tgE, ha, hs]; rfl
        rw [ht]
        obtain ⟨l1, l2⟩ := o.asg x ha
        simp only [evE]
        split
        · rename_i tg it ifs
          split
          · rename_i h
            have h := Bool.and_eq_true_iff.mp h
            have h1 := Bool.and_eq_true_iff.mp h.1
            obtain ⟨b1, b2, b3, b4, b5⟩ := lc_succ (all n) (all_upto n) o (scope := scope) (tg := tg) (it := it) (elt := elt) h1.1 (of_decide_eq_true h1.2) (by simpa using h.2)
            exact st_asgLc (by rw [o.N]; exact slotOf_at hs) l1 l2 o.calm o.nd ((all n).i X C k o tg it) b1 b2 b3 b4 b5
          · exact sAsg_none (.inr rfl)
        · exact sAsg_none (.inr rfl)
structure AllS (n : Nat) : Prop where
  s : ∀ X C k, XOk X C k → ∀ s, PS X s (xS X (evS n C s))
  ss : ∀ X C k, XOk X C k → ∀ s, PSs X s (xS X (evSs n C s))
theorem passes (o : XOk X C k) : PassesOwn (model X.prog X.w) X.A X.env X.xe := by
  rw [o.xe]
  exact PassesOwn.never
theorem star_target {t : Expr} {n : Nat} (h : isStar t = true) : tgE n C t = fun _ _ => none := star_failT h
theorem asg_ok1 (o : XOk X C k) (n : Nat) (t e : Expr) (pos : Pos) (hc : isComp e = false ∨ ∀ x p, t ≠ .Name x p) (hn : isTupOrList t = false ∨ isTup e = false) : PS X (.Assign [t] e pos) (xS X (sAsg (tgE n C t) (evE n C e))) := by
  cases h : isStar t with
  | true => exact sAsg_none (.inl (star_failT h))
  | false => exact st_asg ((all n).e X C k o e) ((all n).t X C k o any any_ok t) hc h hn
theorem ss_succ {n : Nat} (ih : AllS n) (o : XOk X C k) (ss : List Stmt) : PSs X ss (xS X (evSs (n + 1) C ss)) := by
  match ss with
  | [] => exact st_nil
  | [s] => exact st_one (ih.s X C k o s)
  | s :: t :: r => exact st_seq (ih.s X C k o s) (ih.ss X C k o (t :: r))
theorem s_succ {n : Nat} (ih : AllS n) (o : XOk X C k) (st : Stmt) : PS X st (xS X (evS (n + 1) C st)) := by
  have A := all n
  cases st with
  | Return oe pos =>
    cases oe with
    | none => exact st_retN
    | some e => exact st_ret (A.e X C k o e)
  | Assign ts e pos =>
    match ts with
    | [] => exact st_fail
    | _ :: _ :: _ => exact st_fail
    | [t] =>
      have gen : (isComp e = false ∨ ∀ x p, t ≠ .Name x p) → (isTupOrList t = false ∨ isTup e = false) → PS X (.Assign [t] e pos) (xS X (sAsg (tgE n C t) (evE n C e))) := asg_ok1 o n t e pos
      cases t with
      | Tuple xs kt pt =>
        cases e with
        | Tuple es k2 p2 =>
          simp only [evS]
          split
          · rename_i h
            unfold parOk at h
            have h := Bool.and_eq_true_iff.mp h
            have h1 := Bool.and_eq_true_iff.mp h.1
            exact st_par o.calm o.nd (A.ts X C k o any any_ok xs) (nms_ok o n xs) (A.es X C k o es) h1.2 (of_decide_eq_true h1.1) (by
              have := h.2
              rcases Bool.or_eq_true_iff.mp this with z | z
              · exact .inl z
              · exact .inr (by simpa using z))
          · exact st_fail
        | SetComp _ _ _ _ => exact st_fail
        | DictComp _ _ _ _ _ => exact st_fail
        | _ => exact gen (.inr fun _ _ z => nomatch z) (.inr rfl)
      | List xs pt => cases e <;> exact st_fail
      | Name x xp =>
        cases e with
        | ListComp elt gs scope p => exact asg_lc o n
        | SetComp _ _ _ _ => exact st_fail
        | DictComp _ _ _ _ _ => exact st_fail
        | _ => exact gen (.inl rfl) (.inl rfl)
      | _ =>
        cases e with
        | SetComp _ _ _ _ => exact st_fail
        | DictComp _ _ _ _ _ => exact st_fail
        | _ => exact gen (.inr fun _ _ z => nomatch z) (.inl rfl)
  | AugAssign t op e pos =>
    cases t with
    | Name x p =>
      simp only [evS]
      split
      · rename_i ha
        cases hs : slotOf C.N x with
        | none => exact st_fail
        | some i =>
          obtain ⟨l1, l2⟩ := o.asg x ha
          exact st_aug o.nd (by rw [o.N]; exact slotOf_at hs) l1 l2 (A.e X C k o e)
      · exact st_fail
    | _ => exact st_fail
  | If c a b pos => exact st_if (A.e X C k o c) (ih.ss X C k o a) (ih.ss X C k o b)
  | For tg it body els pos =>
    cases els with
    | cons _ _ => exact st_fail
    | nil =>
      simp only [evS]
      split
      · exact st_fail
      · rename_i h
        exact st_for (passes o) o.calm (A.i X C k o tg it) (A.t X C k o any any_ok tg) (ih.ss X C k o body) fun x => by cases it <;> first | rfl | exact absurd rfl h
  | While c body els pos =>
    cases els with
    | cons _ _ => exact st_fail
    | nil => exact st_while (passes o) (A.e X C k o c) (ih.ss X C k o body)
  | Expr e pos =>
    simp only [evS]
    split
    · rename_i h
      exact st_expr (A.e X C k o e) h
    · exact st_fail
  | Pass pos => exact st_pass
  | Continue pos => exact st_cont
  | Break pos => exact st_break
  | _ => exact st_fail
end
theorem allS : ∀ n : Nat, AllS n
  | 0 => ⟨fun X C k o s => st_fail, fun X C k o s => sts_fail⟩
  | n + 1 => ⟨fun X C k o s => s_succ (allS n) o s, fun X C k o s => ss_succ (allS n) o s⟩
end Mp

/-! Mp33: every def keeps its promise. -/
namespace Mp
open PySem PySem.Spec PyProof.Rows L2
theorem outs_ok : ∀ {lent : List Bool} {env : Mp.Env} {o : List D}, outs env lent = some o → (endE lent o).length = lent.length ∧ ∀ i, (lent[i]? = some true → ∃ d, get env i = .rf d ∧ get (endE lent o) i = .rf d) ∧ (lent[i]? ≠ some true → get (endE lent o) i = .un)
  | [], env, o, h => by
    have : o = [] := by cases env <;> (cases h; rfl)
    subst this
    exact ⟨rfl, fun i => ⟨fun h => by simp at h, fun _ => rfl⟩⟩
  | b :: bs, [], o, h => by cases b <;> cases h
  | false :: bs, s :: env, o, h => by
    have h : outs env bs = some o := by cases s <;> exact h
    obtain ⟨h1, h2⟩ := outs_ok h
    refine ⟨by show (endE bs o).length + 1 = _; rw [h1]; rfl, fun i => ?_⟩
    cases i with
    | zero => exact ⟨fun h => by simp at h, fun _ => rfl⟩
    | succ i =>
      obtain ⟨k1, k2⟩ := h2 i
      exact ⟨fun h => k1 (by simpa using h), fun h => k2 (by simpa using h)⟩
  | true :: bs, s :: env, o, h => by
    cases s with
    | rf d =>
      obtain ⟨o', h1, rfl⟩ := Option.map_eq_some_iff.mp (show (outs env bs).map (d :: ·) = some o from h)
      obtain ⟨h2, h3⟩ := outs_ok h1
      refine ⟨by show (endE bs o').length + 1 = _; rw [h2]; rfl, fun i => ?_⟩
      cases i with
      | zero => exact ⟨fun _ => ⟨d, rfl, rfl⟩, fun h => absurd rfl h⟩
      | succ i =>
        obtain ⟨k1, k2⟩ := h3 i
        exact ⟨fun h => k1 (by simpa using h), fun h => k2 (by simpa using h)⟩
    | un => cases h
    | fz _ => cases h
    | ow _ => cases h
    | lk _ => cases h
section
variable {P : Program} {w : World} {K : PySem.W.Frag} {T T' : Addr → Prop} {env env' : Mp.Env} {σ σ' : L2.St} {H H' : Hp}
theorem get_app (env : Mp.Env) (n i : Nat) : get (env ++ List.replicate n .un) i = get env i := by
  unfold get
  rw [List.getD_eq_getElem?_getD, List.getD_eq_getElem?_getD]
  by_cases h : i < env.length
  · rw [List.getElem?_append_left h]
  · rw [List.getElem?_append_right (by omega), List.getElem?_eq_none (l := env) (by omega)]
    rw [List.getElem?_replicate]
    split <;> rfl
theorem app_at (σ : L2.St) (n i : Nat) {v : V} : (σ ++ List.replicate n none)[i]? = some (some v) ↔ σ[i]? = some (some v) := by
  by_cases h : i < σ.length
  · rw [List.getElem?_append_left h]
  · rw [List.getElem?_append_right (by omega), List.getElem?_eq_none (l := σ) (by omega), List.getElem?_replicate]
    constructor
    · intro z; split at z <;> cases z
    · intro z; cases z
theorem app_join (σ : L2.St) (n i : Nat) : ((σ ++ List.replicate n none)[i]?).join = (σ[i]?).join := by
  by_cases h : i < σ.length
  · rw [List.getElem?_append_left h]
  · rw [List.getElem?_append_right (by omega), List.getElem?_eq_none (l := σ) (by omega), List.getElem?_replicate]
    split <;> rfl
theorem app_hld (n m i : Nat) (a : Addr) : Hld (env ++ List.replicate n .un) (σ ++ List.replicate m none) i a ↔ Hld env σ i a := by
  unfold Hld
  rw [get_app, app_at]
theorem app_held (n m : Nat) (a : Addr) : Held (env ++ List.replicate n .un) (σ ++ List.replicate m none) a ↔ Held env σ a := ⟨fun ⟨i, h⟩ => ⟨i, (app_hld n m i a).mp h⟩, fun ⟨i, h⟩ => ⟨i, (app_hld n m i a).mpr h⟩⟩
theorem app_mut (n m : Nat) (a : Addr) : Mp.Mut (env ++ List.replicate n .un) (σ ++ List.replicate m none) a ↔ Mp.Mut env σ a := by
  unfold Mp.Mut
  constructor
  · rintro ⟨i, h1, h2⟩; rw [get_app] at h1; exact ⟨i, h1, (app_at σ m i).mp h2⟩
  · rintro ⟨i, h1, h2⟩; exact ⟨i, by rw [get_app]; exact h1, (app_at σ m i).mpr h2⟩
theorem Rel.app {n m : Nat} (R : Rel P w K T env σ H) (h : n = m) : Rel P w K T (env ++ List.replicate n .un) (σ ++ List.replicate m none) H where
  len := by rw [List.length_append, List.length_append, List.length_replicate, List.length_replicate, R.len, h]
  ok := fun i => by
    rw [get_app, app_join]
    exact (R.ok i).sw fun a z => z.imp id (app_held n m a).mp
  one := fun i j a h1 h2 => R.one i j a ((app_hld n m i a).mp h1) ((app_hld n m j a).mp h2)
  apart := fun a h1 h2 => R.apart a h1 ((app_held n m a).mp h2)
  there := R.there
/-- a def's end -/
theorem def_end {lent : List Bool} {args o : List D} {vs : List V} {n m : Nat} (la : args.length = lent.length) (lv : vs.length = lent.length)
    (g : GoR T (Mp.start lent args ++ List.replicate n .un) (vs.map some ++ List.replicate m none) H T' env' σ' H') (R' : Rel P w K T' env' σ' H') (ho : outs env' lent = some o) :
    GoR T (Mp.start lent args) (vs.map some) H T' (endE lent o) (vs.map some) H' ∧ Rel P w K T' (endE lent o) (vs.map some) H' ∧ ∀ a, Avd T' (endE lent o) (vs.map some) a → Avd T' env' σ' a := by
  obtain ⟨h1, h2⟩ := outs_ok ho
  have sl : ∀ i d, get (endE lent o) i = .rf d → lent[i]? = some true ∧ get env' i = .rf d ∧ σ'[i]? = (vs.map some)[i]? := fun i d h => by
    by_cases hb : lent[i]? = some true
    · obtain ⟨d', k1, k2⟩ := (h2 i).1 hb
      rw [h] at k2
      cases k2
      refine ⟨hb, k1, (g.rfs i _ k1).2.trans ?_⟩
      have hl : i < (vs.map some).length := by rw [List.length_map, lv]; exact (List.getElem?_eq_some_iff.mp hb).1
      rw [List.getElem?_append_left hl]
    · rw [(h2 i).2 hb] at h; cases h
  have cases_ : ∀ i, (∃ d, get (endE lent o) i = .rf d) ∨ get (endE lent o) i = .un := fun i => by
    by_cases hb : lent[i]? = some true
    · obtain ⟨d, _, k⟩ := (h2 i).1 hb; exact .inl ⟨d, k⟩
    · exact .inr ((h2 i).2 hb)
  have hld : ∀ i a, Hld (endE lent o) (vs.map some) i a → Hld env' σ' i a := fun i a h => by
    rcases cases_ i with ⟨d, k⟩ | k
    · obtain ⟨_, k2, k3⟩ := sl i d k
      exact ⟨by rw [k2]; rfl, by rw [k3]; exact h.2⟩
    · have := h.1; rw [k] at this; cases this
  have held : ∀ a, Held (endE lent o) (vs.map some) a → Held env' σ' a := fun a ⟨i, h⟩ => ⟨i, hld i a h⟩
  have av : ∀ a, Avd T' (endE lent o) (vs.map some) a → Avd T' env' σ' a := fun a h => h.imp id (held a)
  refine ⟨⟨fun a u h n => g.frame a u h fun z => n ((app_mut _ _ a).mp z), g.there, fun i d h => ?_, g.sub, fun a h => (g.new a h).imp id fun z => z.imp id (app_held _ _ a).mp⟩, ⟨by rw [h1, List.length_map, lv], fun i => ?_, fun i j a x y => R'.one i j a (hld i a x) (hld j a y), fun a x y => R'.apart a x (held a y), R'.there⟩, av⟩
  · obtain ⟨hb, k2, k3⟩ := sl i d h
    obtain ⟨⟨d', e1⟩, _⟩ := g.rfs i d k2
    rw [get_app] at e1
    exact ⟨⟨d', e1⟩, rfl⟩
  · rcases cases_ i with ⟨d, k⟩ | k
    · obtain ⟨_, k2, k3⟩ := sl i d k
      rw [k]
      have q := R'.ok i
      rw [k2] at q
      obtain ⟨a, q1, q2⟩ := q
      rw [k3] at q1
      exact ⟨a, q1, q2.anti av⟩
    · rw [k]; trivial
end
/-- what the head tells of the text -/
structure Txt (P : Program) (w : World) (K : PySem.W.Frag) (mg : Str → Option Value) (pg : Pg) : Prop where
  fun_ : ∀ x f, pg.fn? x = some f → ∃ fa fd, mg x = some (.ref fa) ∧ FunD K x x (defArgs f.st) (defBody f.st) (defScope f.st) [] [] fa fd ∧ FnScope f.N f.ps (defScope f.st) ∧ f.lent.length = f.ps.length ∧ Binds K fd f.ps [] ∧
    ∀ n, pg.kws.contains (x, n) = true → KBn K fd f.ps n (f.ps.drop n) (fun us ws => us ++ ws) (fun vs zs => vs ++ zs)
  glob : ∀ x d, pg.glob.lookup x = some d → ∃ u v, mg x = some u ∧ RelV v u ∧ ∀ H Av, Rep P w K H Av d v
  blt : ∀ x, pg.blt.contains x = true → mg x = none
section
variable {P : Program} {w : World} {K : PySem.W.Frag} {mg : Str → Option Value} {pg : Pg} {base : Heap}
theorem fns_ok (t : Txt P w K mg pg) : ∀ (k : Nat) x f, pg.fn? x = some f → ∃ fa fd, mg x = some (.ref fa) ∧ FunD K x x (defArgs f.st) (defBody f.st) (defScope f.st) [] [] fa fd ∧ PySem.W.keepIn K (.ref fa) = true ∧ FnOk P w K mg base CX0 k fa fd f.ps (spF P w K (callF pg k) f.lent x) ∧ Binds K fd f.ps [] ∧
    ∀ n, pg.kws.contains (x, n) = true → KBn K fd f.ps n (f.ps.drop n) (fun us ws => us ++ ws) (fun vs zs => vs ++ zs)
  | 0, x, f, h => by
    obtain ⟨fa, fd, h1, F, S, hl, h4, h5⟩ := t.fun_ x f h
    refine ⟨fa, fd, h1, F, F.kp, ⟨fun vs H Q E ⟨_, _, _, _, _, z, _⟩ => ?_, fun A outer s H args us vs Q E _ _ _ _ ⟨_, _, _, _, _, z, _⟩ => ?_⟩, h4, h5⟩ <;> cases z
  | k + 1, x, f, h => by
    obtain ⟨fa, fd, h1, F, S, hl, h4, h5⟩ := t.fun_ x f h
    refine ⟨fa, fd, h1, F, F.kp, F.ok S (fun vs H Q E ⟨_, _, _, _, _, _, _, z, _⟩ => z.trans hl) (fun cdv A outer s H vs Q E hr q => ?_), h4, h5⟩
    obtain ⟨T, args, b, d, os, hc, la, lv, R, q⟩ := q
    have oX : XOk (cxOf CX0 P w K mg base f.N x (defScope f.st) fa cdv A outer s H E).nox (pg.ctx (callF pg k) f) k := by
      refine ⟨rfl, S.nd, rfl, rfl, rfl, hr, fun y hy => ⟨blk_asg (sc := defScope f.st) hy, .inl rfl⟩, t.glob, t.blt, fun y ps lent hs => ?_⟩
      obtain ⟨g, hg, e⟩ := Option.map_eq_some_iff.mp (show (pg.fn? y).map (fun f => (f.ps, f.lent)) = some (ps, lent) from hs)
      cases e
      obtain ⟨ga, gd, k1, _, k2, k3, k4, k5⟩ := fns_ok t k y g hg
      exact ⟨ga, gd, k1, k2, k3, k4, k5⟩
    refine ⟨xS (cxOf CX0 P w K mg base f.N x (defScope f.st) fa cdv A outer s H E).nox (evSs Mp.depth (pg.ctx (callF pg k) f) (defBody f.st)), PSs.nox ((allS Mp.depth).ss _ _ k oX (defBody f.st)), ?_⟩
    obtain ⟨f', hf, hc⟩ := Option.bind_eq_some_iff.mp (show (pg.fn? x).bind (fun f => runB (evSs Mp.depth (pg.ctx (callF pg k) f) (defBody f.st)) f args) = some (b, d, os) from hc)
    rw [h] at hf
    cases hf
    unfold runB at hc
    rw [if_pos (by rw [la, hl])] at hc
    obtain ⟨⟨fl, env'⟩, he, hc⟩ := Option.bind_eq_some_iff.mp hc
    obtain ⟨o, ho, hc⟩ := Option.bind_eq_some_iff.mp hc
    have R1 := R.app (n := f.N.length - args.length) (m := f.N.length - vs.length) (by rw [la, lv])
    refine ⟨T, _, fl, env', R1, he, ?_⟩
    cases fl with
    | nx =>
      cases hc
      intro σ' H' g R'
      obtain ⟨z1, z2, z3⟩ := def_end la lv g.goR R' ho
      exact q .non H' T z1 z2 .non
    | rt b' d' =>
      cases hc
      intro v σ' H' T' g R' i
      obtain ⟨z1, z2, z3⟩ := def_end la lv g R' ho
      refine q v H' T' z1 z2 ?_
      cases b with
      | false => exact Rep.anti i z3
      | true =>
        obtain ⟨a, e, t', n, ow⟩ := i
        exact ⟨a, e, t', n, ow.anti z3⟩
    | ct => cases hc
    | bk => cases hc
end
end Mp

/-! Mp34: the head's facts as the reader's text; the law at its entry. -/
namespace Mp
open PySem PySem.Spec PyProof.Rows L2
def strOf : D → Str
  | .str z => z
  | _ => ""
def isStrD : D → Bool
  | .str _ => true
  | _ => false
/-- what the head is asked: the defs stand, the constants are texts, the built-ins are free -/
def faOf (pg : Pg) : List He.Fa := pg.fns.map (fun f => .glo f.name) ++ pg.glob.map (fun g => .str g.1 (strOf g.2)) ++ pg.blt.map .free
def ddOf (f : Fn) : He.DefD := ⟨(f.name, none), f.name, f.name, defArgs f.st, defBody f.st, defScope f.st, [], []⟩
def fnOf (pg : Pg) : List He.DefD := pg.fns.map ddOf
inductive FAll (B : Fn → Prop) : List Fn → Prop
  | nil : FAll B []
  | cons {f : Fn} {fs : List Fn} : B f → FAll B fs → FAll B (f :: fs)
theorem FAll.get {B : Fn → Prop} : ∀ {fs : List Fn} {f : Fn}, FAll B fs → f ∈ fs → B f
  | _, f, .cons b t, h => by
    rcases List.mem_cons.mp h with rfl | h
    · exact b
    · exact t.get h
def kwOf (kws : List (Str × Nat)) (x : Str) : List Nat := kws.filterMap fun p => if p.1 = x then some p.2 else none
theorem kwOf_mem {kws : List (Str × Nat)} {x : Str} {n : Nat} (h : kws.contains (x, n) = true) : n ∈ kwOf kws x := by
  have h : (x, n) ∈ kws := by simpa using h
  exact List.mem_filterMap.mpr ⟨_, h, by rw [if_pos rfl]⟩
/-- how a def binds: its parameters are plain ones -/
structure FnB (kws : List (Str × Nat)) (f : Fn) : Prop where
  sc : FnScope f.N f.ps (defScope f.st)
  len : f.lent.length = f.ps.length
  bind : ∀ (kV doc pm : Value) (an : Option Addr) (cdv ct : Value) (us : List Value), us.length = f.ps.length → bindArgs (PySem.W.fnOf f.name f.name (defArgs f.st) (defBody f.st) (defScope f.st) .none kV doc pm an cdv ct) ⟨us, []⟩ = pure (f.ps.zip us)
  kw : ∀ n, n ∈ kwOf kws f.name → ∀ (kV doc pm : Value) (an : Option Addr) (cdv ct : Value) (us ws : List Value), us.length = n → ws.length = (f.ps.drop n).length →
    bindArgs (PySem.W.fnOf f.name f.name (defArgs f.st) (defBody f.st) (defScope f.st) .none kV doc pm an cdv ct) ⟨us, (f.ps.drop n).zip ws⟩ = pure (f.ps.zip (us ++ ws))
theorem fn_mem {pg : Pg} {x : Str} {f : Fn} (h : pg.fn? x = some f) : f ∈ pg.fns ∧ f.name = x := by
  unfold Pg.fn? at h
  have e := List.find?_some h
  exact ⟨List.mem_of_find?_eq_some h, by simpa using e⟩
theorem FunD.none {K : PySem.W.Frag} {x qual : Str} {params : Arguments} {body : List Stmt} {scope : Scope} {kws : List (Str × V)} {f : Addr} {fd : FuncData} (F : FunD K x qual params body scope [] kws f fd) :
    ∃ kV doc pm an cdv ct, fd = PySem.W.fnOf x qual params body scope .none kV doc pm an cdv ct := by
  obtain ⟨oc, od, dV, kV, doc, pm, an, cdv, ct, osl, rfl, lk, hcd, hD, hK⟩ := F.ex
  rcases hD with ⟨_, rfl⟩ | ⟨e, _⟩
  · exact ⟨_, _, _, _, _, _, rfl⟩
  · exact absurd rfl e
theorem fd_uniq {K : PySem.W.Frag} {x qual x' qual' : Str} {params params' : Arguments} {body body' : List Stmt} {scope scope' : Scope} {dvs dvs' : List V} {kws kws' : List (Str × V)} {f : Addr} {fd fd' : FuncData} (F : FunD K x qual params body scope dvs kws f fd) (F' : FunD K x' qual' params' body' scope' dvs' kws' f fd') : fd = fd' := by
  obtain ⟨oc, od, dV, kV, doc, pm, an, cdv, ct, osl, _, lk, _⟩ := F.ex
  obtain ⟨oc', od', dV', kV', doc', pm', an', cdv', ct', osl', _, lk', _⟩ := F'.ex
  rw [lk] at lk'
  cases lk'
  rfl
theorem says_fact {fa : List He.Fa} {fn : List He.DefD} {K : PySem.W.Frag} (c : He.SaysD fa fn K) {f : He.Fa} (h : f ∈ fa) : f.ok K = true := by
  obtain ⟨i, hi⟩ := List.getElem?_of_mem h
  exact c.fact i hi
theorem txt_of {P : Program} {w : World} {K : PySem.W.Frag} {h : Heap} {mg : Str → Option Value} {pg : Pg} (X : K.In h) (G : h.Ns mainGlobals mg) (c : He.SaysD (faOf pg) (fnOf pg) K) (fb : FAll (FnB pg.kws) pg.fns) (hg : (pg.glob.all fun g => isStrD g.2) = true) : Txt P w K mg pg where
  fun_ := fun x f hf => by
    obtain ⟨hm, rfl⟩ := fn_mem hf
    have B := fb.get hm
    obtain ⟨i, hi⟩ := List.getElem?_of_mem hm
    obtain ⟨fd, F⟩ := c.def_ i (d := ddOf f) (by unfold fnOf; rw [List.getElem?_map, hi]; rfl)
    have F : FunD K f.name f.name (defArgs f.st) (defBody f.st) (defScope f.st) [] [] (He.fAd K (f.name, none)) fd := F
    have mgx : mg f.name = some (.ref (He.ga K f.name)) := He.glo_ok X G (says_fact c (by
      unfold faOf
      exact List.mem_append_left _ (List.mem_append_left _ (List.mem_map.mpr ⟨f, hm, rfl⟩))))
    refine ⟨_, fd, mgx, F, B.sc, B.len, F.bindsN B.bind, fun n hn => ?_⟩
    obtain ⟨kV, doc, pm, an, cdv, ct, rfl⟩ := FunD.none F
    exact ⟨fun s us ws _ hl hl2 => .of_eq (B.kw n (kwOf_mem hn) kV doc pm an cdv ct us ws hl hl2), fun r1 r2 => Vals.append r1 r2⟩
  glob := fun x d hd => by
    have hm : (x, d) ∈ pg.glob := by
      have : ∀ (l : List (Str × D)), l.lookup x = some d → (x, d) ∈ l := by
        intro l
        induction l with
        | nil => intro z; cases z
        | cons y ys ih =>
          intro z
          obtain ⟨y1, y2⟩ := y
          rw [List.lookup_cons] at z
          by_cases e : x = y1
          · subst e
            rw [show (x == x) = true from beq_self_eq_true x] at z
            cases z
            simp
          · rw [beq_no e] at z
            exact List.mem_cons_of_mem _ (ih z)
      exact this _ hd
    have hs := List.all_eq_true.mp hg _ hm
    cases d <;> first | (cases hs; done) | skip
    rename_i z
    obtain ⟨t, e⟩ := He.str_ok X G (says_fact c (f := .str x z) (by
      unfold faOf
      exact List.mem_append_left _ (List.mem_append_right _ (List.mem_map.mpr ⟨_, hm, rfl⟩))))
    exact ⟨_, .str z, e, ⟨t, rfl⟩, fun _ _ => .str z⟩
  blt := fun x hx => He.free_ok X G (says_fact c (by
    unfold faOf
    refine List.mem_append_right _ (List.mem_map.mpr ⟨x, ?_, rfl⟩)
    simpa using hx))
/-- the law at its entry -/
theorem law_entry {P : Program} {w : World} {K : PySem.W.Frag} {pg : Pg} {k : Nat} {x : Str} {H : Hp} {a : Addr} {ns : List Int} {lent : List Bool} {o : List D} (hl : lent = [false]) (ho : Only H) (hS : SqL K H a (ns.map V.int))
    (h : ∃ b, callF pg k x [.list (ns.map .int)] = some (b, .bool true, o)) (E : XK) : spF P w K (callF pg k) lent x [.ref a] H (fun v _ => v = .bl true) E := by
  subst hl
  obtain ⟨b, h⟩ := h
  have noH : ∀ c, ¬ Held (Mp.start [false] [.list (ns.map .int)]) [some (.ref a)] c := fun c ⟨i, h1, h2⟩ => by
    cases i with
    | zero => cases h1
    | succ i => simp at h2
  refine ⟨fun _ => False, [.list (ns.map .int)], b, .bool true, o, h, rfl, rfl, ⟨rfl, fun i => ?_, fun i j c h1 _ => (noH c ⟨i, h1⟩).elim, fun c h => h.elim, fun c h => h.elim⟩, fun v H' T' g R' i => ?_⟩
  · cases i with
    | zero =>
      refine ⟨.ref a, rfl, ?_⟩
      refine .lst ?_ (repL_ints ns)
      rcases hS with hS | hS
      · exact .inl ⟨fun z => z.elim id (noH a), hS⟩
      · exact .inr hS
    | succ i => exact trivial
  · cases b with
    | false =>
      have i : Rep P w K H' _ (.bool true) v := i
      cases i
      rfl
    | true =>
      obtain ⟨c, rfl, _, _, ow⟩ := i
      cases ow
end Mp

/-! the head of lefthalfdone_k64_whole_what_stands_behin -/
namespace Law
open PySem PySem.Spec PyProof.Rows L2 Mp
abbrev pw : Program := PySem.Challenge.pw_lefthalfdone_k64_whole_what_stands_behin
def top (i : Nat) : Stmt := PySem.Challenge.pw_lefthalfdone_k64_whole_what_stands_behin.main.body.getD i (.Pass ⟨0, 0, 0, 0⟩)
def f5 : Fn := { name := "first_standing", ps := ["world", "stretch"], lent := [false, false], N := ["world", "stretch"], st := top 5 }
def f6 : Fn := { name := "came_to", ps := ["world", "kind", "board", "number", "person"], lent := [false, false, false, false, false], N := ["world", "kind", "board", "number", "person"], st := top 6 }
def f7 : Fn := { name := "did", ps := ["world", "stretch", "standing", "deed"], lent := [false, false, false, false], N := ["world", "stretch", "standing", "deed", "kind", "board", "number", "person", "step"], st := top 7 }
def f8 : Fn := { name := "other_did", ps := ["world", "standing", "deed"], lent := [false, false, false], N := ["world", "standing", "deed", "kind", "board", "number", "person", "there"], st := top 8 }
def f9 : Fn := { name := "behind_row", ps := ["world", "stretch", "standing", "row"], lent := [false, false, false, false], N := ["world", "stretch", "standing", "row", "kind", "board", "number", "person"], st := top 9 }
def f10 : Fn := { name := "standings", ps := ["world", "stretch", "log"], lent := [false, false, false], N := ["world", "stretch", "log", "found", "row"], st := top 10 }
def f11 : Fn := { name := "paid", ps := ["world", "stretch", "log"], lent := [false, false, false], N := ["world", "stretch", "log", "cost", "breaks", "kind", "board", "number", "person", "row"], st := top 11 }
def f13 : Fn := { name := "_law_box", ps := ["script", "k"], lent := [false, false], N := ["script", "k", "cell", "great"], st := top 13 }
def f14 : Fn := { name := "_law_take", ps := ["box", "many"], lent := [true, false], N := ["box", "many", "digit", "raw"], st := top 14 }
def f15 : Fn := { name := "_law_pick", ps := ["box", "some"], lent := [true, false], N := ["box", "some"], st := top 15 }
def f16 : Fn := { name := "_law_same", ps := ["told", "due"], lent := [false, false], N := ["told", "due", "one", "other"], st := top 16 }
def f17 : Fn := { name := "_law_behind", ps := ["world", "board", "time"], lent := [false, false, false], N := ["world", "board", "time", "found", "last", "turn", "more", "here", "there", "one"], st := top 17 }
def f18 : Fn := { name := "_law_leave", ps := ["world", "board", "time"], lent := [false, false, false], N := ["world", "board", "time", "here"], st := top 18 }
def f19 : Fn := { name := "_law_quick", ps := ["world", "board", "most"], lent := [false, false, false], N := ["world", "board", "most", "found", "last", "turn", "later", "cost", "row", "here", "deed", "step", "one"], st := top 19 }
def f20 : Fn := { name := "_law_answers", ps := ["world", "grace", "time", "board"], lent := [false, false, false, false], N := ["world", "grace", "time", "board", "rows", "found", "there", "places", "row", "here"], st := top 20 }
def f21 : Fn := { name := "_law_moves", ps := ["world", "stretch", "time", "place"], lent := [false, false, false, false], N := ["world", "stretch", "time", "place", "found", "deed", "step", "here"], st := top 21 }
def f22 : Fn := { name := "_law_places", ps := ["world", "stretch"], lent := [false, false], N := ["world", "stretch", "found", "board", "since"], st := top 22 }
def f23 : Fn := { name := "_law_rules_of", ps := ["world", "grace", "stretch", "time"], lent := [false, false, false, false], N := ["world", "grace", "stretch", "time", "found", "place", "calls"], st := top 23 }
def f24 : Fn := { name := "_law_worth_rows", ps := ["world", "grace", "stretch", "time", "breaks", "cap"], lent := [false, false, false, false, false, false], N := ["world", "grace", "stretch", "time", "breaks", "cap", "rules", "found", "turn", "place", "told", "called", "calls", "some", "changed", "worth", "cost", "places", "one", "move"], st := top 24 }
def f25 : Fn := { name := "_law_least", ps := ["own", "quick", "whose_now", "others", "never", "done", "people"], lent := [false, false, false, false, false, false, false], N := ["own", "quick", "whose_now", "others", "never", "done", "people", "board", "kinds", "turn", "names", "later", "mine", "there", "order", "spots", "rows", "theirs", "here", "step", "one"], st := top 25 }
def f26 : Fn := { name := "_law_pay", ps := [], lent := [], N := ["none"], st := top 26 }
def f27 : Fn := { name := "_law_aside", ps := [], lent := [], N := ["none", "own"], st := top 27 }
def f28 : Fn := { name := "_law_undone", ps := [], lent := [], N := ["none"], st := top 28 }
def f29 : Fn := { name := "_law_milk", ps := [], lent := [], N := ["none"], st := top 29 }
def f30 : Fn := { name := "_law_any_world", ps := ["box", "boards"], lent := [true, false], N := ["box", "boards", "many", "mine", "theirs", "people", "own", "others", "board", "row", "deed", "there", "never", "done", "quick", "whose_now"], st := top 30 }
def f31 : Fn := { name := "_law_case", ps := ["box", "boards"], lent := [true, false], N := ["box", "boards", "turn", "world", "grace", "stretch", "time", "told"], st := top 31 }
def f32 : Fn := { name := "_law_stand", ps := ["world", "stretch", "standing", "row"], lent := [false, false, false, false], N := ["world", "stretch", "standing", "row", "kind", "board", "number", "person", "word", "there"], st := top 32 }
def f33 : Fn := { name := "_law_stands", ps := ["world", "stretch", "log"], lent := [false, false, false], N := ["world", "stretch", "log", "found", "row"], st := top 33 }
def f34 : Fn := { name := "_law_wrongs", ps := ["world", "grace", "stretch", "time", "standing", "row"], lent := [false, false, false, false, false, false], N := ["world", "grace", "stretch", "time", "standing", "row", "kind", "board", "number", "person", "word", "found"], st := top 34 }
def f35 : Fn := { name := "_law_any_row", ps := ["box", "world"], lent := [true, false], N := ["box", "world", "way"], st := top 35 }
def f36 : Fn := { name := "_law_next_row", ps := ["box", "world", "grace", "stretch", "time", "standing"], lent := [true, false, false, false, false, false], N := ["box", "world", "grace", "stretch", "time", "standing", "kind", "board", "number", "person", "some", "deed", "one", "row"], st := top 36 }
def f37 : Fn := { name := "_law_any_log", ps := ["box", "world", "grace", "stretch", "time", "many"], lent := [true, false, false, false, false, false], N := ["box", "world", "grace", "stretch", "time", "many", "log", "clean", "turn", "row"], st := top 37 }
def f38 : Fn := { name := "law", ps := ["script"], lent := [false], N := ["script", "milk", "lid", "due", "k", "box", "world", "grace", "stretch", "time", "turn", "log", "cost", "left", "standing", "row", "told", "cut"], st := top 38 }
def pg : Pg := { fns := [f5, f6, f7, f8, f9, f10, f11, f13, f14, f15, f16, f17, f18, f19, f20, f21, f22, f23, f24, f25, f26, f27, f28, f29, f30, f31, f32, f33, f34, f35, f36, f37, f38], glob := [("HERE", .str "here"), ("CALLED", .str "called"), ("AWAY", .str "away"), ("DONE", .str "done")], blt := bltNames, kws := [("standings", 2), ("paid", 2)], F := 10000 }
theorem b5 : FnB pg.kws f5 := by
  refine ⟨⟨rfl, rfl, rfl, by decide +kernel, rfl, by decide +kernel, by decide +kernel⟩, rfl, fun _ _ _ _ _ _ us hl => match us, hl with | [_, _], _ => rfl, ?_⟩
  exact fun n hn => by
    rw [show kwOf pg.kws f5.name = [] by decide +kernel] at hn
    cases hn
theorem b6 : FnB pg.kws f6 := by
  refine ⟨⟨rfl, rfl, rfl, by decide +kernel, rfl, by decide +kernel, by decide +kernel⟩, rfl, fun _ _ _ _ _ _ us hl => match us, hl with | [_, _, _, _, _], _ => rfl, ?_⟩
  exact fun n hn => by
    rw [show kwOf pg.kws f6.name = [] by decide +kernel] at hn
    cases hn
theorem b7 : FnB pg.kws f7 := by
  refine ⟨⟨rfl, rfl, rfl, by decide +kernel, rfl, by decide +kernel, by decide +kernel⟩, rfl, fun _ _ _ _ _ _ us hl => match us, hl with | [_, _, _, _], _ => rfl, ?_⟩
  exact fun n hn => by
    rw [show kwOf pg.kws f7.name = [] by decide +kernel] at hn
    cases hn
theorem b8 : FnB pg.kws f8 := by
  refine ⟨⟨rfl, rfl, rfl, by decide +kernel, rfl, by decide +kernel, by decide +kernel⟩, rfl, fun _ _ _ _ _ _ us hl => match us, hl with | [_, _, _], _ => rfl, ?_⟩
  exact fun n hn => by
    rw [show kwOf pg.kws f8.name = [] by decide +kernel] at hn
    cases hn
theorem b9 : FnB pg.kws f9 := by
  refine ⟨⟨rfl, rfl, rfl, by decide +kernel, rfl, by decide +kernel, by decide +kernel⟩, rfl, fun _ _ _ _ _ _ us hl => match us, hl with | [_, _, _, _], _ => rfl, ?_⟩
  exact fun n hn => by
    rw [show kwOf pg.kws f9.name = [] by decide +kernel] at hn
    cases hn
theorem b10 : FnB pg.kws f10 := by
  refine ⟨⟨rfl, rfl, rfl, by decide +kernel, rfl, by decide +kernel, by decide +kernel⟩, rfl, fun _ _ _ _ _ _ us hl => match us, hl with | [_, _, _], _ => rfl, ?_⟩
  exact fun n hn kV doc pm an cdv ct us ws hl hl2 => by
    rw [show kwOf pg.kws f10.name = [2] by decide +kernel] at hn
    cases List.mem_singleton.mp hn
    match us, ws, hl, hl2 with
    | [_, _], [_], _, _ => rfl
theorem b11 : FnB pg.kws f11 := by
  refine ⟨⟨rfl, rfl, rfl, by decide +kernel, rfl, by decide +kernel, by decide +kernel⟩, rfl, fun _ _ _ _ _ _ us hl => match us, hl with | [_, _, _], _ => rfl, ?_⟩
  exact fun n hn kV doc pm an cdv ct us ws hl hl2 => by
    rw [show kwOf pg.kws f11.name = [2] by decide +kernel] at hn
    cases List.mem_singleton.mp hn
    match us, ws, hl, hl2 with
    | [_, _], [_], _, _ => rfl
theorem b13 : FnB pg.kws f13 := by
  refine ⟨⟨rfl, rfl, rfl, by decide +kernel, rfl, by decide +kernel, by decide +kernel⟩, rfl, fun _ _ _ _ _ _ us hl => match us, hl with | [_, _], _ => rfl, ?_⟩
  exact fun n hn => by
    rw [show kwOf pg.kws f13.name = [] by decide +kernel] at hn
    cases hn
theorem b14 : FnB pg.kws f14 := by
  refine ⟨⟨rfl, rfl, rfl, by decide +kernel, rfl, by decide +kernel, by decide +kernel⟩, rfl, fun _ _ _ _ _ _ us hl => match us, hl with | [_, _], _ => rfl, ?_⟩
  exact fun n hn => by
    rw [show kwOf pg.kws f14.name = [] by decide +kernel] at hn
    cases hn
theorem b15 : FnB pg.kws f15 := by
  refine ⟨⟨rfl, rfl, rfl, by decide +kernel, rfl, by decide +kernel, by decide +kernel⟩, rfl, fun _ _ _ _ _ _ us hl => match us, hl with | [_, _], _ => rfl, ?_⟩
  exact fun n hn => by
    rw [show kwOf pg.kws f15.name = [] by decide +kernel] at hn
    cases hn
theorem b16 : FnB pg.kws f16 := by
  refine ⟨⟨rfl, rfl, rfl, by decide +kernel, rfl, by decide +kernel, by decide +kernel⟩, rfl, fun _ _ _ _ _ _ us hl => match us, hl with | [_, _], _ => rfl, ?_⟩
  exact fun n hn => by
    rw [show kwOf pg.kws f16.name = [] by decide +kernel] at hn
    cases hn
theorem b17 : FnB pg.kws f17 := by
  refine ⟨⟨rfl, rfl, rfl, by decide +kernel, rfl, by decide +kernel, by decide +kernel⟩, rfl, fun _ _ _ _ _ _ us hl => match us, hl with | [_, _, _], _ => rfl, ?_⟩
  exact fun n hn => by
    rw [show kwOf pg.kws f17.name = [] by decide +kernel] at hn
    cases hn
theorem b18 : FnB pg.kws f18 := by
  refine ⟨⟨rfl, rfl, rfl, by decide +kernel, rfl, by decide +kernel, by decide +kernel⟩, rfl, fun _ _ _ _ _ _ us hl => match us, hl with | [_, _, _], _ => rfl, ?_⟩
  exact fun n hn => by
    rw [show kwOf pg.kws f18.name = [] by decide +kernel] at hn
    cases hn
theorem b19 : FnB pg.kws f19 := by
  refine ⟨⟨rfl, rfl, rfl, by decide +kernel, rfl, by decide +kernel, by decide +kernel⟩, rfl, fun _ _ _ _ _ _ us hl => match us, hl with | [_, _, _], _ => rfl, ?_⟩
  exact fun n hn => by
    rw [show kwOf pg.kws f19.name = [] by decide +kernel] at hn
    cases hn
theorem b20 : FnB pg.kws f20 := by
  refine ⟨⟨rfl, rfl, rfl, by decide +kernel, rfl, by decide +kernel, by decide +kernel⟩, rfl, fun _ _ _ _ _ _ us hl => match us, hl with | [_, _, _, _], _ => rfl, ?_⟩
  exact fun n hn => by
    rw [show kwOf pg.kws f20.name = [] by decide +kernel] at hn
    cases hn
theorem b21 : FnB pg.kws f21 := by
  refine ⟨⟨rfl, rfl, rfl, by decide +kernel, rfl, by decide +kernel, by decide +kernel⟩, rfl, fun _ _ _ _ _ _ us hl => match us, hl with | [_, _, _, _], _ => rfl, ?_⟩
  exact fun n hn => by
    rw [show kwOf pg.kws f21.name = [] by decide +kernel] at hn
    cases hn
theorem b22 : FnB pg.kws f22 := by
  refine ⟨⟨rfl, rfl, rfl, by decide +kernel, rfl, by decide +kernel, by decide +kernel⟩, rfl, fun _ _ _ _ _ _ us hl => match us, hl with | [_, _], _ => rfl, ?_⟩
  exact fun n hn => by
    rw [show kwOf pg.kws f22.name = [] by decide +kernel] at hn
    cases hn
theorem b23 : FnB pg.kws f23 := by
  refine ⟨⟨rfl, rfl, rfl, by decide +kernel, rfl, by decide +kernel, by decide +kernel⟩, rfl, fun _ _ _ _ _ _ us hl => match us, hl with | [_, _, _, _], _ => rfl, ?_⟩
  exact fun n hn => by
    rw [show kwOf pg.kws f23.name = [] by decide +kernel] at hn
    cases hn
theorem b24 : FnB pg.kws f24 := by
  refine ⟨⟨rfl, rfl, rfl, by decide +kernel, rfl, by decide +kernel, by decide +kernel⟩, rfl, fun _ _ _ _ _ _ us hl => match us, hl with | [_, _, _, _, _, _], _ => rfl, ?_⟩
  exact fun n hn => by
    rw [show kwOf pg.kws f24.name = [] by decide +kernel] at hn
    cases hn
theorem b25 : FnB pg.kws f25 := by
  refine ⟨⟨rfl, rfl, rfl, by decide +kernel, rfl, by decide +kernel, by decide +kernel⟩, rfl, fun _ _ _ _ _ _ us hl => match us, hl with | [_, _, _, _, _, _, _], _ => rfl, ?_⟩
  exact fun n hn => by
    rw [show kwOf pg.kws f25.name = [] by decide +kernel] at hn
    cases hn
theorem b26 : FnB pg.kws f26 := by
  refine ⟨⟨rfl, rfl, rfl, by decide +kernel, rfl, by decide +kernel, by decide +kernel⟩, rfl, fun _ _ _ _ _ _ us hl => match us, hl with | [], _ => rfl, ?_⟩
  exact fun n hn => by
    rw [show kwOf pg.kws f26.name = [] by decide +kernel] at hn
    cases hn
theorem b27 : FnB pg.kws f27 := by
  refine ⟨⟨rfl, rfl, rfl, by decide +kernel, rfl, by decide +kernel, by decide +kernel⟩, rfl, fun _ _ _ _ _ _ us hl => match us, hl with | [], _ => rfl, ?_⟩
  exact fun n hn => by
    rw [show kwOf pg.kws f27.name = [] by decide +kernel] at hn
    cases hn
theorem b28 : FnB pg.kws f28 := by
  refine ⟨⟨rfl, rfl, rfl, by decide +kernel, rfl, by decide +kernel, by decide +kernel⟩, rfl, fun _ _ _ _ _ _ us hl => match us, hl with | [], _ => rfl, ?_⟩
  exact fun n hn => by
    rw [show kwOf pg.kws f28.name = [] by decide +kernel] at hn
    cases hn
theorem b29 : FnB pg.kws f29 := by
  refine ⟨⟨rfl, rfl, rfl, by decide +kernel, rfl, by decide +kernel, by decide +kernel⟩, rfl, fun _ _ _ _ _ _ us hl => match us, hl with | [], _ => rfl, ?_⟩
  exact fun n hn => by
    rw [show kwOf pg.kws f29.name = [] by decide +kernel] at hn
    cases hn
theorem b30 : FnB pg.kws f30 := by
  refine ⟨⟨rfl, rfl, rfl, by decide +kernel, rfl, by decide +kernel, by decide +kernel⟩, rfl, fun _ _ _ _ _ _ us hl => match us, hl with | [_, _], _ => rfl, ?_⟩
  exact fun n hn => by
    rw [show kwOf pg.kws f30.name = [] by decide +kernel] at hn
    cases hn
theorem b31 : FnB pg.kws f31 := by
  refine ⟨⟨rfl, rfl, rfl, by decide +kernel, rfl, by decide +kernel, by decide +kernel⟩, rfl, fun _ _ _ _ _ _ us hl => match us, hl with | [_, _], _ => rfl, ?_⟩
  exact fun n hn => by
    rw [show kwOf pg.kws f31.name = [] by decide +kernel] at hn
    cases hn
theorem b32 : FnB pg.kws f32 := by
  refine ⟨⟨rfl, rfl, rfl, by decide +kernel, rfl, by decide +kernel, by decide +kernel⟩, rfl, fun _ _ _ _ _ _ us hl => match us, hl with | [_, _, _, _], _ => rfl, ?_⟩
  exact fun n hn => by
    rw [show kwOf pg.kws f32.name = [] by decide +kernel] at hn
    cases hn
theorem b33 : FnB pg.kws f33 := by
  refine ⟨⟨rfl, rfl, rfl, by decide +kernel, rfl, by decide +kernel, by decide +kernel⟩, rfl, fun _ _ _ _ _ _ us hl => match us, hl with | [_, _, _], _ => rfl, ?_⟩
  exact fun n hn => by
    rw [show kwOf pg.kws f33.name = [] by decide +kernel] at hn
    cases hn
theorem b34 : FnB pg.kws f34 := by
  refine ⟨⟨rfl, rfl, rfl, by decide +kernel, rfl, by decide +kernel, by decide +kernel⟩, rfl, fun _ _ _ _ _ _ us hl => match us, hl with | [_, _, _, _, _, _], _ => rfl, ?_⟩
  exact fun n hn => by
    rw [show kwOf pg.kws f34.name = [] by decide +kernel] at hn
    cases hn
theorem b35 : FnB pg.kws f35 := by
  refine ⟨⟨rfl, rfl, rfl, by decide +kernel, rfl, by decide +kernel, by decide +kernel⟩, rfl, fun _ _ _ _ _ _ us hl => match us, hl with | [_, _], _ => rfl, ?_⟩
  exact fun n hn => by
    rw [show kwOf pg.kws f35.name = [] by decide +kernel] at hn
    cases hn
theorem b36 : FnB pg.kws f36 := by
  refine ⟨⟨rfl, rfl, rfl, by decide +kernel, rfl, by decide +kernel, by decide +kernel⟩, rfl, fun _ _ _ _ _ _ us hl => match us, hl with | [_, _, _, _, _, _], _ => rfl, ?_⟩
  exact fun n hn => by
    rw [show kwOf pg.kws f36.name = [] by decide +kernel] at hn
    cases hn
theorem b37 : FnB pg.kws f37 := by
  refine ⟨⟨rfl, rfl, rfl, by decide +kernel, rfl, by decide +kernel, by decide +kernel⟩, rfl, fun _ _ _ _ _ _ us hl => match us, hl with | [_, _, _, _, _, _], _ => rfl, ?_⟩
  exact fun n hn => by
    rw [show kwOf pg.kws f37.name = [] by decide +kernel] at hn
    cases hn
theorem b38 : FnB pg.kws f38 := by
  refine ⟨⟨rfl, rfl, rfl, by decide +kernel, rfl, by decide +kernel, by decide +kernel⟩, rfl, fun _ _ _ _ _ _ us hl => match us, hl with | [_], _ => rfl, ?_⟩
  exact fun n hn => by
    rw [show kwOf pg.kws f38.name = [] by decide +kernel] at hn
    cases hn
theorem fb : FAll (FnB pg.kws) pg.fns := .cons b5 (.cons b6 (.cons b7 (.cons b8 (.cons b9 (.cons b10 (.cons b11 (.cons b13 (.cons b14 (.cons b15 (.cons b16 (.cons b17 (.cons b18 (.cons b19 (.cons b20 (.cons b21 (.cons b22 (.cons b23 (.cons b24 (.cons b25 (.cons b26 (.cons b27 (.cons b28 (.cons b29 (.cons b30 (.cons b31 (.cons b32 (.cons b33 (.cons b34 (.cons b35 (.cons b36 (.cons b37 (.cons b38 (.nil)))))))))))))))))))))))))))))))))

end Law

namespace Law
open PySem PySem.Spec PyProof.Rows L2 Mp
def fn : List He.DefD := fnOf pg
def fa : List He.Fa := faOf pg
abbrev R : PySem.W.OpenRow := PySem.W.OpenLaw.row PySem.Challenge.rw_lefthalfdone_k64_whole_what_stands_behin
abbrev hk : PySem.W.Hook := He.hookD 4 fa fn
def ob (s : PySem.W.SharedT) : He.AlD := He.obsDG 4 fa fn (HandSHeadRun.getT s)
theorem ob_eq (s : PySem.W.SharedT) : ob s = hk.obs s.abs := He.obsDG_eq (HandSHeadRun.getT_eq s)
def looseA : List Str := ["HERE", "CALLED", "AWAY", "DONE", "first_standing", "came_to", "did", "other_did", "behind_row", "standings", "paid", "_law_box"]
def looseB : List Str := ["_law_take", "_law_pick", "_law_same", "_law_behind", "_law_leave", "_law_quick", "_law_answers", "_law_moves", "_law_places", "_law_rules_of", "_law_worth_rows", "_law_least"]
def looseC : List Str := ["_law_pay", "_law_aside", "_law_undone", "_law_milk", "_law_any_world", "_law_case", "_law_stand", "_law_stands", "_law_wrongs", "_law_any_row", "_law_next_row", "_law_any_log"]
def loose : List Str := looseA ++ looseB ++ looseC
theorem run (w : World) : HandSHeadRun.RunEq R (PySem.W.view R.prog [38]) hk ob 3000 loose w := by
  intro os
  kernel_rfl
end Law

/-! Mq1: what the reader answers, step by step: W o Q says that o is some value with Q; what is left to do stands as a named word. -/
namespace Mp.P
open PySem
def W {α : Type} (o : Option α) (Q : α → Prop) : Prop := ∃ a, o = some a ∧ Q a
theorem W.mk {α : Type} {o : Option α} {a : α} {Q : α → Prop} (h : o = some a) (q : Q a) : W o Q := ⟨a, h, q⟩
theorem W.mono {α : Type} {o : Option α} {P Q : α → Prop} (h : W o P) (k : ∀ a, P a → Q a) : W o Q := by
  obtain ⟨a, e, p⟩ := h
  exact ⟨a, e, k a p⟩
@[scoped simp] theorem W_some {α : Type} (a : α) (Q : α → Prop) : W (some a) Q ↔ Q a := ⟨fun ⟨_, h, q⟩ => (by cases h; exact q), fun q => ⟨a, rfl, q⟩⟩
@[scoped simp] theorem W_none {α : Type} (Q : α → Prop) : W (none : Option α) Q ↔ False := ⟨fun ⟨_, h, _⟩ => (nomatch h), False.elim⟩
def Kb {α β : Type} (f : α → Option β) (Q : β → Prop) (a : α) : Prop := W (f a) Q
def Km {α β : Type} (f : α → β) (Q : β → Prop) (a : α) : Prop := Q (f a)
@[scoped simp] theorem Kb_ap {α β : Type} (f : α → Option β) (Q : β → Prop) (a : α) : Kb f Q a ↔ W (f a) Q := Iff.rfl
@[scoped simp] theorem Km_ap {α β : Type} (f : α → β) (Q : β → Prop) (a : α) : Km f Q a ↔ Q (f a) := Iff.rfl
@[scoped simp] theorem W_bind {α β : Type} (o : Option α) (f : α → Option β) (Q : β → Prop) : W (o.bind f) Q ↔ W o (Kb f Q) := by
  cases o with
  | none => exact ⟨fun ⟨_, h, _⟩ => (nomatch h), fun ⟨_, h, _⟩ => (nomatch h)⟩
  | some a => exact ⟨fun h => ⟨a, rfl, h⟩, fun ⟨_, h, q⟩ => (by cases h; exact q)⟩
@[scoped simp] theorem W_map {α β : Type} (o : Option α) (f : α → β) (Q : β → Prop) : W (o.map f) Q ↔ W o (Km f Q) := by
  cases o with
  | none => exact ⟨fun ⟨_, h, _⟩ => (nomatch h), fun ⟨_, h, _⟩ => (nomatch h)⟩
  | some a => exact ⟨fun ⟨_, h, q⟩ => ⟨a, rfl, (by cases h; exact q)⟩, fun ⟨_, h, q⟩ => (by cases h; exact ⟨_, rfl, q⟩)⟩
/-- a fork that is not looked into before it is known -/
def Br (b : Bool) (P Q : Unit → Prop) : Prop := if b = true then P () else Q ()
@[scoped simp] theorem Br_t (P Q : Unit → Prop) : Br true P Q ↔ P () := by simp [Br]
@[scoped simp] theorem Br_f (P Q : Unit → Prop) : Br false P Q ↔ Q () := by simp [Br]
theorem Br.mk {b : Bool} {P Q : Unit → Prop} (h : b = true → P ()) (k : b = false → Q ()) : Br b P Q := by
  cases b
  · exact (Br_f P Q).2 (k rfl)
  · exact (Br_t P Q).2 (h rfl)
theorem Br.mkd {c : Prop} [Decidable c] {P Q : Unit → Prop} (h : c → P ()) (k : ¬ c → Q ()) : Br (decide c) P Q := Br.mk (fun e => h (of_decide_eq_true e)) (fun e => k (of_decide_eq_false e))
def KW {α : Type} (f : Env → Option α) (e : Env) (Q : α → Prop) (_ : Unit) : Prop := W (f e) Q
def Kq {α : Type} (a : α) (Q : α → Prop) (_ : Unit) : Prop := Q a
@[scoped simp] theorem KW_ap {α : Type} (f : Env → Option α) (e : Env) (Q : α → Prop) : KW f e Q () ↔ W (f e) Q := Iff.rfl
@[scoped simp] theorem Kq_ap {α : Type} (a : α) (Q : α → Prop) : Kq a Q () ↔ Q a := Iff.rfl
/-- a value and the names as they stand -/
def Kp {α : Type} (e : Env) (Q : α × Env → Prop) (a : α) : Prop := Q (a, e)
@[scoped simp] theorem Kp_ap {α : Type} (e : Env) (Q : α × Env → Prop) (a : α) : Kp e Q a ↔ Q (a, e) := Iff.rfl

/-! ### slots -/
@[scoped simp] theorem get_z (x : Slot) (xs : Env) : get (x :: xs) 0 = x := rfl
@[scoped simp] theorem get_s (x : Slot) (xs : Env) (n : Nat) : get (x :: xs) (n + 1) = get xs n := by simp [get]
def slotR (i : Nat) : Slot → Option Res
  | .un => none
  | .fz d => some (.val d)
  | _ => some (.plc i)
def slotC : Slot → Option D
  | .un => none
  | .fz d => some d
  | .ow d => some d
  | .lk d => some d
  | .rf d => some d
@[scoped simp] theorem slotR_fz (i : Nat) (d : D) : slotR i (.fz d) = some (.val d) := rfl
@[scoped simp] theorem slotR_ow (i : Nat) (d : D) : slotR i (.ow d) = some (.plc i) := rfl
@[scoped simp] theorem slotR_lk (i : Nat) (d : D) : slotR i (.lk d) = some (.plc i) := rfl
@[scoped simp] theorem slotR_rf (i : Nat) (d : D) : slotR i (.rf d) = some (.plc i) := rfl
@[scoped simp] theorem slotC_fz (d : D) : slotC (.fz d) = some d := rfl
@[scoped simp] theorem slotC_ow (d : D) : slotC (.ow d) = some d := rfl
@[scoped simp] theorem slotC_lk (d : D) : slotC (.lk d) = some d := rfl
@[scoped simp] theorem slotC_rf (d : D) : slotC (.rf d) = some d := rfl
@[scoped simp] theorem cont_e (env : Env) (i : Nat) : cont env i = slotC (get env i) := by
  unfold cont; cases get env i <;> rfl
@[scoped simp] theorem deref_v (env : Env) (d : D) : deref env (.val d) = some d := rfl
@[scoped simp] theorem deref_n (env : Env) (d : D) : deref env (.new d) = some d := rfl
@[scoped simp] theorem deref_p (env : Env) (i : Nat) : deref env (.plc i) = slotC (get env i) := cont_e env i
def takS (env : Env) (i : Nat) : Slot → Option (D × Env)
  | .ow d => some (d, env.set i (.fz d))
  | .fz d => some (d, env)
  | _ => none
@[scoped simp] theorem takS_ow (env : Env) (i : Nat) (d : D) : takS env i (.ow d) = some (d, env.set i (.fz d)) := rfl
@[scoped simp] theorem takS_fz (env : Env) (i : Nat) (d : D) : takS env i (.fz d) = some (d, env) := rfl
@[scoped simp] theorem take_v (env : Env) (d : D) : take env (.val d) = some (d, env) := rfl
@[scoped simp] theorem take_n (env : Env) (d : D) : take env (.new d) = some (d, env) := rfl
@[scoped simp] theorem take_p (env : Env) (i : Nat) : take env (.plc i) = takS env i (get env i) := by
  show (match get env i with | .ow d => some (d, env.set i (.fz d)) | .fz d => some (d, env) | _ => none) = _
  cases get env i <;> rfl
def KTk (rs : List Res) (Q : List D × Env → Prop) (p : D × Env) : Prop := W (takeAll rs p.2) (Km (fun q => (p.1 :: q.1, q.2)) Q)
@[scoped simp] theorem KTk_ap (rs : List Res) (Q : List D × Env → Prop) (d : D) (e : Env) : KTk rs Q (d, e) ↔ W (takeAll rs e) (Km (fun q => (d :: q.1, q.2)) Q) := Iff.rfl
@[scoped simp] theorem takeAll_z (env : Env) : takeAll [] env = some ([], env) := rfl
@[scoped simp] theorem W_takeAll (r : Res) (rs : List Res) (env : Env) (Q) : W (takeAll (r :: rs) env) Q ↔ W (take env r) (KTk rs Q) := by
  show W ((take env r).bind _) Q ↔ _
  rw [W_bind]
  refine iff_of_eq (congrArg _ ?_)
  funext p
  show W ((takeAll rs p.2).bind _) Q = _
  cases h : takeAll rs p.2 <;> simp [W, KTk, h, Km]
@[scoped simp] theorem takeP_z (env : Env) : takeP [] env = some ([], env) := rfl
def KTp (rs : List Res) (Q : List Res × Env → Prop) (p : D × Env) : Prop := W (takeP rs p.2) (Km (fun q => (.val p.1 :: q.1, q.2)) Q)
@[scoped simp] theorem KTp_ap (rs : List Res) (Q : List Res × Env → Prop) (d : D) (e : Env) : KTp rs Q (d, e) ↔ W (takeP rs e) (Km (fun q => (.val d :: q.1, q.2)) Q) := Iff.rfl
@[scoped simp] theorem W_takeP_n (d : D) (rs : List Res) (env : Env) (Q) : W (takeP (.new d :: rs) env) Q ↔ W (takeP rs env) (Km (fun q => (.new d :: q.1, q.2)) Q) := by
  show W ((takeP rs env).bind _) Q ↔ _
  cases h : takeP rs env <;> simp [W, h, Km]
theorem W_takeP_x (r : Res) (hr : ∀ d, r ≠ .new d) (rs : List Res) (env : Env) (Q) : W (takeP (r :: rs) env) Q ↔ W (take env r) (KTp rs Q) := by
  have e : takeP (r :: rs) env = (take env r).bind fun p => (takeP rs p.2).bind fun q => some (.val p.1 :: q.1, q.2) := by
    cases r with
    | new d => exact absurd rfl (hr d)
    | val d => rfl
    | plc i => rfl
  rw [e, W_bind]
  refine iff_of_eq (congrArg _ ?_)
  funext p
  show W ((takeP rs p.2).bind _) Q = _
  cases h : takeP rs p.2 <;> simp [W, KTp, h, Km]
@[scoped simp] theorem W_takeP_v (d : D) (rs : List Res) (env : Env) (Q) : W (takeP (.val d :: rs) env) Q ↔ W (take env (.val d)) (KTp rs Q) := W_takeP_x _ (by intro d h; cases h) rs env Q
@[scoped simp] theorem W_takeP_p (i : Nat) (rs : List Res) (env : Env) (Q) : W (takeP (.plc i :: rs) env) Q ↔ W (take env (.plc i)) (KTp rs Q) := W_takeP_x _ (by intro d h; cases h) rs env Q
theorem W_mp {α β : Type} (o : Option α) (f : α → β) (Q : β → Prop) (K : α → Prop) (h : ∀ a, K a ↔ Q (f a)) : W (o.map f) Q ↔ W o K := by
  rw [W_map]; exact iff_of_eq (congrArg _ (funext fun a => (propext (h a)).symm))
theorem W_bd {α β : Type} (o : Option α) (f : α → Option β) (Q : β → Prop) (K : α → Prop) (h : ∀ a, K a ↔ W (f a) Q) : W (o.bind f) Q ↔ W o K := by
  rw [W_bind]; exact iff_of_eq (congrArg _ (funext fun a => (propext (h a)).symm))

/-! ### expressions -/
@[scoped simp] theorem W_eC (d : D) (env : Env) (Q) : W (eC d env) Q ↔ Q (.val d, env) := W_some _ _
@[scoped simp] theorem W_eVar (i : Nat) (env : Env) (Q) : W (eVar i env) Q ↔ W (slotR i (get env i)) (Kp env Q) := by
  show W (match get env i with | .un => none | .fz d => some (.val d, env) | .ow _ => some (.plc i, env) | .lk _ => some (.plc i, env) | .rf _ => some (.plc i, env)) Q ↔ _
  cases get env i <;> simp [slotR]
def KAll2 (r : Res) (Q : List Res × Env → Prop) (q : List Res × Env) : Prop := Q (r :: q.1, q.2)
@[scoped simp] theorem KAll2_ap (r : Res) (Q) (rs : List Res) (e : Env) : KAll2 r Q (rs, e) ↔ Q (r :: rs, e) := Iff.rfl
def KAll (fs : List EvF) (Q : List Res × Env → Prop) (p : Res × Env) : Prop := W (eAll fs p.2) (KAll2 p.1 Q)
@[scoped simp] theorem KAll_ap (fs : List EvF) (Q) (r : Res) (e : Env) : KAll fs Q (r, e) ↔ W (eAll fs e) (KAll2 r Q) := Iff.rfl
@[scoped simp] theorem eAll_z (env : Env) : eAll [] env = some ([], env) := rfl
@[scoped simp] theorem W_eAll (f : EvF) (fs : List EvF) (env : Env) (Q) : W (eAll (f :: fs) env) Q ↔ W (f env) (KAll fs Q) :=
  W_bd _ _ _ _ fun p => (W_bd (eAll fs p.2) (fun q => some (p.1 :: q.1, q.2)) Q (KAll2 p.1 Q) fun q => (W_some (p.1 :: q.1, q.2) Q).symm).symm
def KTup (mk : List D → Res) (Q : Res × Env → Prop) (q : List D × Env) : Prop := okN q.1.length = true ∧ Q (mk q.1, q.2)
@[scoped simp] theorem KTup_ap (mk : List D → Res) (Q) (ds : List D) (e : Env) : KTup mk Q (ds, e) ↔ okN ds.length = true ∧ Q (mk ds, e) := Iff.rfl
def KTak (K : List D × Env → Prop) (p : List Res × Env) : Prop := W (takeAll p.1 p.2) K
@[scoped simp] theorem KTak_ap (K) (rs : List Res) (e : Env) : KTak K (rs, e) ↔ W (takeAll rs e) K := Iff.rfl
theorem W_mpe {α : Type} (o : Option α) (e : Env) (Q : α × Env → Prop) : W o (Kp e Q) ↔ W (o.map fun r => (r, e)) Q := by
  cases o with
  | none => simp
  | some a => simp
theorem W_ifs {α : Type} (c : Bool) (a : α) (Q : α → Prop) : (c = true ∧ Q a) ↔ W (if c = true then some a else none) Q := by cases c <;> simp
@[scoped simp] theorem W_eTup (fs : List EvF) (env : Env) (Q) : W (eTup fs env) Q ↔ W (eAll fs env) (KTak (KTup (fun ds => .val (.tuple ds)) Q)) :=
  W_bd _ _ _ _ fun p => (W_bd _ _ _ _ fun q => W_ifs _ _ _).symm
@[scoped simp] theorem W_eLst (fs : List EvF) (env : Env) (Q) : W (eLst fs env) Q ↔ W (eAll fs env) (KTak (KTup (fun ds => .new (.list ds)) Q)) :=
  W_bd _ _ _ _ fun p => (W_bd _ _ _ _ fun q => W_ifs _ _ _).symm
def KDer {α : Type} (k : D → Option α) (Q : α × Env → Prop) (p : Res × Env) : Prop := W ((deref p.2 p.1).bind k) (Kp p.2 Q)
@[scoped simp] theorem KDer_ap {α : Type} (k : D → Option α) (Q) (r : Res) (e : Env) : KDer k Q (r, e) ↔ W (deref e r) (Kb k (Kp e Q)) := W_bind _ _ _
@[scoped simp] theorem W_eUse (f : EvF) (env : Env) (Q) : W (eUse f env) Q ↔ W (f env) (KDer some Q) :=
  W_bd _ _ _ _ fun p => by
    rcases p with ⟨r, e⟩
    rw [KDer_ap]
    show W _ _ ↔ W ((deref e r).map fun d => (d, e)) Q
    cases deref e r <;> simp
def KOp2 (k : D → D → Option Res) (r : Res) (Q : Res × Env → Prop) (q : Res × Env) : Prop := W ((deref q.2 r).bind fun a => (deref q.2 q.1).bind (k a)) (Kp q.2 Q)
@[scoped simp] theorem KOp2_ap (k : D → D → Option Res) (r : Res) (Q) (r2 : Res) (e : Env) : KOp2 k r Q (r2, e) ↔ W ((deref e r).bind fun a => (deref e r2).bind (k a)) (Kp e Q) := Iff.rfl
def KOp (k : D → D → Option Res) (g : EvF) (Q : Res × Env → Prop) (p : Res × Env) : Prop := W (g p.2) (KOp2 k p.1 Q)
@[scoped simp] theorem KOp_ap (k : D → D → Option Res) (g : EvF) (Q) (r : Res) (e : Env) : KOp k g Q (r, e) ↔ W (g e) (KOp2 k r Q) := Iff.rfl
@[scoped simp] theorem W_eOp (k : D → D → Option Res) (f g : EvF) (env : Env) (Q) : W (eOp k f g env) Q ↔ W (f env) (KOp k g Q) :=
  W_bd _ _ _ _ fun p => (W_bd _ _ _ _ fun q => by
    rcases p with ⟨r, e⟩
    rcases q with ⟨r2, e2⟩
    rw [KOp2_ap]
    show _ ↔ W ((deref e2 r).bind _) Q
    cases deref e2 r with
    | none => simp
    | some a =>
      show W ((deref e2 r2).bind _) _ ↔ W ((deref e2 r2).bind _) Q
      cases deref e2 r2 with
      | none => simp
      | some b => exact W_mpe (k a b) e2 Q).symm
@[scoped simp] theorem W_eUn (k : D → Option Res) (f : EvF) (env : Env) (Q) : W (eUn k f env) Q ↔ W (f env) (KDer k Q) :=
  W_bd _ _ _ _ fun p => by
    rcases p with ⟨r, e⟩
    rw [KDer_ap]
    show _ ↔ W ((deref e r).bind _) Q
    cases deref e r with
    | none => simp
    | some a =>
      rw [W_some, Kb_ap]
      exact W_mpe (k a) e Q
@[scoped simp] theorem bRes_e (o : Option Bool) : bRes o = o.map fun c => .val (.bool c) := rfl
@[scoped simp] theorem vRes_e (o : Option D) : vRes o = o.map .val := rfl
@[scoped simp] theorem W_eBin (op : Operator) (f g : EvF) (env : Env) (Q) : W (eBin op f g env) Q ↔ W (f env) (KOp (binD op) g Q) := W_eOp _ _ _ _ _
def negR (a : D) : Option Res := vRes (negD a)
@[scoped simp] theorem negR_ap (i : Int) : negR (.int i) = some (.val (.int (-i))) := rfl
@[scoped simp] theorem W_eNeg (f : EvF) (env : Env) (Q) : W (eNeg f env) Q ↔ W (f env) (KDer negR Q) := W_eUn _ _ _ _
@[scoped simp] theorem truthD_b (b : Bool) : truthD (.bool b) = some b := rfl
@[scoped simp] theorem W_tst (f : EvF) (env : Env) (Q) : W (tst f env) Q ↔ W (f env) (KDer truthD Q) := by
  show W ((eUse f env).bind _) Q ↔ _
  rw [W_bind, W_eUse]
  refine iff_of_eq (congrArg _ ?_)
  funext p
  rcases p with ⟨r, e⟩
  rw [KDer_ap, KDer_ap]
  cases deref e r with
  | none => simp
  | some a => simp; cases truthD a <;> simp
def KNot (Q : Res × Env → Prop) (p : Bool × Env) : Prop := Q (.val (.bool (!p.1)), p.2)
@[scoped simp] theorem KNot_ap (Q) (b : Bool) (e : Env) : KNot Q (b, e) ↔ Q (.val (.bool (!b)), e) := Iff.rfl
@[scoped simp] theorem W_eNot (f : EvF) (env : Env) (Q) : W (eNot f env) Q ↔ W (tst f env) (KNot Q) := W_mp _ _ _ _ fun _ => Iff.rfl
def KAnd (g : EvF) (Q : Res × Env → Prop) (p : Bool × Env) : Prop := Br p.1 (KW g p.2 Q) (Kq (.val (.bool false), p.2) Q)
@[scoped simp] theorem KAnd_ap (g : EvF) (Q) (b : Bool) (e : Env) : KAnd g Q (b, e) ↔ Br b (KW g e Q) (Kq (.val (.bool false), e) Q) := Iff.rfl
theorem W_br {α : Type} {b : Bool} {x y : Option α} {Q : α → Prop} {P R : Unit → Prop} (h : P () ↔ W x Q) (k : R () ↔ W y Q) : Br b P R ↔ W (if b = true then x else y) Q := by cases b <;> simp [h, k]
@[scoped simp] theorem W_eAnd (f g : EvF) (env : Env) (Q) : W (eAnd f g env) Q ↔ W (tst f env) (KAnd g Q) := W_bd _ _ _ _ fun _ => W_br Iff.rfl (W_some _ Q).symm
def KOr (g : EvF) (Q : Res × Env → Prop) (p : Bool × Env) : Prop := Br p.1 (Kq (.val (.bool true), p.2) Q) (KW g p.2 Q)
@[scoped simp] theorem KOr_ap (g : EvF) (Q) (b : Bool) (e : Env) : KOr g Q (b, e) ↔ Br b (Kq (.val (.bool true), e) Q) (KW g e Q) := Iff.rfl
@[scoped simp] theorem W_eOr (f g : EvF) (env : Env) (Q) : W (eOr f g env) Q ↔ W (tst f env) (KOr g Q) := W_bd _ _ _ _ fun _ => W_br (W_some _ Q).symm Iff.rfl
def KIf {α : Type} (f g : Env → Option α) (Q : α → Prop) (p : Bool × Env) : Prop := Br p.1 (KW f p.2 Q) (KW g p.2 Q)
@[scoped simp] theorem KIf_ap {α : Type} (f g : Env → Option α) (Q) (b : Bool) (e : Env) : KIf f g Q (b, e) ↔ Br b (KW f e Q) (KW g e Q) := Iff.rfl
@[scoped simp] theorem W_eIf (t f g : EvF) (env : Env) (Q) : W (eIf t f g env) Q ↔ W (tst t env) (KIf f g Q) := W_bd _ _ _ _ fun _ => W_br Iff.rfl Iff.rfl
def cmpR (op : CmpOp) (a b : D) : Option Res := bRes (cmpD op a b)
@[scoped simp] theorem cmpR_e (op : CmpOp) (a b : D) : cmpR op a b = (cmpD op a b).map fun c => .val (.bool c) := rfl
@[scoped simp] theorem W_eCmp (op : CmpOp) (f g : EvF) (env : Env) (Q) : W (eCmp op f g env) Q ↔ W (f env) (KOp (cmpR op) g Q) := W_eOp _ _ _ _ _
/-- a < b < c -/
def KCh3 (op2 : CmpOp) (rb : Res) (Q : Res × Env → Prop) (s : Res × Env) : Prop := W ((deref s.2 rb).bind fun b => (deref s.2 s.1).bind fun x => cmpR op2 b x) (Kp s.2 Q)
@[scoped simp] theorem KCh3_ap (op2 : CmpOp) (rb : Res) (Q) (r : Res) (e : Env) : KCh3 op2 rb Q (r, e) ↔ W ((deref e rb).bind fun b => (deref e r).bind fun x => cmpR op2 b x) (Kp e Q) := Iff.rfl
def KChB (op2 : CmpOp) (h : EvF) (rb : Res) (e : Env) (Q : Res × Env → Prop) (c : Bool) : Prop := Br c (KW h e (KCh3 op2 rb Q)) (Kq (.val (.bool false), e) Q)
@[scoped simp] theorem KChB_ap (op2 : CmpOp) (h : EvF) (rb : Res) (e : Env) (Q) (c : Bool) : KChB op2 h rb e Q c ↔ Br c (KW h e (KCh3 op2 rb Q)) (Kq (.val (.bool false), e) Q) := Iff.rfl
def KCh2 (op1 op2 : CmpOp) (h : EvF) (ra : Res) (Q : Res × Env → Prop) (q : Res × Env) : Prop := W ((deref q.2 ra).bind fun a => (deref q.2 q.1).bind fun b => cmpD op1 a b) (KChB op2 h q.1 q.2 Q)
@[scoped simp] theorem KCh2_ap (op1 op2 : CmpOp) (h : EvF) (ra : Res) (Q) (r : Res) (e : Env) : KCh2 op1 op2 h ra Q (r, e) ↔ W ((deref e ra).bind fun a => (deref e r).bind fun b => cmpD op1 a b) (KChB op2 h r e Q) := Iff.rfl
def KCh1 (op1 op2 : CmpOp) (g h : EvF) (Q : Res × Env → Prop) (p : Res × Env) : Prop := W (g p.2) (KCh2 op1 op2 h p.1 Q)
@[scoped simp] theorem KCh1_ap (op1 op2 : CmpOp) (g h : EvF) (Q) (r : Res) (e : Env) : KCh1 op1 op2 g h Q (r, e) ↔ W (g e) (KCh2 op1 op2 h r Q) := Iff.rfl
@[scoped simp] theorem W_eCh (op1 op2 : CmpOp) (f g h : EvF) (env : Env) (Q) : W (eCh op1 op2 f g h env) Q ↔ W (f env) (KCh1 op1 op2 g h Q) :=
  W_bd _ _ _ _ fun p => (W_bd _ _ _ _ fun q => by
    rcases p with ⟨r, e⟩
    rcases q with ⟨r2, e2⟩
    rw [KCh2_ap]
    show _ ↔ W ((deref e2 r).bind _) Q
    cases deref e2 r with
    | none => simp
    | some a =>
      show W ((deref e2 r2).bind _) _ ↔ W ((deref e2 r2).bind _) Q
      cases deref e2 r2 with
      | none => simp
      | some b =>
        refine (W_bd _ _ _ _ fun c => ?_).symm
        rw [KChB_ap]
        refine W_br ?_ (W_some _ Q).symm
        rw [KW_ap]
        refine (W_bd _ _ _ _ fun s => ?_).symm
        rcases s with ⟨r3, e3⟩
        rw [KCh3_ap]
        show _ ↔ W ((deref e3 r2).bind _) Q
        cases deref e3 r2 with
        | none => simp
        | some b =>
          show W ((deref e3 r3).bind _) _ ↔ W ((deref e3 r3).bind _) Q
          cases deref e3 r3 with
          | none => simp
          | some x => exact W_mpe (cmpR op2 b x) e3 Q).symm
def ixR (a b : D) : Option Res := vRes (ixD a b)
@[scoped simp] theorem ixR_e (a b : D) : ixR a b = (ixD a b).map .val := rfl
@[scoped simp] theorem W_eIx (f g : EvF) (env : Env) (Q) : W (eIx f g env) Q ↔ W (f env) (KOp ixR g Q) := W_eOp _ _ _ _ _
def partO : D → Option (Option Int)
  | .int i => some (some i)
  | _ => none
@[scoped simp] theorem partO_i (i : Int) : partO (.int i) = some (some i) := rfl
@[scoped simp] theorem W_ePart_n (env : Env) (Q) : W (ePart none env) Q ↔ Q (none, env) := W_some _ _
@[scoped simp] theorem W_ePart_s (f : EvF) (env : Env) (Q) : W (ePart (some f) env) Q ↔ W (f env) (KDer partO Q) := by
  show W ((eUse f env).bind _) Q ↔ _
  rw [W_bind, W_eUse]
  refine iff_of_eq (congrArg _ ?_)
  funext p
  rcases p with ⟨r, e⟩
  rw [KDer_ap, KDer_ap]
  cases deref e r with
  | none => simp
  | some a => cases a <;> simp [partO]
def KSl3 (r : Res) (l : Option Int) (Q : Res × Env → Prop) (h : Option Int × Env) : Prop := W ((deref h.2 r).bind fun a => slD a l h.1) (Kp h.2 Q)
@[scoped simp] theorem KSl3_ap (r : Res) (l : Option Int) (Q) (h : Option Int) (e : Env) : KSl3 r l Q (h, e) ↔ W ((deref e r).bind fun a => slD a l h) (Kp e Q) := Iff.rfl
def KSl2 (hi : Option EvF) (r : Res) (Q : Res × Env → Prop) (l : Option Int × Env) : Prop := W (ePart hi l.2) (KSl3 r l.1 Q)
@[scoped simp] theorem KSl2_ap (hi : Option EvF) (r : Res) (Q) (l : Option Int) (e : Env) : KSl2 hi r Q (l, e) ↔ W (ePart hi e) (KSl3 r l Q) := Iff.rfl
def KSl (lo hi : Option EvF) (Q : Res × Env → Prop) (p : Res × Env) : Prop := W (ePart lo p.2) (KSl2 hi p.1 Q)
@[scoped simp] theorem KSl_ap (lo hi : Option EvF) (Q) (r : Res) (e : Env) : KSl lo hi Q (r, e) ↔ W (ePart lo e) (KSl2 hi r Q) := Iff.rfl
@[scoped simp] theorem W_eSl (f : EvF) (lo hi : Option EvF) (env : Env) (Q) : W (eSl f lo hi env) Q ↔ W (f env) (KSl lo hi Q) :=
  W_bd _ _ _ _ fun p => (W_bd _ _ _ _ fun l => (W_bd _ _ _ _ fun h => by
    rcases p with ⟨r, e⟩
    rcases l with ⟨l, e1⟩
    rcases h with ⟨h, e2⟩
    rw [KSl3_ap]
    show _ ↔ W ((deref e2 r).bind _) Q
    cases deref e2 r with
    | none => simp
    | some a => exact W_mpe (slD a l h) e2 Q).symm).symm
@[scoped simp] theorem W_eB1 (f : Str) (g : EvF) (env : Env) (Q) : W (eB1 f g env) Q ↔ W (g env) (KDer (b1D f) Q) := W_eUn _ _ _ _
@[scoped simp] theorem W_eB2 (f : Str) (g h : EvF) (env : Env) (Q) : W (eB2 f g h env) Q ↔ W (g env) (KOp (b2D f) h Q) := W_eOp _ _ _ _ _
def instR (T : Str) (a : D) : Option Res := bRes (isInst a T)
@[scoped simp] theorem instR_e (T : Str) (a : D) : instR T a = (isInst a T).map fun c => .val (.bool c) := rfl
@[scoped simp] theorem W_eInst (f : EvF) (T : Str) (env : Env) (Q) : W (eInst f T env) Q ↔ W (f env) (KDer (instR T) Q) := W_eUn _ _ _ _
@[scoped simp] theorem W_eDict_z (env : Env) (Q) : W (eDict [] env) Q ↔ Q (.new (.dict []), env) := W_some _ _
def KDi3 (k : D) (Q : Res × Env → Prop) (b : D × Env) : Prop := scalK k = true ∧ Q (.new (.dict [(k, b.1)]), b.2)
@[scoped simp] theorem KDi3_ap (k : D) (Q) (v : D) (e : Env) : KDi3 k Q (v, e) ↔ scalK k = true ∧ Q (.new (.dict [(k, v)]), e) := Iff.rfl
def KDi2 (r2 : Res) (Q : Res × Env → Prop) (a : D × Env) : Prop := W (take a.2 r2) (KDi3 a.1 Q)
@[scoped simp] theorem KDi2_ap (r2 : Res) (Q) (k : D) (e : Env) : KDi2 r2 Q (k, e) ↔ W (take e r2) (KDi3 k Q) := Iff.rfl
def KDi1 (r : Res) (Q : Res × Env → Prop) (q : Res × Env) : Prop := W (take q.2 r) (KDi2 q.1 Q)
@[scoped simp] theorem KDi1_ap (r : Res) (Q) (r2 : Res) (e : Env) : KDi1 r Q (r2, e) ↔ W (take e r) (KDi2 r2 Q) := Iff.rfl
def KDi (g : EvF) (Q : Res × Env → Prop) (p : Res × Env) : Prop := W (g p.2) (KDi1 p.1 Q)
@[scoped simp] theorem KDi_ap (g : EvF) (Q) (r : Res) (e : Env) : KDi g Q (r, e) ↔ W (g e) (KDi1 r Q) := Iff.rfl
@[scoped simp] theorem W_eDict (f g : EvF) (env : Env) (Q) : W (eDict [(f, g)] env) Q ↔ W (f env) (KDi g Q) :=
  W_bd _ _ _ _ fun p => (W_bd _ _ _ _ fun q => (W_bd _ _ _ _ fun a => (W_bd _ _ _ _ fun b => W_ifs _ _ _).symm).symm).symm

/-! ### methods -/
def putS (env : Env) (i : Nat) (d : D) : Slot → Option Env
  | .ow _ => some (env.set i (.ow d))
  | .rf _ => some (env.set i (.rf d))
  | _ => none
@[scoped simp] theorem putS_ow (env : Env) (i : Nat) (d x : D) : putS env i d (.ow x) = some (env.set i (.ow d)) := rfl
@[scoped simp] theorem putS_rf (env : Env) (i : Nat) (d x : D) : putS env i d (.rf x) = some (env.set i (.rf d)) := rfl
@[scoped simp] theorem put_e (env : Env) (i : Nat) (d : D) : put env i d = putS env i d (get env i) := by
  unfold put; cases get env i <;> rfl
/-- xs.append(x) -/
def apS (env : Env) (i : Nat) (a : D) : D → Option Env
  | .list xs => if xs.length < 16777216 then put env i (.list (xs ++ [a])) else none
  | _ => none
theorem apS_l (env : Env) (i : Nat) (a : D) (xs : List D) (h : xs.length < 16777216) : apS env i a (.list xs) = put env i (.list (xs ++ [a])) := if_pos h
def KNo (Q : Res × Env → Prop) (e : Env) : Prop := Q (.val .none, e)
@[scoped simp] theorem KNo_ap (Q) (e : Env) : KNo Q e ↔ Q (.val .none, e) := Iff.rfl
def KAp2 (i : Nat) (Q : Res × Env → Prop) (a : D × Env) : Prop := W ((slotC (get a.2 i)).bind (apS a.2 i a.1)) (KNo Q)
@[scoped simp] theorem KAp2_ap (i : Nat) (Q) (a : D) (e : Env) : KAp2 i Q (a, e) ↔ W ((slotC (get e i)).bind (apS e i a)) (KNo Q) := Iff.rfl
def KAp (i : Nat) (Q : Res × Env → Prop) (q : Res × Env) : Prop := W (take q.2 q.1) (KAp2 i Q)
@[scoped simp] theorem KAp_ap (i : Nat) (Q) (r : Res) (e : Env) : KAp i Q (r, e) ↔ W (take e r) (KAp2 i Q) := Iff.rfl
def plcS (ok : D → Bool) : Slot → Bool
  | .ow d => ok d
  | .rf d => ok d
  | .lk d => ok d
  | _ => false
@[scoped simp] theorem plcS_ow (ok : D → Bool) (d : D) : plcS ok (.ow d) = ok d := rfl
@[scoped simp] theorem plcS_rf (ok : D → Bool) (d : D) : plcS ok (.rf d) = ok d := rfl
def isLs : D → Bool
  | .list _ => true
  | _ => false
def isDc : D → Bool
  | .dict _ => true
  | _ => false
@[scoped simp] theorem isLs_l (xs : List D) : isLs (.list xs) = true := rfl
@[scoped simp] theorem isDc_d (xs : List (D × D)) : isDc (.dict xs) = true := rfl
theorem lstAt_e (env : Env) (r : Res) : lstAt env r = match deref env r with | some d => isLs d | none => false := by
  unfold lstAt
  cases deref env r with
  | none => rfl
  | some d => cases d <;> rfl
theorem dicAt_e (env : Env) (r : Res) : dicAt env r = match deref env r with | some d => isDc d | none => false := by
  unfold dicAt
  cases deref env r with
  | none => rfl
  | some d => cases d <;> rfl
/-- what a method is asked of must be a name's own -/
theorem W_plc (i : Nat) (env : Env) (ok : Env → Res → Bool) (K : Res × Env → Option (Res × Env)) (Q : Res × Env → Prop) (okd : D → Bool) (he : ∀ r, ok env r = match deref env r with | some d => okd d | none => false)
    (hn : ∀ d, W (K (.val d, env)) Q → False) : W ((eVar i env).bind fun p => (guard1 (ok p.2 p.1)).bind fun _ => K p) Q ↔ plcS okd (get env i) = true ∧ W (K (.plc i, env)) Q := by
  have hv : eVar i env = match get env i with | .un => none | .fz d => some (.val d, env) | .ow _ => some (.plc i, env) | .lk _ => some (.plc i, env) | .rf _ => some (.plc i, env) := rfl
  have hp := he (.plc i)
  rw [deref_p] at hp
  rw [hv]
  cases h : get env i with
  | un => simp [plcS]
  | fz d =>
    simp only [plcS, Option.bind_some, Bool.false_eq_true, false_and, iff_false]
    cases ok env (.val d)
    · simp [guard1]
    · simpa [guard1] using hn d
  | ow d => rw [h] at hp; simp only [slotC] at hp; simp only [Option.bind_some, hp, plcS]; cases okd d <;> simp [guard1]
  | lk d => rw [h] at hp; simp only [slotC] at hp; simp only [Option.bind_some, hp, plcS]; cases okd d <;> simp [guard1]
  | rf d => rw [h] at hp; simp only [slotC] at hp; simp only [Option.bind_some, hp, plcS]; cases okd d <;> simp [guard1]
theorem dead {α β : Type} {o : Option α} {f : α → Option β} {Q : β → Prop} (h : ∀ a, f a = none) : W (o.bind f) Q → False := by
  rintro ⟨b, e, _⟩
  cases o with
  | none => cases e
  | some a => rw [Option.bind_some, h a] at e; cases e
@[scoped simp] theorem W_eAppend (i : Nat) (g : EvF) (env : Env) (Q) : W (eAppend (eVar i) g env) Q ↔ plcS isLs (get env i) = true ∧ W (g env) (KAp i Q) := by
  show W ((eVar i env).bind _) Q ↔ _
  refine Iff.trans (W_plc i env lstAt (fun p => (g p.2).bind fun q => (take q.2 q.1).bind fun a => (match p.1 with
  | .plc i => (match cont a.2 i with
    | some (.list xs) => if decide (xs.length < 16777216) then (put a.2 i (.list (xs ++ [a.1]))).map fun e => (.val .none, e) else none
    | _ => none)
  | _ => none)) Q isLs (lstAt_e env) fun d h => ?_) ?_
  · obtain ⟨x, e, _⟩ := h
    cases hg : g env with
    | none => simp [hg] at e
    | some q => cases ht : take q.2 q.1 <;> simp [hg, ht] at e
  · refine and_congr Iff.rfl ?_
    refine W_bd _ _ _ _ fun q => (W_bd _ _ _ _ fun a => ?_).symm
    rcases a with ⟨a, e⟩
    rw [KAp2_ap]
    show _ ↔ W (match cont e i with
      | some (.list xs) => if decide (xs.length < 16777216) then (put e i (.list (xs ++ [a]))).map fun e => (.val .none, e) else none
      | _ => none) Q
    rw [cont_e]
    cases slotC (get e i) with
    | none => simp
    | some d =>
      show W (apS e i a d) _ ↔ _
      cases d with
      | list xs =>
        by_cases hx : xs.length < 16777216
        · rw [apS_l e i a xs hx]
          simp only [hx, decide_true, if_true]
          exact (W_mp (put e i (.list (xs ++ [a]))) (fun e => (Res.val .none, e)) Q (KNo Q) fun _ => Iff.rfl).symm
        · simp [apS, hx]
      | none => simp [apS]
      | bool b => simp [apS]
      | int b => simp [apS]
      | str b => simp [apS]
      | tuple b => simp [apS]
      | dict b => simp [apS]
/-- d.setdefault(k, v) -/
def sdS (env : Env) (i : Nat) (k v : D) : D → Option (Res × Env)
  | .dict kvs => if tupK k && (kvs.all fun p => tupK p.1) && decide (kvs.length < 16777216) then (match dGet kvs k with
        | some x => some (.val x, env)
        | none => (put env i (.dict (dPut kvs k v))).map fun e => (.val v, e)) else none
  | _ => none
def KSd4 (i : Nat) (k : D) (Q : Res × Env → Prop) (v : D × Env) : Prop := W ((slotC (get v.2 i)).bind (sdS v.2 i k v.1)) Q
@[scoped simp] theorem KSd4_ap (i : Nat) (k : D) (Q) (v : D) (e : Env) : KSd4 i k Q (v, e) ↔ W ((slotC (get e i)).bind (sdS e i k v)) Q := Iff.rfl
def KSd3 (i : Nat) (r : Res) (Q : Res × Env → Prop) (k : D × Env) : Prop := W (take k.2 r) (KSd4 i k.1 Q)
@[scoped simp] theorem KSd3_ap (i : Nat) (r : Res) (Q) (k : D) (e : Env) : KSd3 i r Q (k, e) ↔ W (take e r) (KSd4 i k Q) := Iff.rfl
def KSd2 (i : Nat) (r : Res) (Q : Res × Env → Prop) (s : Res × Env) : Prop := W (take s.2 r) (KSd3 i s.1 Q)
@[scoped simp] theorem KSd2_ap (i : Nat) (r : Res) (Q) (r2 : Res) (e : Env) : KSd2 i r Q (r2, e) ↔ W (take e r) (KSd3 i r2 Q) := Iff.rfl
def KSd (i : Nat) (h : EvF) (Q : Res × Env → Prop) (q : Res × Env) : Prop := W (h q.2) (KSd2 i q.1 Q)
@[scoped simp] theorem KSd_ap (i : Nat) (h : EvF) (Q) (r : Res) (e : Env) : KSd i h Q (r, e) ↔ W (h e) (KSd2 i r Q) := Iff.rfl
@[scoped simp] theorem W_eSetdef (i : Nat) (g h : EvF) (env : Env) (Q) : W (eSetdef (eVar i) g h env) Q ↔ plcS isDc (get env i) = true ∧ W (g env) (KSd i h Q) := by
  show W ((eVar i env).bind _) Q ↔ _
  refine Iff.trans (W_plc i env dicAt (fun p => (g p.2).bind fun q => (h q.2).bind fun s => (take s.2 q.1).bind fun k => (take k.2 s.1).bind fun v => (match p.1 with
  | .plc i => (match cont v.2 i with
    | some (.dict kvs) => if tupK k.1 && (kvs.all fun p => tupK p.1) && decide (kvs.length < 16777216) then (match dGet kvs k.1 with
        | some x => some (.val x, v.2)
        | none => (put v.2 i (.dict (dPut kvs k.1 v.1))).map fun e => (.val v.1, e)) else none
    | _ => none)
  | _ => none)) Q isDc (dicAt_e env) fun d hh => ?_) ?_
  · obtain ⟨x, e, _⟩ := hh
    cases hg : g env with
    | none => simp [hg] at e
    | some q => cases hs : h q.2 with
      | none => simp [hg, hs] at e
      | some s => cases ht : take s.2 q.1 with
        | none => simp [hg, hs, ht] at e
        | some k => cases hv : take k.2 s.1 <;> simp [hg, hs, ht, hv] at e
  · refine and_congr Iff.rfl ?_
    refine W_bd _ _ _ _ fun q => (W_bd _ _ _ _ fun s => (W_bd _ _ _ _ fun k => (W_bd _ _ _ _ fun v => ?_).symm).symm).symm
    rcases v with ⟨v, e⟩
    rw [KSd4_ap]
    refine iff_of_eq (congrArg (fun o => W o Q) ?_)
    show _ = ((match cont e i with
    | some (.dict kvs) => if tupK k.1 && (kvs.all fun p => tupK p.1) && decide (kvs.length < 16777216) then (match dGet kvs k.1 with
        | some x => some (.val x, e)
        | none => (put e i (.dict (dPut kvs k.1 v))).map fun e => (.val v, e)) else none
    | _ => none) : Option (Res × Env))
    rw [cont_e]
    cases slotC (get e i) with
    | none => rfl
    | some d => cases d <;> rfl
end Mp.P

/-! Mq2: targets, walks, blocks, calls, statements. -/
namespace Mp.P
open PySem
theorem W_mr {α β : Type} {o : Option α} {f : α → β} {Q : β → Prop} {K : α → Prop} (h : ∀ a, K a ↔ Q (f a)) : W o K ↔ W (o.map f) Q := (W_mp o f Q K h).symm
/-! ### targets -/
@[scoped simp] theorem gNm_v (i : Nat) (d : D) (env : Env) : gNm i (.val d) env = some (env.set i (.fz d)) := rfl
@[scoped simp] theorem gNm_n (i : Nat) (d : D) (env : Env) : gNm i (.new d) env = some (env.set i (.ow d)) := rfl
@[scoped simp] theorem gNm_p (i j : Nat) (env : Env) : gNm i (.plc j) env = (takS env j (get env j)).map fun p => p.2.set i (.fz p.1) := by
  show (take env (.plc j)).map _ = _
  rw [take_p]
@[scoped simp] theorem gAll_z (env : Env) : gAll [] [] env = some env := rfl
def KGa (gs : List TgF) (rs : List Res) (Q : Env → Prop) (e : Env) : Prop := W (gAll gs rs e) Q
@[scoped simp] theorem KGa_ap (gs : List TgF) (rs : List Res) (Q) (e : Env) : KGa gs rs Q e ↔ W (gAll gs rs e) Q := Iff.rfl
@[scoped simp] theorem W_gAll (g : TgF) (gs : List TgF) (r : Res) (rs : List Res) (env : Env) (Q) : W (gAll (g :: gs) (r :: rs) env) Q ↔ W (g r env) (KGa gs rs Q) := W_bd _ _ _ _ fun _ => Iff.rfl
@[scoped simp] theorem gTp_v (gs : List TgF) (ds : List D) (env : Env) : gTp gs (.val (.tuple ds)) env = gAll gs (ds.map .val) env := rfl
/-- xs[i] = v, d[k] = v -/
def sbPut (e : Env) (i : Nat) (v : D) (k : Res) : D → Option Env
  | .list xs => (deref e k).bind fun k => (match k with
      | .int j => (L2.ixN xs.length j).bind fun m => put e i (.list (xs.set m v))
      | _ => none)
  | .dict kvs => (take e k).bind fun k => if kvOk kvs k.1 && decide (kvs.length < 16777216) then put k.2 i (.dict (dPut kvs k.1 v)) else none
  | _ => none
def sbRes (v : D) (r k : Res) (e : Env) : Option Env := match r with
  | .plc i => (slotC (get e i)).bind fun d => sbPut e i v k d
  | _ => none
@[scoped simp] theorem sbRes_p (v : D) (i : Nat) (k : Res) (e : Env) : sbRes v (.plc i) k e = (slotC (get e i)).bind fun d => sbPut e i v k d := rfl
def KSb3 (v : D) (r : Res) (Q : Env → Prop) (q : Res × Env) : Prop := W (sbRes v r q.1 q.2) Q
@[scoped simp] theorem KSb3_ap (v : D) (r : Res) (Q) (k : Res) (e : Env) : KSb3 v r Q (k, e) ↔ W (sbRes v r k e) Q := Iff.rfl
def KSb2 (g : EvF) (v : D) (Q : Env → Prop) (p : Res × Env) : Prop := W (g p.2) (KSb3 v p.1 Q)
@[scoped simp] theorem KSb2_ap (g : EvF) (v : D) (Q) (r : Res) (e : Env) : KSb2 g v Q (r, e) ↔ W (g e) (KSb3 v r Q) := Iff.rfl
def KSb1 (f g : EvF) (Q : Env → Prop) (a : D × Env) : Prop := W (f a.2) (KSb2 g a.1 Q)
@[scoped simp] theorem KSb1_ap (f g : EvF) (Q) (v : D) (e : Env) : KSb1 f g Q (v, e) ↔ W (f e) (KSb2 g v Q) := Iff.rfl
@[scoped simp] theorem W_gSb (f g : EvF) (r : Res) (env : Env) (Q) : W (gSb f g r env) Q ↔ W (take env r) (KSb1 f g Q) :=
  W_bd _ _ _ _ fun a => (W_bd _ _ _ _ fun p => (W_bd _ _ _ _ fun q => by
    rcases a with ⟨v, e0⟩
    rcases p with ⟨r, e1⟩
    rcases q with ⟨k, e⟩
    rw [KSb3_ap]
    refine iff_of_eq (congrArg (fun o => W o Q) ?_)
    cases r with
    | val d => rfl
    | new d => rfl
    | plc i =>
      show (slotC (get e i)).bind _ = ((match cont e i with
        | some (.list xs) => (deref e k).bind fun k => (match k with
          | .int j => (L2.ixN xs.length j).bind fun m => put e i (.list (xs.set m v))
          | _ => none)
        | some (.dict kvs) => (take e k).bind fun k => if kvOk kvs k.1 && decide (kvs.length < 16777216) then put k.2 i (.dict (dPut kvs k.1 v)) else none
        | _ => none) : Option Env)
      rw [cont_e]
      cases slotC (get e i) with
      | none => rfl
      | some d => cases d <;> rfl).symm).symm

/-! ### what is walked -/
def KUse (K : D × Env → Prop) (p : Res × Env) : Prop := W (deref p.2 p.1) (Kp p.2 K)
@[scoped simp] theorem KUse_ap (K) (r : Res) (e : Env) : KUse K (r, e) ↔ W (deref e r) (Kp e K) := Iff.rfl
def inLine (j : Int) : Prop := -(2 ^ 62) ≤ j ∧ j < 2 ^ 62
def rng1 : D → Option (List D)
  | .int j => if decide (-(2 ^ 62) ≤ j) && decide (j < 2 ^ 62) then some (rangeD 0 j.toNat) else none
  | _ => none
theorem rng1_j (j : Int) (h0 : -(2 ^ 62) ≤ j) (h : j < 2 ^ 62) : rng1 (.int j) = some (rangeD 0 j.toNat) := by
  have h2 : (decide (-(2 ^ 62) ≤ j) && decide (j < 2 ^ 62)) = true := by rw [decide_eq_true h0, decide_eq_true h]; rfl
  exact if_pos h2
theorem rng1_i (j : Int) (h0 : 0 ≤ j) (h : j < 2 ^ 62) : rng1 (.int j) = some (rangeD 0 j.toNat) := rng1_j j (by omega) h
theorem rng1_n (n : Nat) (h : n < 1000000) : rng1 (.int n) = some (rangeD 0 n) := by
  rw [rng1_i n (by omega) (by omega), Int.toNat_natCast]
def KIt (Q : List D × List Nat × Env → Prop) (e : Env) (xs : List D) : Prop := Q (xs, [], e)
@[scoped simp] theorem KIt_ap (Q) (e : Env) (xs : List D) : KIt Q e xs ↔ Q (xs, [], e) := Iff.rfl
def KRg (Q : List D × List Nat × Env → Prop) (p : Res × Env) : Prop := W ((deref p.2 p.1).bind rng1) (KIt Q p.2)
@[scoped simp] theorem KRg_ap (Q) (r : Res) (e : Env) : KRg Q (r, e) ↔ W ((deref e r).bind rng1) (KIt Q e) := Iff.rfl
@[scoped simp] theorem W_itRange1 (f : EvF) (env : Env) (Q) : W (itRange1 f env) Q ↔ W (f env) (KRg Q) := by
  show W ((eUse f env).bind _) Q ↔ _
  rw [W_bind, W_eUse]
  refine iff_of_eq (congrArg _ (funext fun p => ?_))
  rcases p with ⟨r, e⟩
  rw [KDer_ap, KRg_ap]
  cases deref e r with
  | none => simp
  | some a => cases a with
    | int j => by_cases h : (decide (-(2 ^ 62) ≤ j) && decide (j < 2 ^ 62)) = true
               · have e1 : rng1 (.int j) = some (rangeD 0 j.toNat) := if_pos h
                 simp only [W_some, Kb_ap, Kp_ap, Option.bind_some, e1, KIt_ap]
                 rw [if_pos h, W_some]
               · have e1 : rng1 (.int j) = none := if_neg h
                 simp only [W_some, Kb_ap, Kp_ap, Option.bind_some, e1, KIt_ap]
                 rw [if_neg h]; simp
    | none => simp [rng1]
    | bool b => simp [rng1]
    | str b => simp [rng1]
    | list b => simp [rng1]
    | tuple b => simp [rng1]
    | dict b => simp [rng1]
/-- a slot is walked -/
def lckS (env : Env) (i : Nat) : Slot → Option (D × List Nat × Env)
  | .ow d => some (d, [i], env.set i (.lk d))
  | .lk d => some (d, [], env)
  | .fz d => some (d, [], env)
  | _ => none
@[scoped simp] theorem lckS_ow (env : Env) (i : Nat) (d : D) : lckS env i (.ow d) = some (d, [i], env.set i (.lk d)) := rfl
@[scoped simp] theorem lckS_lk (env : Env) (i : Nat) (d : D) : lckS env i (.lk d) = some (d, [], env) := rfl
@[scoped simp] theorem lckS_fz (env : Env) (i : Nat) (d : D) : lckS env i (.fz d) = some (d, [], env) := rfl
@[scoped simp] theorem lock_v (env : Env) (d : D) : lock env (.val d) = some (d, [], env) := rfl
@[scoped simp] theorem lock_n (env : Env) (d : D) : lock env (.new d) = some (d, [], env) := rfl
@[scoped simp] theorem lock_p (env : Env) (i : Nat) : lock env (.plc i) = lckS env i (get env i) := by
  show (match get env i with | .ow d => some (d, [i], env.set i (.lk d)) | .lk d => some (d, [], env) | .fz d => some (d, [], env) | _ => none) = _
  cases get env i <;> rfl
def unlS (env : Env) (i : Nat) : Slot → Env
  | .lk d => env.set i (.ow d)
  | _ => env
@[scoped simp] theorem unlS_lk (env : Env) (i : Nat) (d : D) : unlS env i (.lk d) = env.set i (.ow d) := rfl
@[scoped simp] theorem unlk_z (env : Env) : unlk [] env = env := rfl
@[scoped simp] theorem unlk_s (i : Nat) (is : List Nat) (env : Env) : unlk (i :: is) env = unlk is (unlS env i (get env i)) := by
  show unlk is _ = _
  cases get env i <;> rfl
@[scoped simp] theorem seqD_l (xs : List D) : seqD (.list xs) = some xs := rfl
@[scoped simp] theorem seqD_t (xs : List D) : seqD (.tuple xs) = some xs := rfl
@[scoped simp] theorem seqD_d (kvs : List (D × D)) : seqD (.dict kvs) = some (kvs.map (·.1)) := rfl
@[scoped simp] theorem lstD_l (xs : List D) : lstD (.list xs) = some xs := rfl
@[scoped simp] theorem lstD_t (xs : List D) : lstD (.tuple xs) = some xs := rfl
def KSq2 (k : D → Option (List D)) (Q : List D × List Nat × Env → Prop) (a : D × List Nat × Env) : Prop := W (k a.1) (Km (fun xs => (xs, a.2)) Q)
@[scoped simp] theorem KSq2_ap (k : D → Option (List D)) (Q) (d : D) (is : List Nat) (e : Env) : KSq2 k Q (d, is, e) ↔ W (k d) (Km (fun xs => (xs, is, e)) Q) := Iff.rfl
def KSq (k : D → Option (List D)) (Q : List D × List Nat × Env → Prop) (p : Res × Env) : Prop := W (lock p.2 p.1) (KSq2 k Q)
@[scoped simp] theorem KSq_ap (k : D → Option (List D)) (Q) (r : Res) (e : Env) : KSq k Q (r, e) ↔ W (lock e r) (KSq2 k Q) := Iff.rfl
@[scoped simp] theorem W_itSeq (f : EvF) (env : Env) (Q) : W (itSeq f env) Q ↔ W (f env) (KSq seqD Q) :=
  W_bd _ _ _ _ fun p => (W_bd _ _ Q (KSq2 seqD Q) fun a => by
    show W (seqD a.1) (Km (fun xs => (xs, a.2)) Q) ↔ _
    exact W_mr fun _ => Iff.rfl).symm
def enumD (d : D) : Option (List D) := (lstD d).map (enumGo 0)
@[scoped simp] theorem enumD_l (xs : List D) : enumD (.list xs) = some (enumGo 0 xs) := rfl
@[scoped simp] theorem enumD_t (xs : List D) : enumD (.tuple xs) = some (enumGo 0 xs) := rfl
@[scoped simp] theorem W_itEnum (f : EvF) (env : Env) (Q) : W (itEnum f env) Q ↔ W (f env) (KSq enumD Q) :=
  W_bd _ _ _ _ fun p => (W_bd _ _ _ _ fun a => by
    rcases a with ⟨d, is, e⟩
    rw [KSq2_ap]
    show W ((lstD d).map _) _ ↔ W ((lstD d).map _) Q
    cases lstD d <;> simp).symm
def KZp3 (xs : List D) (is : List Nat) (Q : List D × List Nat × Env → Prop) (b : D × List Nat × Env) : Prop := W (lstD b.1) (Km (fun ys => (zipD xs ys, is ++ b.2.1, b.2.2)) Q)
@[scoped simp] theorem KZp3_ap (xs : List D) (is : List Nat) (Q) (d : D) (js : List Nat) (e : Env) : KZp3 xs is Q (d, js, e) ↔ W (lstD d) (Km (fun ys => (zipD xs ys, is ++ js, e)) Q) := Iff.rfl
def KZpL (r2 : Res) (Q : List D × List Nat × Env → Prop) (is : List Nat) (e : Env) (xs : List D) : Prop := W (lock e r2) (KZp3 xs is Q)
@[scoped simp] theorem KZpL_ap (r2 : Res) (Q) (is : List Nat) (e : Env) (xs : List D) : KZpL r2 Q is e xs ↔ W (lock e r2) (KZp3 xs is Q) := Iff.rfl
def KZp2 (r2 : Res) (Q : List D × List Nat × Env → Prop) (a : D × List Nat × Env) : Prop := W (lstD a.1) (KZpL r2 Q a.2.1 a.2.2)
@[scoped simp] theorem KZp2_ap (r2 : Res) (Q) (d : D) (is : List Nat) (e : Env) : KZp2 r2 Q (d, is, e) ↔ W (lstD d) (KZpL r2 Q is e) := Iff.rfl
def KZp1 (r : Res) (Q : List D × List Nat × Env → Prop) (q : Res × Env) : Prop := W (lock q.2 r) (KZp2 q.1 Q)
@[scoped simp] theorem KZp1_ap (r : Res) (Q) (r2 : Res) (e : Env) : KZp1 r Q (r2, e) ↔ W (lock e r) (KZp2 r2 Q) := Iff.rfl
def KZp (g : EvF) (Q : List D × List Nat × Env → Prop) (p : Res × Env) : Prop := W (g p.2) (KZp1 p.1 Q)
@[scoped simp] theorem KZp_ap (g : EvF) (Q) (r : Res) (e : Env) : KZp g Q (r, e) ↔ W (g e) (KZp1 r Q) := Iff.rfl
@[scoped simp] theorem W_itZip (f g : EvF) (env : Env) (Q) : W (itZip f g env) Q ↔ W (f env) (KZp g Q) :=
  W_bd _ _ _ _ fun p => (W_bd _ _ _ _ fun q => (W_bd _ _ _ _ fun a => by
    rcases p with ⟨r, e0⟩
    rcases q with ⟨r2, e1⟩
    rcases a with ⟨d, is, e⟩
    rw [KZp2_ap]
    show _ ↔ W ((lock e r2).bind fun b => (lstD d).bind fun xs => (lstD b.1).map fun ys => (zipD xs ys, is ++ b.2.1, b.2.2)) Q
    cases lstD d with
    | none =>
      cases lock e r2 <;> simp
    | some xs =>
      rw [W_some, KZpL_ap]
      refine (W_bd _ _ _ _ fun b => ?_).symm
      rcases b with ⟨d2, js, e2⟩
      rw [KZp3_ap, Option.bind_some]
      exact W_mr fun _ => Iff.rfl).symm).symm

/-! ### statements -/
def KNx (Q : Flow × Env → Prop) (e : Env) : Prop := Q (.nx, e)
@[scoped simp] theorem KNx_ap (Q) (e : Env) : KNx Q e ↔ Q (.nx, e) := Iff.rfl
def KAs (tg : TgF) (Q : Flow × Env → Prop) (p : Res × Env) : Prop := W (tg p.1 p.2) (KNx Q)
@[scoped simp] theorem KAs_ap (tg : TgF) (Q) (r : Res) (e : Env) : KAs tg Q (r, e) ↔ W (tg r e) (KNx Q) := Iff.rfl
@[scoped simp] theorem W_sAsg (tg : TgF) (f : EvF) (env : Env) (Q) : W (sAsg tg f env) Q ↔ W (f env) (KAs tg Q) := W_bd _ _ _ _ fun p => by
  show W (tg p.1 p.2) (KNx Q) ↔ _
  exact W_mr fun _ => Iff.rfl
def KPr2 (tgs : List TgF) (Q : Flow × Env → Prop) (q : List Res × Env) : Prop := W (gAll tgs q.1 q.2) (KNx Q)
@[scoped simp] theorem KPr2_ap (tgs : List TgF) (Q) (rs : List Res) (e : Env) : KPr2 tgs Q (rs, e) ↔ W (gAll tgs rs e) (KNx Q) := Iff.rfl
def KPr (tgs : List TgF) (Q : Flow × Env → Prop) (p : List Res × Env) : Prop := W (takeP p.1 p.2) (KPr2 tgs Q)
@[scoped simp] theorem KPr_ap (tgs : List TgF) (Q) (rs : List Res) (e : Env) : KPr tgs Q (rs, e) ↔ W (takeP rs e) (KPr2 tgs Q) := Iff.rfl
@[scoped simp] theorem W_sPar (tgs : List TgF) (fs : List EvF) (env : Env) (Q) : W (sPar tgs fs env) Q ↔ W (eAll fs env) (KPr tgs Q) := W_bd _ _ _ _ fun p => (W_bd _ _ Q (KPr2 tgs Q) fun q => by
  show W (gAll tgs q.1 q.2) (KNx Q) ↔ _
  exact W_mr fun _ => Iff.rfl).symm
@[scoped simp] theorem intAt_fz (i : Int) : intAt (.fz (.int i)) = some i := rfl
@[scoped simp] theorem intOf_i (i : Int) : intOf (.int i) = some i := rfl
@[scoped simp] theorem augF_a : augF .Add = some fun x y => x + y := rfl
@[scoped simp] theorem augF_s : augF .Sub = some fun x y => x - y := rfl
def KAg (i : Nat) (F : Int → Int → Int) (x : Int) (Q : Flow × Env → Prop) (p : Res × Env) : Prop := W ((deref p.2 p.1).bind intOf) (Km (fun y => (.nx, p.2.set i (.fz (.int (F x y))))) Q)
@[scoped simp] theorem KAg_ap (i : Nat) (F : Int → Int → Int) (x : Int) (Q) (r : Res) (e : Env) : KAg i F x Q (r, e) ↔ W ((deref e r).bind intOf) (Km (fun y => (.nx, e.set i (.fz (.int (F x y))))) Q) := Iff.rfl
def KAg1 (i : Nat) (F : Int → Int → Int) (f : EvF) (env : Env) (Q : Flow × Env → Prop) (x : Int) : Prop := W (f env) (KAg i F x Q)
@[scoped simp] theorem KAg1_ap (i : Nat) (F : Int → Int → Int) (f : EvF) (env : Env) (Q) (x : Int) : KAg1 i F f env Q x ↔ W (f env) (KAg i F x Q) := Iff.rfl
def KAg0 (i : Nat) (f : EvF) (env : Env) (Q : Flow × Env → Prop) (F : Int → Int → Int) : Prop := W (intAt (get env i)) (KAg1 i F f env Q)
@[scoped simp] theorem KAg0_ap (i : Nat) (f : EvF) (env : Env) (Q) (F : Int → Int → Int) : KAg0 i f env Q F ↔ W (intAt (get env i)) (KAg1 i F f env Q) := Iff.rfl
@[scoped simp] theorem W_sAug (i : Nat) (op : Operator) (f : EvF) (env : Env) (Q) : W (sAug i op f env) Q ↔ W (augF op) (KAg0 i f env Q) :=
  W_bd _ _ _ _ fun F => (W_bd _ _ _ _ fun x => by
    rw [KAg1_ap]
    show _ ↔ W ((eUse f env).bind _) Q
    rw [W_bind, W_eUse]
    refine iff_of_eq (congrArg _ (funext fun p => ?_))
    rcases p with ⟨r, e⟩
    rw [KDer_ap, KAg_ap]
    cases deref e r with
    | none => simp
    | some a => simp).symm
@[scoped simp] theorem W_sExpr (f : EvF) (env : Env) (Q) : W (sExpr f env) Q ↔ W (f env) (Km (fun p => (.nx, p.2)) Q) := W_bd _ _ _ _ fun p => (W_some ((.nx, p.2) : Flow × Env) Q).symm
def retS (e : Env) (i : Nat) : Slot → Option (Flow × Env)
  | .ow d => some (.rt true d, e.set i .un)
  | .lk d => some (.rt true d, e.set i .un)
  | .fz d => some (.rt false d, e)
  | _ => none
@[scoped simp] theorem retS_ow (e : Env) (i : Nat) (d : D) : retS e i (.ow d) = some (.rt true d, e.set i .un) := rfl
@[scoped simp] theorem retS_lk (e : Env) (i : Nat) (d : D) : retS e i (.lk d) = some (.rt true d, e.set i .un) := rfl
@[scoped simp] theorem retS_fz (e : Env) (i : Nat) (d : D) : retS e i (.fz d) = some (.rt false d, e) := rfl
def retR (e : Env) : Res → Option (Flow × Env)
  | .val d => some (.rt false d, e)
  | .new d => some (.rt true d, e)
  | .plc i => retS e i (get e i)
@[scoped simp] theorem retR_v (e : Env) (d : D) : retR e (.val d) = some (.rt false d, e) := rfl
@[scoped simp] theorem retR_n (e : Env) (d : D) : retR e (.new d) = some (.rt true d, e) := rfl
@[scoped simp] theorem retR_p (e : Env) (i : Nat) : retR e (.plc i) = retS e i (get e i) := rfl
def KRt (Q : Flow × Env → Prop) (p : Res × Env) : Prop := W (retR p.2 p.1) Q
@[scoped simp] theorem KRt_ap (Q) (r : Res) (e : Env) : KRt Q (r, e) ↔ W (retR e r) Q := Iff.rfl
@[scoped simp] theorem W_sRet (f : EvF) (env : Env) (Q) : W (sRet f env) Q ↔ W (f env) (KRt Q) := W_bd _ _ _ _ fun p => by
  rcases p with ⟨r, e⟩
  rw [KRt_ap]
  cases r with
  | val d => exact Iff.rfl
  | new d => exact Iff.rfl
  | plc i =>
    show W (retS e i (get e i)) Q ↔ W (match get e i with | .ow d => some (.rt true d, e.set i .un) | .lk d => some (.rt true d, e.set i .un) | .fz d => some (.rt false d, e) | _ => none) Q
    cases get e i <;> exact Iff.rfl
@[scoped simp] theorem W_sIf (t : EvF) (a b : StF) (env : Env) (Q) : W (sIf t a b env) Q ↔ W (tst t env) (KIf a b Q) := W_bd _ _ _ _ fun _ => W_br Iff.rfl Iff.rfl
def KSeq (b : StF) (Q : Flow × Env → Prop) : Flow × Env → Prop
  | (.nx, e) => W (b e) Q
  | p => Q p
@[scoped simp] theorem KSeq_nx (b : StF) (Q) (e : Env) : KSeq b Q (.nx, e) ↔ W (b e) Q := Iff.rfl
@[scoped simp] theorem KSeq_ct (b : StF) (Q) (e : Env) : KSeq b Q (.ct, e) ↔ Q (.ct, e) := Iff.rfl
@[scoped simp] theorem KSeq_bk (b : StF) (Q) (e : Env) : KSeq b Q (.bk, e) ↔ Q (.bk, e) := Iff.rfl
@[scoped simp] theorem KSeq_rt (b : StF) (Q) (e : Env) (c : Bool) (d : D) : KSeq b Q (.rt c d, e) ↔ Q (.rt c d, e) := Iff.rfl
@[scoped simp] theorem W_sSeq (a b : StF) (env : Env) (Q) : W (sSeq a b env) Q ↔ W (a env) (KSeq b Q) := W_bd _ _ _ _ fun p => by
  rcases p with ⟨f, e⟩
  cases f with
  | nx => exact Iff.rfl
  | ct => exact (W_some ((.ct, e) : Flow × Env) Q).symm
  | bk => exact (W_some ((.bk, e) : Flow × Env) Q).symm
  | rt c d => exact (W_some ((.rt c d, e) : Flow × Env) Q).symm
@[scoped simp] theorem sNil_e (env : Env) : sNil env = some (.nx, env) := rfl
@[scoped simp] theorem sCont_e (env : Env) : sCont env = some (.ct, env) := rfl
@[scoped simp] theorem sBreak_e (env : Env) : sBreak env = some (.bk, env) := rfl
def KUn (is : List Nat) (Q : Flow × Env → Prop) (q : Flow × Env) : Prop := Q (q.1, unlk is q.2)
@[scoped simp] theorem KUn_ap (is : List Nat) (Q) (f : Flow) (e : Env) : KUn is Q (f, e) ↔ Q (f, unlk is e) := Iff.rfl
def KFor (tg : TgF) (body : StF) (Q : Flow × Env → Prop) (p : List D × List Nat × Env) : Prop := W (forGo tg body p.1 p.2.2) (KUn p.2.1 Q)
@[scoped simp] theorem KFor_ap (tg : TgF) (body : StF) (Q) (xs : List D) (is : List Nat) (e : Env) : KFor tg body Q (xs, is, e) ↔ W (forGo tg body xs e) (KUn is Q) := Iff.rfl
@[scoped simp] theorem W_sFor (tg : TgF) (it : ItF) (body : StF) (env : Env) (Q) : W (sFor tg it body env) Q ↔ W (it env) (KFor tg body Q) := W_bd _ _ _ _ fun p => by
  show W (forGo tg body p.1 p.2.2) (KUn p.2.1 Q) ↔ _
  exact W_mr fun _ => Iff.rfl
@[scoped simp] theorem sWhile_e (F : Nat) (t : EvF) (body : StF) (env : Env) : sWhile F t body env = whGo t body F env := rfl
@[scoped simp] theorem forGo_z (tg : TgF) (body : StF) (env : Env) : forGo tg body [] env = some (.nx, env) := rfl
/-- what a turn leads to -/
def turnQ (J : Env → Prop) (Q : Flow × Env → Prop) : Flow × Env → Prop
  | (.nx, e) => J e
  | (.ct, e) => J e
  | (.bk, e) => Q (.nx, e)
  | (.rt b d, e) => Q (.rt b d, e)
@[scoped simp] theorem turnQ_nx (J Q) (e : Env) : turnQ J Q (.nx, e) ↔ J e := Iff.rfl
@[scoped simp] theorem turnQ_ct (J Q) (e : Env) : turnQ J Q (.ct, e) ↔ J e := Iff.rfl
@[scoped simp] theorem turnQ_bk (J Q) (e : Env) : turnQ J Q (.bk, e) ↔ Q (.nx, e) := Iff.rfl
@[scoped simp] theorem turnQ_rt (J Q) (e : Env) (b : Bool) (d : D) : turnQ J Q (.rt b d, e) ↔ Q (.rt b d, e) := Iff.rfl
def KBd (body : StF) (K : Flow × Env → Prop) (e : Env) : Prop := W (body e) K
@[scoped simp] theorem KBd_ap (body : StF) (K) (e : Env) : KBd body K e ↔ W (body e) K := Iff.rfl
theorem W_forGo_s (tg : TgF) (body : StF) (x : D) (xs : List D) (env : Env) (Q) : W (forGo tg body (x :: xs) env) Q ↔ W (tg (.val x) env) (KBd body (turnQ (fun e => W (forGo tg body xs e) Q) Q)) :=
  W_bd _ _ _ _ fun e => (W_bd _ _ _ _ fun p => by
    rcases p with ⟨f, e⟩
    cases f with
    | nx => exact Iff.rfl
    | ct => exact Iff.rfl
    | bk => exact (W_some ((.nx, e) : Flow × Env) Q).symm
    | rt c d => exact (W_some ((.rt c d, e) : Flow × Env) Q).symm).symm
/-- a walk by what holds between two turns -/
theorem W_for (J : Nat → Env → Prop) (tg : TgF) (body : StF) (Q) (xs : List D) (env : Env) (h0 : J 0 env)
    (hs : ∀ (i : Nat) (x : D) (e : Env), xs[i]? = some x → J i e → W (tg (.val x) e) (KBd body (turnQ (J (i + 1)) Q))) (hq : ∀ e, J xs.length e → Q (.nx, e)) : W (forGo tg body xs env) Q := by
  induction xs generalizing J env with
  | nil => exact (W_some _ _).2 (hq _ h0)
  | cons x xs ih =>
    rw [W_forGo_s]
    refine (hs 0 x env rfl h0).mono fun e h => ?_
    refine W.mono h fun p hp => ?_
    rcases p with ⟨f, e⟩
    cases f with
    | nx => exact ih (fun i => J (i + 1)) e hp (fun i y e he => hs (i + 1) y e he) hq
    | ct => exact ih (fun i => J (i + 1)) e hp (fun i y e he => hs (i + 1) y e he) hq
    | bk => exact hp
    | rt c d => exact hp
/-- .. which does not tell how far it is -/
theorem W_forJ (J : Env → Prop) (tg : TgF) (body : StF) (Q) (xs : List D) (env : Env) (h0 : J env)
    (hs : ∀ (x : D) (e : Env), x ∈ xs → J e → W (tg (.val x) e) (KBd body (turnQ J Q))) (hq : ∀ e, J e → Q (.nx, e)) : W (forGo tg body xs env) Q :=
  W_for (fun _ => J) tg body Q xs env h0 (fun i x e hx he => hs x e (List.mem_of_getElem? hx) he) hq
def KWh (body : StF) (K : Flow × Env → Prop) (Q : Flow × Env → Prop) (b : Bool × Env) : Prop := Br b.1 (KW body b.2 K) (Kq (.nx, b.2) Q)
@[scoped simp] theorem KWh_ap (body : StF) (K Q) (b : Bool) (e : Env) : KWh body K Q (b, e) ↔ Br b (KW body e K) (Kq (.nx, e) Q) := Iff.rfl
/-- a while by a number that grows less -/
theorem W_while (J : Nat → Env → Prop) (t : EvF) (body : StF) (Q) (n m : Nat) (env : Env) (h0 : J m env) (hn : m < n)
    (hs : ∀ (m : Nat) (e : Env), J m e → W (tst t e) (KWh body (turnQ (fun e => ∃ m', m' < m ∧ J m' e) Q) Q)) : W (whGo t body n env) Q := by
  induction n generalizing m env with
  | zero => omega
  | succ n ih =>
    show W ((tst t env).bind _) Q
    rw [W_bind]
    refine (hs m env h0).mono fun b hb => ?_
    rcases b with ⟨b, e⟩
    rw [Kb_ap]
    rw [KWh_ap] at hb
    cases b with
    | false =>
      rw [Br_f, Kq_ap] at hb
      rw [if_neg (fun z => nomatch z)]
      exact (W_some _ _).2 hb
    | true =>
      rw [Br_t, KW_ap] at hb
      rw [if_pos rfl, W_bind]
      refine hb.mono fun p hp => ?_
      rcases p with ⟨f, e⟩
      cases f with
      | nx =>
        obtain ⟨m', hm, hj⟩ := hp
        exact ih m' e hj (by omega)
      | ct =>
        obtain ⟨m', hm, hj⟩ := hp
        exact ih m' e hj (by omega)
      | bk => exact (W_some _ _).2 hp
      | rt c d => exact (W_some _ _).2 hp

/-! ### comprehensions -/
def KTs2 (fs : List EvF) (Q : Bool × Env → Prop) (p : Bool × Env) : Prop := Br p.1 (KW (tsts fs) p.2 Q) (Kq (false, p.2) Q)
@[scoped simp] theorem KTs2_ap (fs : List EvF) (Q) (b : Bool) (e : Env) : KTs2 fs Q (b, e) ↔ Br b (KW (tsts fs) e Q) (Kq (false, e) Q) := Iff.rfl
@[scoped simp] theorem tsts_z (env : Env) : tsts [] env = some (true, env) := rfl
@[scoped simp] theorem W_tsts (f : EvF) (fs : List EvF) (env : Env) (Q) : W (tsts (f :: fs) env) Q ↔ W (tst f env) (KTs2 fs Q) := W_bd _ _ _ _ fun _ => W_br Iff.rfl (W_some _ Q).symm
@[scoped simp] theorem wipeE_z (env : Env) : wipeE env [] = env := rfl
@[scoped simp] theorem wipeE_s (env : Env) (v : Nat) (vs : List Nat) : wipeE env (v :: vs) = (wipeE env vs).set v .un := rfl
@[scoped simp] theorem back_z (env e : Env) : back env [] e = e := rfl
@[scoped simp] theorem back_s (env e : Env) (v : Nat) (vs : List Nat) : back env (v :: vs) e = back env vs (e.set v (get env v)) := rfl
def freS : Slot → Bool
  | .un => true
  | .fz _ => true
  | _ => false
@[scoped simp] theorem freS_un : freS .un = true := rfl
@[scoped simp] theorem freS_fz (d : D) : freS (.fz d) = true := rfl
@[scoped simp] theorem free_e (env : Env) (i : Nat) : free env i = freS (get env i) := by
  unfold free; cases get env i <;> rfl
/-- a turn: what it gives, if anything -/
def KEl2 (bk : Env → Env) (Q : Option D × Env → Prop) (d : D × Env) : Prop := Q (some d.1, bk d.2)
@[scoped simp] theorem KEl2_ap (bk : Env → Env) (Q) (d : D) (e : Env) : KEl2 bk Q (d, e) ↔ Q (some d, bk e) := Iff.rfl
def KEl1 (bk : Env → Env) (Q : Option D × Env → Prop) (r : Res × Env) : Prop := W (take r.2 r.1) (KEl2 bk Q)
@[scoped simp] theorem KEl1_ap (bk : Env → Env) (Q) (r : Res) (e : Env) : KEl1 bk Q (r, e) ↔ W (take e r) (KEl2 bk Q) := Iff.rfl
def KEl (bk : Env → Env) (elt : EvF) (Q : Option D × Env → Prop) (e : Env) (_ : Unit) : Prop := W (elt e) (KEl1 bk Q)
@[scoped simp] theorem KEl_ap (bk : Env → Env) (elt : EvF) (Q) (e : Env) : KEl bk elt Q e () ↔ W (elt e) (KEl1 bk Q) := Iff.rfl
def KTs (bk : Env → Env) (elt : EvF) (Q : Option D × Env → Prop) (b : Bool × Env) : Prop := Br b.1 (KEl bk elt Q b.2) (Kq (none, bk b.2) Q)
@[scoped simp] theorem KTs_ap (bk : Env → Env) (elt : EvF) (Q) (b : Bool) (e : Env) : KTs bk elt Q (b, e) ↔ Br b (KEl bk elt Q e) (Kq (none, bk e) Q) := Iff.rfl
def KTg (ifs : List EvF) (bk : Env → Env) (elt : EvF) (Q : Option D × Env → Prop) (e : Env) : Prop := W (tsts ifs e) (KTs bk elt Q)
@[scoped simp] theorem KTg_ap (ifs : List EvF) (bk : Env → Env) (elt : EvF) (Q) (e : Env) : KTg ifs bk elt Q e ↔ W (tsts ifs e) (KTs bk elt Q) := Iff.rfl
def lcTurn (own : List Nat) (tg : TgF) (ifs : List EvF) (elt : EvF) (x : D) (env : Env) (Q : Option D × Env → Prop) : Prop := W (tg (.val x) (wipeE env own)) (KTg ifs (back env own) elt Q)
theorem lcTurn_e (own : List Nat) (tg : TgF) (ifs : List EvF) (elt : EvF) (x : D) (env : Env) (Q) : lcTurn own tg ifs elt x env Q ↔ W (tg (.val x) (wipeE env own)) (KTg ifs (back env own) elt Q) := Iff.rfl
def addO : Option D → List D → List D
  | some d, ds => d :: ds
  | none, ds => ds
theorem W_lcGo_s (own : List Nat) (tg : TgF) (ifs : List EvF) (elt : EvF) (x : D) (xs : List D) (env : Env) (Q) :
    W (lcGo own tg ifs elt (x :: xs) env) Q ↔ lcTurn own tg ifs elt x env (fun p => W (lcGo own tg ifs elt xs p.2) (fun q => Q (addO p.1 q.1, q.2))) :=
  W_bd _ _ _ _ fun e => (W_bd _ _ _ _ fun b => by
    rcases b with ⟨b, e⟩
    rw [KTs_ap]
    refine W_br ?_ Iff.rfl
    rw [KEl_ap]
    refine (W_bd _ _ _ _ fun r => (W_bd _ _ _ _ fun d => ?_).symm).symm
    exact (W_bd _ _ _ _ fun q => (W_some _ Q).symm).symm).symm
theorem lcTurn_mono {own tg ifs elt x env} {P Q : Option D × Env → Prop} (h : lcTurn own tg ifs elt x env P) (k : ∀ p, P p → Q p) : lcTurn own tg ifs elt x env Q := by
  unfold lcTurn at h ⊢
  refine h.mono fun e h => ?_
  rw [KTg_ap] at h ⊢
  refine h.mono fun b hb => ?_
  rcases b with ⟨b, e⟩
  rw [KTs_ap] at hb ⊢
  cases b with
  | false => rw [Br_f] at hb ⊢; exact k _ hb
  | true =>
    rw [Br_t, KEl_ap] at hb ⊢
    refine hb.mono fun r hr => ?_
    rcases r with ⟨r, e⟩
    rw [KEl1_ap] at hr ⊢
    refine hr.mono fun d hd => ?_
    exact k _ hd
theorem W_lc (J : Nat → List D → Env → Prop) (own : List Nat) (tg : TgF) (ifs : List EvF) (elt : EvF) (Q) (xs : List D) (env : Env) (h0 : J 0 [] env)
    (hs : ∀ (i : Nat) (x : D) (acc : List D) (e : Env), xs[i]? = some x → J i acc e → lcTurn own tg ifs elt x e (fun p => J (i + 1) (acc ++ addO p.1 []) p.2))
    (hq : ∀ ys e, J xs.length ys e → Q (ys, e)) : W (lcGo own tg ifs elt xs env) Q := by
  suffices h : ∀ (acc : List D) (J : Nat → List D → Env → Prop), J 0 acc env → (∀ (i : Nat) (x : D) (acc : List D) (e : Env), xs[i]? = some x → J i acc e → lcTurn own tg ifs elt x e (fun p => J (i + 1) (acc ++ addO p.1 []) p.2)) →
      (∀ ys e, J xs.length (acc ++ ys) e → Q (ys, e)) → W (lcGo own tg ifs elt xs env) Q from h [] J h0 hs hq
  clear h0 hs hq J
  induction xs generalizing env Q with
  | nil =>
    intro acc J h0 _ hq
    exact (W_some _ _).2 (hq [] env (by rw [List.append_nil]; exact h0))
  | cons x xs ih =>
    intro acc J h0 hs hq
    rw [W_lcGo_s]
    have h1 := hs 0 x acc env rfl h0
    unfold lcTurn at h1 ⊢
    refine h1.mono fun e h => ?_
    rw [KTg_ap] at h ⊢
    refine h.mono fun b hb => ?_
    rcases b with ⟨b, e⟩
    rw [KTs_ap] at hb ⊢
    have go : ∀ (o : Option D) (e : Env), J 1 (acc ++ addO o []) e → W (lcGo own tg ifs elt xs e) (fun q => Q (addO o q.1, q.2)) := by
      intro o e h
      refine ih (Q := fun q => Q (addO o q.1, q.2)) e (acc ++ addO o []) (fun i => J (i + 1)) h (fun i y a e hy => hs (i + 1) y a e hy) fun ys e hj => ?_
      refine hq _ _ ?_
      rw [List.append_assoc] at hj
      cases o <;> exact hj
    cases b with
    | false => rw [Br_f] at hb ⊢; exact go _ _ hb
    | true =>
      rw [Br_t, KEl_ap] at hb ⊢
      refine hb.mono fun r hr => ?_
      rcases r with ⟨r, e⟩
      rw [KEl1_ap] at hr ⊢
      refine hr.mono fun d hd => ?_
      rcases d with ⟨d, e⟩
      exact go _ _ hd
/-- a block whose turns leave the names as they were -/
theorem W_lcF (F : D → Option D) (own : List Nat) (tg : TgF) (ifs : List EvF) (elt : EvF) (Q) (xs : List D) (env : Env)
    (hs : ∀ x, x ∈ xs → lcTurn own tg ifs elt x env (fun p => p = (F x, env))) (hq : Q (xs.filterMap F, env)) : W (lcGo own tg ifs elt xs env) Q := by
  refine W_lc (fun i acc e => e = env ∧ acc = (xs.take i).filterMap F) own tg ifs elt Q xs env ⟨rfl, rfl⟩ (fun i x acc e hx hj => ?_) fun ys e hj => ?_
  · obtain ⟨rfl, rfl⟩ := hj
    have h1 := hs x (List.mem_of_getElem? hx)
    have : (fun p : Option D × Env => p = (F x, e)) = fun p => (p.2 = e ∧ p.1 = F x) := by
      funext p; rcases p with ⟨a, b⟩; simp [and_comm]
    rw [this] at h1
    have ht : (xs.take (i + 1)).filterMap F = (xs.take i).filterMap F ++ addO (F x) [] := by
      rw [List.take_succ, hx, List.filterMap_append]
      cases h : F x <;> simp [addO, h]
    have : (fun p : Option D × Env => p.2 = e ∧ p.1 = F x) = fun p => (p.2 = e ∧ (p.1 = F x ∧ (xs.take i).filterMap F ++ addO p.1 [] = (xs.take (i + 1)).filterMap F)) := by
      funext p; refine propext (and_congr Iff.rfl ⟨fun h => ⟨h, by rw [h, ht]⟩, fun h => h.1⟩)
    rw [this] at h1
    refine lcTurn_mono h1 fun p hp => ⟨hp.1, hp.2.2⟩
  · obtain ⟨rfl, rfl⟩ := hj
    rw [List.take_length]
    exact hq
end Mp.P

/-! Mq3: calls; a def's run; operations on data. -/
namespace Mp.P
open PySem
/-! ### calls -/
def refS : Slot → Option D
  | .ow d => some d
  | .rf d => some d
  | _ => none
@[scoped simp] theorem refS_ow (d : D) : refS (.ow d) = some d := rfl
@[scoped simp] theorem refS_rf (d : D) : refS (.rf d) = some d := rfl
@[scoped simp] theorem argsOf_z (env : Env) : argsOf env [] [] = some [] := rfl
def KAr (env : Env) (rs : List Res) (bs : List Bool) (Q : List D → Prop) (d : D) : Prop := W (argsOf env rs bs) (Km (d :: ·) Q)
@[scoped simp] theorem KAr_ap (env : Env) (rs : List Res) (bs : List Bool) (Q) (d : D) : KAr env rs bs Q d ↔ W (argsOf env rs bs) (Km (d :: ·) Q) := Iff.rfl
@[scoped simp] theorem W_argsOf_f (env : Env) (r : Res) (rs : List Res) (bs : List Bool) (Q) : W (argsOf env (r :: rs) (false :: bs)) Q ↔ W (deref env r) (KAr env rs bs Q) :=
  W_bd _ _ Q (KAr env rs bs Q) fun d => (W_map _ _ _).symm
@[scoped simp] theorem W_argsOf_t (env : Env) (i : Nat) (rs : List Res) (bs : List Bool) (Q) : W (argsOf env (.plc i :: rs) (true :: bs)) Q ↔ W (refS (get env i)) (KAr env rs bs Q) := by
  have e : (match get env i with | .ow d => some d | .rf d => some d | _ => none) = refS (get env i) := by cases get env i <;> rfl
  show W ((match get env i with | .ow d => some d | .rf d => some d | _ => none).bind _) Q ↔ _
  rw [e]
  exact W_bd _ _ Q (KAr env rs bs Q) fun d => (W_map _ _ _).symm
@[scoped simp] theorem lentOf_z : lentOf [] [] = [] := rfl
@[scoped simp] theorem lentOf_t (i : Nat) (rs : List Res) (bs : List Bool) : lentOf (.plc i :: rs) (true :: bs) = i :: lentOf rs bs := rfl
@[scoped simp] theorem lentOf_f (r : Res) (rs : List Res) (bs : List Bool) : lentOf (r :: rs) (false :: bs) = lentOf rs bs := by cases r <;> rfl
@[scoped simp] theorem keptOf_z : keptOf [] [] = [] := rfl
@[scoped simp] theorem keptOf_t (r : Res) (rs : List Res) (bs : List Bool) : keptOf (r :: rs) (true :: bs) = keptOf rs bs := by cases r <;> rfl
@[scoped simp] theorem keptOf_p (i : Nat) (rs : List Res) (bs : List Bool) : keptOf (.plc i :: rs) (false :: bs) = i :: keptOf rs bs := rfl
@[scoped simp] theorem keptOf_v (d : D) (rs : List Res) (bs : List Bool) : keptOf (.val d :: rs) (false :: bs) = keptOf rs bs := rfl
@[scoped simp] theorem keptOf_n (d : D) (rs : List Res) (bs : List Bool) : keptOf (.new d :: rs) (false :: bs) = keptOf rs bs := rfl
def okCl (ls ks : List Nat) : Bool := ls.all (fun i => !ks.contains i) && decide ls.Nodup
@[scoped simp] theorem okCl_z (ks : List Nat) : okCl [] ks = true := rfl
@[scoped simp] theorem okCl_o (i : Nat) (ks : List Nat) : okCl [i] ks = !ks.contains i := by simp [okCl]
def frz (b : Bool) (is : List Nat) (e : Env) : Option Env := if b = true then some e else freezes is e
@[scoped simp] theorem frz_z (b : Bool) (e : Env) : frz b [] e = some e := by unfold frz; cases b <;> rfl
@[scoped simp] theorem frz_t (is : List Nat) (e : Env) : frz true is e = some e := rfl
@[scoped simp] theorem frz_f (i : Nat) (is : List Nat) (e : Env) : frz false (i :: is) e = (takS e i (get e i)).bind fun p => frz false is p.2 := by
  show (take e (.plc i)).bind _ = _
  rw [take_p]
  rfl
@[scoped simp] theorem puts_z (env : Env) : puts [] [] env = some env := rfl
@[scoped simp] theorem puts_s (i : Nat) (is : List Nat) (d : D) (ds : List D) (env : Env) : puts (i :: is) (d :: ds) env = (putS env i d (get env i)).bind fun e => puts is ds e := by
  show (put env i d).bind _ = _
  rw [put_e]
def newR (fr : Bool) (d : D) : Res := if fr = true then .new d else .val d
@[scoped simp] theorem newR_t (d : D) : newR true d = .new d := rfl
@[scoped simp] theorem newR_f (d : D) : newR false d = .val d := rfl
def KCl5 (fr : Bool) (d : D) (Q : Res × Env → Prop) (e : Env) : Prop := Q (newR fr d, e)
@[scoped simp] theorem KCl5_ap (fr : Bool) (d : D) (Q) (e : Env) : KCl5 fr d Q e ↔ Q (newR fr d, e) := Iff.rfl
def KCl4 (ls : List Nat) (fr : Bool) (d : D) (os : List D) (Q : Res × Env → Prop) (e : Env) : Prop := W (puts ls os e) (KCl5 fr d Q)
@[scoped simp] theorem KCl4_ap (ls : List Nat) (fr : Bool) (d : D) (os : List D) (Q) (e : Env) : KCl4 ls fr d os Q e ↔ W (puts ls os e) (KCl5 fr d Q) := Iff.rfl
def KCl3 (ls ks : List Nat) (e : Env) (Q : Res × Env → Prop) (a : Bool × D × List D) : Prop := W (frz (flatR a.1 a.2.1 a.2.2) ks e) (KCl4 ls a.1 a.2.1 a.2.2 Q)
@[scoped simp] theorem KCl3_ap (ls ks : List Nat) (e : Env) (Q) (fr : Bool) (d : D) (os : List D) : KCl3 ls ks e Q (fr, d, os) ↔ W (frz (flatR fr d os) ks e) (KCl4 ls fr d os Q) := Iff.rfl
def KCl2 (call : Call) (f : Str) (ls ks : List Nat) (e : Env) (Q : Res × Env → Prop) (ds : List D) : Prop := okCl ls ks = true ∧ W (call f ds) (KCl3 ls ks e Q)
@[scoped simp] theorem KCl2_ap (call : Call) (f : Str) (ls ks : List Nat) (e : Env) (Q) (ds : List D) : KCl2 call f ls ks e Q ds ↔ okCl ls ks = true ∧ W (call f ds) (KCl3 ls ks e Q) := Iff.rfl
def KCl1 (call : Call) (f : Str) (lent : List Bool) (Q : Res × Env → Prop) (p : List Res × Env) : Prop := W (argsOf p.2 p.1 lent) (KCl2 call f (lentOf p.1 lent) (keptOf p.1 lent) p.2 Q)
@[scoped simp] theorem KCl1_ap (call : Call) (f : Str) (lent : List Bool) (Q) (rs : List Res) (e : Env) : KCl1 call f lent Q (rs, e) ↔ W (argsOf e rs lent) (KCl2 call f (lentOf rs lent) (keptOf rs lent) e Q) := Iff.rfl
@[scoped simp] theorem W_eCall (call : Call) (f : Str) (lent : List Bool) (fs : List EvF) (env : Env) (Q) : W (eCall call f lent fs env) Q ↔ W (eAll fs env) (KCl1 call f lent Q) :=
  W_bd _ _ _ _ fun p => (W_bd _ _ Q (KCl2 call f (lentOf p.1 lent) (keptOf p.1 lent) p.2 Q) fun ds => by
    rw [KCl2_ap]
    show _ ↔ W (if okCl (lentOf p.1 lent) (keptOf p.1 lent) = true then _ else none) Q
    cases hc : okCl (lentOf p.1 lent) (keptOf p.1 lent) with
    | false => simp
    | true =>
      rw [if_pos rfl]
      refine Iff.trans (and_iff_right rfl) ?_
      refine (W_bd _ _ Q (KCl3 (lentOf p.1 lent) (keptOf p.1 lent) p.2 Q) fun a => ?_).symm
      refine (W_bd _ _ Q (KCl4 (lentOf p.1 lent) a.1 a.2.1 a.2.2 Q) fun e => ?_).symm
      exact W_mr fun _ => Iff.rfl).symm
def runM (lent : List Bool) (body : StF) (env : Env) : Option (Bool × D × List D) := (body env).bind fun p => (outs p.2 lent).bind fun o => (match p.1 with
  | .nx => some (false, .none, o)
  | .rt b d => some (b, d, o)
  | _ => none)
@[scoped simp] theorem outs_z (env : Env) : outs env [] = some [] := by cases env <;> rfl
@[scoped simp] theorem outs_t (d : D) (env : Env) (bs : List Bool) : outs (.rf d :: env) (true :: bs) = (outs env bs).map (d :: ·) := rfl
@[scoped simp] theorem outs_f (s : Slot) (env : Env) (bs : List Bool) : outs (s :: env) (false :: bs) = outs env bs := by cases s <;> rfl
def KRn (lent : List Bool) (Q : Bool × D × List D → Prop) : Flow × Env → Prop
  | (.nx, e) => W (outs e lent) (Km (fun o => (false, .none, o)) Q)
  | (.rt b d, e) => W (outs e lent) (Km (fun o => (b, d, o)) Q)
  | _ => False
@[scoped simp] theorem KRn_nx (lent : List Bool) (Q) (e : Env) : KRn lent Q (.nx, e) ↔ W (outs e lent) (Km (fun o => (false, .none, o)) Q) := Iff.rfl
@[scoped simp] theorem KRn_rt (lent : List Bool) (Q) (e : Env) (b : Bool) (d : D) : KRn lent Q (.rt b d, e) ↔ W (outs e lent) (Km (fun o => (b, d, o)) Q) := Iff.rfl
@[scoped simp] theorem W_runM (lent : List Bool) (body : StF) (env : Env) (Q) : W (runM lent body env) Q ↔ W (body env) (KRn lent Q) :=
  W_bd _ _ _ _ fun p => by
    rcases p with ⟨f, e⟩
    cases f with
    | nx => exact (W_bd _ _ Q _ fun o => (W_some ((false, .none, o) : Bool × D × List D) Q).symm).symm
    | rt b d => exact (W_bd _ _ Q _ fun o => (W_some ((b, d, o) : Bool × D × List D) Q).symm).symm
    | ct =>
      show False ↔ W ((outs e lent).bind fun o => none) Q
      cases outs e lent <;> simp
    | bk =>
      show False ↔ W ((outs e lent).bind fun o => none) Q
      cases outs e lent <;> simp
def KLc2 (is : List Nat) (Q : Res × Env → Prop) (q : List D × Env) : Prop := Q (.new (.list q.1), unlk is q.2)
@[scoped simp] theorem KLc2_ap (is : List Nat) (Q) (ys : List D) (e : Env) : KLc2 is Q (ys, e) ↔ Q (.new (.list ys), unlk is e) := Iff.rfl
def KLc (own : List Nat) (tg : TgF) (ifs : List EvF) (elt : EvF) (Q : Res × Env → Prop) (p : List D × List Nat × Env) : Prop := (okN p.1.length = true ∧ own.all (free p.2.2) = true) ∧ W (lcGo own tg ifs elt p.1 p.2.2) (KLc2 p.2.1 Q)
@[scoped simp] theorem KLc_ap (own : List Nat) (tg : TgF) (ifs : List EvF) (elt : EvF) (Q) (xs : List D) (is : List Nat) (e : Env) : KLc own tg ifs elt Q (xs, is, e) ↔ (okN xs.length = true ∧ own.all (free e) = true) ∧ W (lcGo own tg ifs elt xs e) (KLc2 is Q) := Iff.rfl
@[scoped simp] theorem W_eLc (own : List Nat) (tg : TgF) (it : ItF) (ifs : List EvF) (elt : EvF) (env : Env) (Q) : W (eLc own tg it ifs elt env) Q ↔ W (it env) (KLc own tg ifs elt Q) :=
  W_bd _ _ _ _ fun p => by
    rcases p with ⟨xs, is, e⟩
    rw [KLc_ap]
    show _ ↔ W (if (okN xs.length && own.all (free e)) = true then (lcGo own tg ifs elt xs e).map fun q => (.new (.list q.1), unlk is q.2) else none) Q
    cases h : (okN xs.length && own.all (free e)) with
    | false =>
      rw [if_neg (fun z => nomatch z)]
      refine ⟨fun q => ?_, fun q => by simp at q⟩
      rw [q.1.1, q.1.2] at h
      cases h
    | true =>
      rw [if_pos rfl]
      rw [Bool.and_eq_true] at h
      refine Iff.trans (and_iff_right h) ?_
      exact W_mr fun _ => Iff.rfl

/-! ### operations -/
@[scoped simp] theorem binD_add (i j : Int) : binD .Add (.int i) (.int j) = some (.val (.int (i + j))) := rfl
@[scoped simp] theorem binD_sub (i j : Int) : binD .Sub (.int i) (.int j) = some (.val (.int (i - j))) := rfl
@[scoped simp] theorem binD_mul (i j : Int) (h : (-(2 ^ 64) < i ∧ i < 2 ^ 64) ∨ (-(2 ^ 64) < j ∧ j < 2 ^ 64)) : binD .Mult (.int i) (.int j) = some (.val (.int (i * j))) := by
  have : mulOk i j = true := by
    unfold mulOk
    rcases h with h | h
    · rw [decide_eq_true h.1, decide_eq_true h.2]; rfl
    · rw [decide_eq_true h.1, decide_eq_true h.2, Bool.and_self, Bool.or_true]
  show (if mulOk i j = true then _ else none) = _
  rw [if_pos this]
@[scoped simp] theorem binD_mod (i j : Int) (h : 0 < j) : binD .Mod (.int i) (.int j) = some (.val (.int (i % j))) := by
  show (if decide (0 < j) = true then _ else none) = _
  rw [if_pos (decide_eq_true h)]
@[scoped simp] theorem binD_div (i j : Int) (h : 0 < j) (k : j < 1073741824) : binD .FloorDiv (.int i) (.int j) = some (.val (.int (i / j))) := by
  show (if (decide (0 < j) && decide (j < 1073741824)) = true then _ else none) = _
  rw [if_pos (by rw [decide_eq_true h, decide_eq_true k]; rfl)]
theorem okN_le {n : Nat} (h : n ≤ 16777216) : okN n = true := decide_eq_true h
@[scoped simp] theorem binD_addL (xs ys : List D) (h : xs.length + ys.length ≤ 16777216) : binD .Add (.list xs) (.list ys) = some (.new (.list (xs ++ ys))) := by
  show (if okN _ = true then _ else none) = _
  rw [if_pos (okN_le h)]
@[scoped simp] theorem binD_addT (xs ys : List D) (h : xs.length + ys.length ≤ 16777216) : binD .Add (.tuple xs) (.tuple ys) = some (.val (.tuple (xs ++ ys))) := by
  show (if okN _ = true then _ else none) = _
  rw [if_pos (okN_le h)]
@[scoped simp] theorem okN_e (n : Nat) : okN n = true ↔ n ≤ 16777216 := decide_eq_true_iff
@[scoped simp] theorem cmp_lt (i j : Int) : cmpD .Lt (.int i) (.int j) = some (decide (i < j)) := rfl
@[scoped simp] theorem cmp_le (i j : Int) : cmpD .LtE (.int i) (.int j) = some (decide (i ≤ j)) := rfl
@[scoped simp] theorem cmp_gt (i j : Int) : cmpD .Gt (.int i) (.int j) = some (decide (j < i)) := rfl
@[scoped simp] theorem cmp_ge (i j : Int) : cmpD .GtE (.int i) (.int j) = some (decide (j ≤ i)) := rfl
@[scoped simp] theorem cmp_isN (a : D) : cmpD .Is a .none = some (isNoneD a) := by cases a <;> rfl
@[scoped simp] theorem cmp_isntN (a : D) : cmpD .IsNot a .none = some (!isNoneD a) := by cases a <;> rfl
@[scoped simp] theorem isNoneD_n : isNoneD .none = true := rfl
@[scoped simp] theorem isNoneD_i (i : Int) : isNoneD (.int i) = false := rfl
@[scoped simp] theorem isNoneD_t (xs : List D) : isNoneD (.tuple xs) = false := rfl
@[scoped simp] theorem isNoneD_b (b : Bool) : isNoneD (.bool b) = false := rfl
@[scoped simp] theorem isNoneD_s (b : Str) : isNoneD (.str b) = false := rfl
@[scoped simp] theorem isNoneD_l (b : List D) : isNoneD (.list b) = false := rfl
theorem cmp_ne (a b : D) : cmpD .NotEq a b = (cmpD .Eq a b).map (!·) := by cases a <;> cases b <;> rfl
@[scoped simp] theorem cmp_eqI (i j : Int) : cmpD .Eq (.int i) (.int j) = some (decide (i = j)) := by
  show (if (true && decide (0 ≤ 64)) && (true && decide (0 ≤ 64)) then some (i == j) else none) = _
  rfl
@[scoped simp] theorem cmp_neI (i j : Int) : cmpD .NotEq (.int i) (.int j) = some (!decide (i = j)) := by rw [cmp_ne, cmp_eqI]; rfl
@[scoped simp] theorem cmp_eqB (i j : Bool) : cmpD .Eq (.bool i) (.bool j) = some (i == j) := rfl
@[scoped simp] theorem atI_n (xs : List D) (n : Nat) : L2.atI xs (n : Int) = xs[n]? := by
  cases h : xs[n]? with
  | some v => exact L2.atI_nat h
  | none =>
    have hn : xs.length ≤ n := List.getElem?_eq_none_iff.mp h
    unfold L2.atI L2.ixN
    rw [if_pos (by omega), if_neg (by omega)]; rfl
@[scoped simp] theorem atI_z (xs : List D) : L2.atI xs 0 = xs[0]? := atI_n xs 0
@[scoped simp] theorem atI_o (xs : List D) : L2.atI xs 1 = xs[1]? := atI_n xs 1
@[scoped simp] theorem atI_l (xs : List D) (n : Nat) : L2.atI xs (no_index (OfNat.ofNat n : Int)) = xs[n]? := atI_n xs n
theorem ixN_n (n m : Nat) : L2.ixN n (m : Int) = if m < n then some m else none := by
  unfold L2.ixN
  rw [if_pos (by omega)]
  by_cases h : m < n
  · rw [if_pos h, if_pos (by omega), Int.toNat_natCast]
  · rw [if_neg h, if_neg (by omega)]
@[scoped simp] theorem ixN_z (n : Nat) : L2.ixN n 0 = if 0 < n then some 0 else none := ixN_n n 0
@[scoped simp] theorem ixN_o (n : Nat) : L2.ixN n 1 = if 1 < n then some 1 else none := ixN_n n 1
@[scoped simp] theorem ixN_l (n m : Nat) : L2.ixN n (no_index (OfNat.ofNat m : Int)) = if m < n then some m else none := ixN_n n m
def sbL (e : Env) (i : Nat) (v : D) (xs : List D) (m : Nat) : Option Env := put e i (.list (xs.set m v))
@[scoped simp] theorem sbL_e (e : Env) (i : Nat) (v : D) (xs : List D) (m : Nat) : sbL e i v xs m = put e i (.list (xs.set m v)) := rfl
@[scoped simp] theorem sbPut_l (e : Env) (i : Nat) (v : D) (j : Int) (xs : List D) : sbPut e i v (.val (.int j)) (.list xs) = (L2.ixN xs.length j).bind (sbL e i v xs) := rfl
@[scoped simp] theorem ixD_l (xs : List D) (j : Int) : ixD (.list xs) (.int j) = L2.atI xs j := rfl
@[scoped simp] theorem ixD_t (xs : List D) (j : Int) : ixD (.tuple xs) (.int j) = L2.atI xs j := rfl
@[scoped simp] theorem b1_len : b1D "len" = bLen := by funext d; rfl
@[scoped simp] theorem b1_tuple : b1D "tuple" = bTuple := by funext d; rfl
@[scoped simp] theorem b1_int : b1D "int" = bInt := by funext d; rfl
@[scoped simp] theorem b1_abs : b1D "abs" = bAbs := by funext d; rfl
@[scoped simp] theorem b1_list : b1D "list" = bList := by funext d; rfl
@[scoped simp] theorem b1_dict : b1D "dict" = bDict := by funext d; rfl
@[scoped simp] theorem b1_sorted : b1D "sorted" = bSorted := by funext d; rfl
@[scoped simp] theorem b1_min : b1D "min" = bMin := by funext d; rfl
@[scoped simp] theorem b1_max : b1D "max" = bMax := by funext d; rfl
@[scoped simp] theorem b1_all : b1D "all" = bAll := by funext d; rfl
@[scoped simp] theorem b1_any : b1D "any" = bAny := by funext d; rfl
@[scoped simp] theorem b2_min : b2D "min" = bMin2 := by funext a b; rfl
@[scoped simp] theorem b2_max : b2D "max" = bMax2 := by funext a b; rfl
@[scoped simp] theorem bLen_l (xs : List D) : bLen (.list xs) = some (.val (.int xs.length)) := rfl
@[scoped simp] theorem bLen_t (xs : List D) : bLen (.tuple xs) = some (.val (.int xs.length)) := rfl
@[scoped simp] theorem bLen_d (xs : List (D × D)) : bLen (.dict xs) = some (.val (.int xs.length)) := rfl
@[scoped simp] theorem bTuple_l (xs : List D) : bTuple (.list xs) = some (.val (.tuple xs)) := rfl
@[scoped simp] theorem bTuple_t (xs : List D) : bTuple (.tuple xs) = some (.val (.tuple xs)) := rfl
@[scoped simp] theorem bInt_i (i : Int) : bInt (.int i) = some (.val (.int i)) := rfl
@[scoped simp] theorem bAbs_i (i : Int) : bAbs (.int i) = some (.val (.int (if i < 0 then -i else i))) := rfl
@[scoped simp] theorem bMin2_i (i j : Int) : bMin2 (.int i) (.int j) = some (.val (.int (if j < i then j else i))) := rfl
@[scoped simp] theorem bMax2_i (i j : Int) : bMax2 (.int i) (.int j) = some (.val (.int (if j > i then j else i))) := rfl
theorem intsD_m (ns : List Int) : intsD (ns.map .int) = some ns := by
  induction ns with
  | nil => rfl
  | cons n ns ih => show (intsD (ns.map .int)).map _ = _; rw [ih]; rfl
theorem bMin_c (n : Int) (ns : List Int) : bMin (.list (.int n :: ns.map .int)) = some (.val (.int (minI n ns))) := by
  have := intsD_m (n :: ns)
  show (intsD _).bind _ = _
  rw [show (PyData.int n :: ns.map PyData.int) = (n :: ns).map .int from rfl, this]; rfl
theorem bMax_c (n : Int) (ns : List Int) : bMax (.list (.int n :: ns.map .int)) = some (.val (.int (maxI n ns))) := by
  have := intsD_m (n :: ns)
  show (intsD _).bind _ = _
  rw [show (PyData.int n :: ns.map PyData.int) = (n :: ns).map .int from rfl, this]; rfl
theorem bSorted_l (ns : List Int) : bSorted (.list (ns.map .int)) = some (.new (.list ((sortI ns).map .int))) := by
  show (intsD _).map _ = _
  rw [intsD_m]; rfl
theorem minI_le (n : Int) (ns : List Int) : minI n ns ≤ n ∧ ∀ x ∈ ns, minI n ns ≤ x := by
  induction ns generalizing n with
  | nil => exact ⟨Int.le_refl _, fun _ h => by cases h⟩
  | cons y ys ih =>
    have h := ih (if y < n then y else n)
    refine ⟨?_, fun x hx => ?_⟩
    · show minI (if y < n then y else n) ys ≤ n
      by_cases hy : y < n
      · rw [if_pos hy] at h ⊢; omega
      · rw [if_neg hy] at h ⊢; omega
    · show minI (if y < n then y else n) ys ≤ x
      rcases List.mem_cons.mp hx with rfl | hx
      · by_cases hy : x < n
        · rw [if_pos hy] at h ⊢; omega
        · rw [if_neg hy] at h ⊢; omega
      · exact h.2 x hx
theorem minI_mem (n : Int) (ns : List Int) : minI n ns = n ∨ minI n ns ∈ ns := by
  induction ns generalizing n with
  | nil => exact .inl rfl
  | cons y ys ih =>
    show minI (if y < n then y else n) ys = n ∨ _
    by_cases hy : y < n
    · rw [if_pos hy]
      rcases ih y with h | h
      · exact .inr (by show minI (if y < n then y else n) ys ∈ _; rw [if_pos hy, h]; exact List.mem_cons_self)
      · exact .inr (by show minI (if y < n then y else n) ys ∈ _; rw [if_pos hy]; exact List.mem_cons_of_mem _ h)
    · rw [if_neg hy]
      rcases ih n with h | h
      · exact .inl h
      · exact .inr (by show minI (if y < n then y else n) ys ∈ _; rw [if_neg hy]; exact List.mem_cons_of_mem _ h)
theorem maxI_mem (n : Int) (ns : List Int) : maxI n ns = n ∨ maxI n ns ∈ ns := by
  induction ns generalizing n with
  | nil => exact .inl rfl
  | cons y ys ih =>
    show maxI (if y > n then y else n) ys = n ∨ _
    by_cases hy : y > n
    · rw [if_pos hy]
      rcases ih y with h | h
      · exact .inr (by show maxI (if y > n then y else n) ys ∈ _; rw [if_pos hy, h]; exact List.mem_cons_self)
      · exact .inr (by show maxI (if y > n then y else n) ys ∈ _; rw [if_pos hy]; exact List.mem_cons_of_mem _ h)
    · rw [if_neg hy]
      rcases ih n with h | h
      · exact .inl h
      · exact .inr (by show maxI (if y > n then y else n) ys ∈ _; rw [if_neg hy]; exact List.mem_cons_of_mem _ h)
end Mp.P

/-! the defs that all laws draw with, as combinators (printed by mir.py) -/
namespace Mp.P
open PySem
def M_first_standing (call : Call) : StF :=
 (sRet (eIf (eIx (eIx (eVar 0) (eC (.int 5))) (eC (.int 0))) (eTup [(eC (.str "done")), (eC (.int 0)), (eC (.int 0)), (eC .none)]) (eTup [(eC (.str "here")), (eC (.int 0)), (eVar 1), (eC .none)])))
def M_came_to (call : Call) : StF :=
 (sRet (eIf (eIx (eIx (eVar 0) (eC (.int 5))) (eVar 2)) (eTup [(eC (.str "done")), (eVar 2), (eC (.int 0)), (eVar 4)]) (eTup [(eVar 1), (eVar 2), (eVar 3), (eVar 4)])))
def M_did (call : Call) : StF :=
 (sSeq (sAsg (gTp [(gNm 4), (gNm 5), (gNm 6), (gNm 7)]) (eVar 2))
 (sSeq (sAsg (gNm 8) (eIx (eIx (eIx (eVar 0) (eC (.int 0))) (eVar 5)) (eVar 3)))
 (sSeq (sIf (eOr (eCmp .Is (eVar 8) (eC .none)) (eCmp .Eq (eVar 4) (eC (.str "away"))))
  (sRet (eVar 2))
  sNil)
 (sRet (eCall call "came_to" [false, false, false, false, false] [(eVar 0), (eVar 4), (eIx (eVar 8) (eC (.int 0))), (eIf (eCmp .Eq (eVar 4) (eC (.str "here"))) (eB2 "min" (eVar 1) (eBin .Add (eVar 6) (eC (.int 1)))) (eBin .Add (eVar 6) (eC (.int 1)))), (eVar 7)])))))
def M_other_did (call : Call) : StF :=
 (sSeq (sAsg (gTp [(gNm 3), (gNm 4), (gNm 5), (gNm 6)]) (eVar 1))
 (sSeq (sAsg (gNm 7) (eIx (eIx (eIx (eVar 0) (eC (.int 3))) (eVar 4)) (eVar 2)))
 (sSeq (sIf (eCmp .Is (eVar 7) (eC .none))
  (sRet (eVar 1))
  sNil)
 (sRet (eIf (eCmp .Eq (eVar 3) (eC (.str "away"))) (eTup [(eC (.str "away")), (eVar 7), (eBin .Add (eVar 5) (eC (.int 1))), (eVar 6)]) (eCall call "came_to" [false, false, false, false, false] [(eVar 0), (eVar 3), (eVar 7), (eVar 5), (eVar 6)]))))))
def M_behind_row (call : Call) : StF :=
 (sSeq (sAsg (gTp [(gNm 4), (gNm 5), (gNm 6), (gNm 7)]) (eVar 2))
 (sSeq (sIf (eCmp .Eq (eVar 4) (eC (.str "done")))
  (sRet (eVar 2))
  sNil)
 (sSeq (sIf (eCmp .Eq (eIx (eVar 3) (eC (.int 0))) (eC (.str "did")))
  (sRet (eCall call "did" [false, false, false, false] [(eVar 0), (eVar 1), (eVar 2), (eIx (eVar 3) (eC (.int 1)))]))
  sNil)
 (sSeq (sIf (eCmp .Eq (eIx (eVar 3) (eC (.int 0))) (eC (.str "other")))
  (sRet (eCall call "other_did" [false, false, false] [(eVar 0), (eVar 2), (eIx (eVar 3) (eC (.int 1)))]))
  sNil)
 (sSeq (sIf (eCmp .Eq (eIx (eVar 3) (eC (.int 0))) (eC (.str "call")))
  (sRet (eIf (eCmp .Eq (eVar 4) (eC (.str "here"))) (eTup [(eC (.str "called")), (eVar 5), (eC (.int 0)), (eVar 7)]) (eVar 2)))
  sNil)
 (sSeq (sIf (eCmp .Eq (eIx (eVar 3) (eC (.int 0))) (eC (.str "left")))
  (sRet (eIf (eCmp .Eq (eVar 4) (eC (.str "away"))) (eVar 2) (eTup [(eC (.str "away")), (eVar 5), (eC (.int 0)), (eVar 7)])))
  sNil)
 (sRet (eIf (eCmp .Eq (eVar 4) (eC (.str "away"))) (eCall call "came_to" [false, false, false, false, false] [(eVar 0), (eC (.str "here")), (eVar 5), (eC (.int 0)), (eIx (eVar 3) (eC (.int 1)))]) (eVar 2)))))))))
def M_standings (call : Call) : StF :=
 (sSeq (sAsg (gNm 3) (eLst [(eCall call "first_standing" [false, false] [(eVar 0), (eVar 1)])]))
 (sSeq (sFor (gNm 4) (itSeq (eVar 2))
  (sExpr (eAppend (eVar 3) (eCall call "behind_row" [false, false, false, false] [(eVar 0), (eVar 1), (eIx (eVar 3) (eNeg (eC (.int 1)))), (eVar 4)]))))
 (sRet (eB1 "tuple" (eVar 3)))))
def M_law_box (call : Call) : StF :=
 (sSeq (sAsg (gNm 2) (eBin .Add (eBin .Mult (eC (.int 43037)) (eVar 1)) (eC (.int 6011))))
 (sSeq (sIf (eCmp .Lt (eVar 1) (eB1 "len" (eVar 0)))
  (sAsg (gNm 2) (eB1 "abs" (eB1 "int" (eIx (eVar 0) (eVar 1)))))
  (sIf (eCmp .Gt (eB1 "len" (eVar 0)) (eC (.int 0)))
   (sAsg (gNm 2) (eBin .Add (eVar 2) (eBin .Mult (eBin .Mod (eB1 "int" (eB1 "abs" (eB1 "int" (eIx (eVar 0) (eBin .Mod (eB1 "int" (eVar 1)) (eB1 "len" (eVar 0))))))) (eC (.int 2147483563))) (eC (.int 91009)))))
   sNil))
 (sSeq (sAsg (gNm 3) (eIf (eCmp .GtE (eVar 2) (eBin .Pow (eC (.int 10)) (eC (.int 18)))) (eVar 2) (eC (.int 0))))
 (sRet (eLst [(eVar 3), (eBin .Add (eBin .Mod (eB1 "int" (eBin .Add (eBin .Mult (eBin .Mod (eB1 "int" (eVar 2)) (eC (.int 2147483563))) (eC (.int 54250093))) (eBin .Mult (eC (.int 6011)) (eVar 1)))) (eC (.int 2147483563))) (eC (.int 1)))])))))
def M_law_take (call : Call) : StF :=
 (sSeq (sIf (eCmp .Gt (eIx (eVar 0) (eC (.int 0))) (eC (.int 0)))
  (sSeq (sAsg (gNm 2) (eBin .Mod (eB1 "int" (eIx (eVar 0) (eC (.int 0)))) (eVar 1)))
  (sSeq (sAsg (gSb (eVar 0) (eC (.int 0))) (eBin .FloorDiv (eIx (eVar 0) (eC (.int 0))) (eVar 1)))
  (sRet (eVar 2))))
  sNil)
 (sSeq (sAsg (gNm 3) (eBin .Mod (eB1 "int" (eBin .Add (eBin .Mult (eIx (eVar 0) (eC (.int 1))) (eC (.int 39373))) (eC (.int 229)))) (eC (.int 2147483647))))
 (sSeq (sAsg (gSb (eVar 0) (eC (.int 1))) (eBin .Add (eBin .Mod (eB1 "int" (eBin .Add (eBin .Mult (eVar 3) (eC (.int 40692))) (eC (.int 103)))) (eC (.int 2147483563))) (eC (.int 1))))
 (sRet (eBin .Mod (eB1 "int" (eBin .FloorDiv (eBin .Add (eBin .Mult (eVar 3) (eC (.int 2147483629))) (eIx (eVar 0) (eC (.int 1)))) (eC (.int 8273)))) (eVar 1))))))
def M_law_pick (call : Call) : StF :=
 (sRet (eIx (eVar 1) (eCall call "_law_take" [true, false] [(eVar 0), (eB1 "len" (eVar 1))])))
def M_law_same (call : Call) : StF :=
 (sSeq (sIf (eInst (eVar 1) "tuple")
  (sSeq (sIf (eOr (eNot (eInst (eVar 0) "tuple")) (eCmp .NotEq (eB1 "len" (eVar 0)) (eB1 "len" (eVar 1))))
   (sRet (eC (.bool false)))
   sNil)
  (sSeq (sFor (gTp [(gNm 2), (gNm 3)]) (itZip (eVar 0) (eVar 1))
   (sIf (eNot (eCall call "_law_same" [false, false] [(eVar 2), (eVar 3)]))
    (sRet (eC (.bool false)))
    sNil))
  (sRet (eC (.bool true)))))
  sNil)
 (sSeq (sIf (eCmp .Is (eVar 1) (eC .none))
  (sRet (eCmp .Is (eVar 0) (eC .none)))
  sNil)
 (sSeq (sIf (eOr (eCmp .Is (eVar 1) (eC (.bool true))) (eCmp .Is (eVar 1) (eC (.bool false))))
  (sRet (eAnd (eInst (eVar 0) "bool") (eCmp .Eq (eVar 0) (eVar 1))))
  sNil)
 (sSeq (sIf (eInst (eVar 1) "int")
  (sRet (eAnd (eInst (eVar 0) "int") (eAnd (eNot (eInst (eVar 0) "bool")) (eCmp .Eq (eVar 0) (eVar 1)))))
  sNil)
 (sRet (eAnd (eInst (eVar 0) "str") (eAnd (eInst (eVar 1) "str") (eCmp .Eq (eVar 0) (eVar 1)))))))))
def M_law_behind (call : Call) : StF :=
 (sSeq (sPar [(gNm 3), (gNm 4), (gNm 5)] [(eLst [(eVar 1)]), (eLst [(eVar 1)]), (eC (.int 0))])
 (sSeq (sWhile 10000 (eAnd (eCmp .NotEq (eVar 4) (eLst [])) (eOr (eCmp .Is (eVar 2) (eC .none)) (eCmp .Lt (eVar 5) (eVar 2))))
  (sSeq (sAsg (gNm 6) (eLst []))
  (sSeq (sFor (gNm 7) (itSeq (eVar 4))
   (sAsg (gNm 6) (eBin .Add (eVar 6) (eLc [8] (gNm 8) (itSeq (eIx (eIx (eVar 0) (eC (.int 3))) (eVar 7))) [(eCmp .IsNot (eVar 8) (eC .none))] (eVar 8)))))
  (sSeq (sAsg (gNm 4) (eLc [8] (gNm 8) (itSeq (eB1 "dict" (eLc [9] (gNm 9) (itSeq (eVar 6)) [] (eTup [(eVar 9), (eC (.int 1))])))) [(eCmp .NotIn (eVar 8) (eVar 3))] (eVar 8)))
  (sPar [(gNm 3), (gNm 5)] [(eBin .Add (eVar 3) (eVar 4)), (eBin .Add (eVar 5) (eC (.int 1)))])))))
 (sRet (eB1 "tuple" (eB1 "sorted" (eVar 3))))))
def M_law_leave (call : Call) : StF :=
 (sRet (eCmp .Eq (eLc [3] (gNm 3) (itSeq (eCall call "_law_behind" [false, false, false] [(eVar 0), (eVar 1), (eVar 2)])) [(eIx (eIx (eVar 0) (eC (.int 4))) (eVar 3))] (eC (.int 1))) (eLst [])))
def M_law_quick (call : Call) : StF :=
 (sSeq (sPar [(gNm 3), (gNm 4)] [(eLst [(eTup [(eC (.int 0)), (eTup []), (eVar 1)])]), (eLst [(eTup [(eC (.int 0)), (eTup []), (eVar 1)])])])
 (sSeq (sFor (gNm 5) (itRange1 (eVar 2))
  (sSeq (sAsg (gNm 6) (eLst []))
  (sSeq (sFor (gTp [(gNm 7), (gNm 8), (gNm 9)]) (itSeq (eVar 4))
   (sFor (gTp [(gNm 10), (gNm 11)]) (itEnum (eIx (eIx (eVar 0) (eC (.int 0))) (eVar 9)))
    (sIf (eAnd (eCmp .IsNot (eVar 11) (eC .none)) (eAnd (eIx (eIx (eVar 0) (eC (.int 1))) (eVar 10)) (eNot (eIx (eIx (eVar 0) (eC (.int 5))) (eVar 9)))))
     (sExpr (eAppend (eVar 6) (eTup [(eBin .Add (eVar 7) (eIx (eVar 11) (eC (.int 1)))), (eBin .Add (eVar 8) (eTup [(eVar 10)])), (eIx (eVar 11) (eC (.int 0)))])))
     sNil)))
  (sSeq (sAsg (gNm 4) (eLc [8] (gNm 8) (itSeq (eVar 6)) [(eCmp .Eq (eLc [12] (gNm 12) (itSeq (eVar 3)) [(eAnd (eCmp .Eq (eIx (eVar 12) (eC (.int 2))) (eIx (eVar 8) (eC (.int 2)))) (eCmp .LtE (eIx (eVar 12) (eC (.int 0))) (eIx (eVar 8) (eC (.int 0)))))] (eC (.int 1))) (eLst []))] (eVar 8)))
  (sAsg (gNm 3) (eBin .Add (eVar 3) (eVar 4)))))))
 (sRet (eVar 3))))
def M_law_answers (call : Call) : StF :=
 (sSeq (sPar [(gNm 4), (gNm 5)] [(eCall call "_law_quick" [false, false, false] [(eVar 0), (eVar 3), (eVar 1)]), (eLst [])])
 (sSeq (sFor (gNm 6) (itSeq (eB1 "sorted" (eB1 "dict" (eLc [8] (gNm 8) (itSeq (eVar 4)) [] (eTup [(eIx (eVar 8) (eC (.int 2))), (eC (.int 1))])))))
  (sIf (eOr (eIx (eIx (eVar 0) (eC (.int 5))) (eVar 6)) (eCall call "_law_leave" [false, false, false] [(eVar 0), (eVar 6), (eVar 2)]))
   (sSeq (sAsg (gNm 7) (eIf (eIx (eIx (eVar 0) (eC (.int 5))) (eVar 6)) (eTup []) (eB1 "tuple" (eLc [9] (gNm 9) (itSeq (eCall call "_law_behind" [false, false, false] [(eVar 0), (eVar 6), (eVar 2)])) [] (eTup [(eVar 9), (eC (.int 0))])))))
   (sExpr (eAppend (eVar 5) (eTup [(eB1 "min" (eLc [8] (gNm 8) (itSeq (eVar 4)) [(eCmp .Eq (eIx (eVar 8) (eC (.int 2))) (eVar 6))] (eIx (eVar 8) (eC (.int 0))))), (eVar 7)]))))
   sNil))
 (sRet (eVar 5))))
def M_law_moves (call : Call) : StF :=
 (sSeq (sAsg (gNm 4) (eLc [5, 6] (gTp [(gNm 5), (gNm 6)]) (itEnum (eIx (eIx (eVar 0) (eC (.int 0))) (eIx (eVar 3) (eC (.int 0))))) [(eCmp .IsNot (eVar 6) (eC .none))] (eTup [(eIx (eVar 6) (eC (.int 1))), (eVar 5), (eTup [(eTup [(eIx (eVar 6) (eC (.int 0))), (eB2 "min" (eVar 1) (eBin .Add (eIx (eVar 3) (eC (.int 1))) (eC (.int 1))))])])])))
 (sSeq (sIf (eCall call "_law_leave" [false, false, false] [(eVar 0), (eIx (eVar 3) (eC (.int 0))), (eVar 2)])
  (sExpr (eAppend (eVar 4) (eTup [(eC (.int 0)), (eC (.str "go")), (eB1 "tuple" (eLc [7] (gNm 7) (itSeq (eCall call "_law_behind" [false, false, false] [(eVar 0), (eIx (eVar 3) (eC (.int 0))), (eVar 2)])) [] (eTup [(eVar 7), (eC (.int 0))])))])))
  sNil)
 (sRet (eVar 4))))
def M_law_places (call : Call) : StF :=
 (sSeq (sAsg (gNm 2) (eLst []))
 (sSeq (sFor (gNm 3) (itRange1 (eB1 "len" (eIx (eVar 0) (eC (.int 0)))))
  (sAsg (gNm 2) (eBin .Add (eVar 2) (eLc [4] (gNm 4) (itRange1 (eBin .Add (eVar 1) (eC (.int 1)))) [] (eTup [(eVar 3), (eVar 4)])))))
 (sRet (eVar 2))))
def M_law_rules_of (call : Call) : StF :=
 (sSeq (sAsg (gNm 4) (eDict []))
 (sSeq (sFor (gNm 5) (itSeq (eLc [5] (gNm 5) (itSeq (eCall call "_law_places" [false, false] [(eVar 0), (eVar 2)])) [(eNot (eIx (eIx (eVar 0) (eC (.int 5))) (eIx (eVar 5) (eC (.int 0)))))] (eVar 5)))
  (sSeq (sAsg (gNm 6) (eIf (eCmp .Eq (eIx (eVar 5) (eC (.int 1))) (eVar 2)) (eCall call "_law_answers" [false, false, false, false] [(eVar 0), (eVar 1), (eVar 3), (eIx (eVar 5) (eC (.int 0)))]) (eC .none)))
  (sAsg (gSb (eVar 4) (eVar 5)) (eTup [(eCall call "_law_moves" [false, false, false, false] [(eVar 0), (eVar 2), (eVar 3), (eVar 5)]), (eVar 6)]))))
 (sRet (eVar 4))))
def M_law_worth_rows (call : Call) : StF :=
 (sSeq (sPar [(gNm 6), (gNm 7)] [(eCall call "_law_rules_of" [false, false, false, false] [(eVar 0), (eVar 1), (eVar 2), (eVar 3)]), (eLst [])])
 (sSeq (sFor (gNm 8) (itRange1 (eBin .Add (eVar 4) (eC (.int 1))))
  (sSeq (sAsg (gNm 10) (eB1 "dict" (eLc [9] (gNm 9) (itSeq (eCall call "_law_places" [false, false] [(eVar 0), (eVar 2)])) [] (eTup [(eVar 9), (eIf (eIx (eIx (eVar 0) (eC (.int 5))) (eIx (eVar 9) (eC (.int 0)))) (eC (.int 0)) (eBin .Add (eVar 5) (eC (.int 1))))]))))
  (sSeq (sAsg (gNm 11) (eDict []))
  (sSeq (sFor (gNm 9) (itSeq (eVar 6))
   (sSeq (sAsg (gNm 12) (eIf (eCmp .Gt (eVar 8) (eC (.int 0))) (eIx (eIx (eVar 6) (eVar 9)) (eC (.int 1))) (eC .none)))
   (sSeq (sAsg (gNm 13) (eIf (eCmp .Is (eVar 12) (eC .none)) (eLst []) (eLc [16, 17] (gTp [(gNm 16), (gNm 17)]) (itSeq (eVar 12)) [] (eBin .Add (eVar 16) (eB1 "max" (eBin .Add (eLst [(eC (.int 0))]) (eLc [18] (gNm 18) (itSeq (eVar 17)) [] (eIx (eIx (eVar 7) (eBin .Sub (eVar 8) (eC (.int 1)))) (eVar 18)))))))))
   (sAsg (gSb (eVar 11) (eVar 9)) (eIf (eCmp .Is (eVar 12) (eC .none)) (eC (.int 0)) (eB1 "min" (eBin .Add (eVar 13) (eLst [(eBin .Add (eVar 5) (eC (.int 1)))]))))))))
  (sSeq (sAsg (gNm 14) (eC (.bool true)))
  (sSeq (sWhile 10000 (eVar 14)
   (sSeq (sAsg (gNm 14) (eC (.bool false)))
   (sFor (gNm 9) (itSeq (eVar 6))
    (sSeq (sAsg (gNm 13) (eLc [16, 19, 17] (gTp [(gNm 16), (gNm 19), (gNm 17)]) (itSeq (eIx (eIx (eVar 6) (eVar 9)) (eC (.int 0)))) [] (eBin .Add (eVar 16) (eB1 "max" (eLc [18] (gNm 18) (itSeq (eVar 17)) [] (eIx (eVar 10) (eVar 18)))))))
    (sSeq (sAsg (gNm 15) (eB2 "min" (eBin .Add (eVar 5) (eC (.int 1))) (eB2 "max" (eIx (eVar 11) (eVar 9)) (eB1 "min" (eBin .Add (eVar 13) (eLst [(eBin .Add (eVar 5) (eC (.int 1)))]))))))
    (sIf (eCmp .Lt (eVar 15) (eIx (eVar 10) (eVar 9)))
     (sPar [(gSb (eVar 10) (eVar 9)), (gNm 14)] [(eVar 15), (eC (.bool true))])
     sNil))))))
  (sExpr (eAppend (eVar 7) (eVar 10)))))))))
 (sRet (eVar 7))))
def M_law_least (call : Call) : StF :=
 (sSeq (sAsg (gNm 8) (eLc [7] (gNm 7) (itRange1 (eB1 "len" (eVar 0))) [] (eTup [(eIx (eVar 4) (eVar 7)), (eIx (eVar 5) (eVar 7))])))
 (sSeq (sFor (gNm 9) (itRange1 (eBin .Add (eB1 "len" (eVar 0)) (eC (.int 1))))
  (sSeq (sPar [(gNm 10), (gNm 11)] [(eDict []), (eLst [])])
  (sSeq (sFor (gNm 7) (itRange1 (eB1 "len" (eVar 0)))
   (sSeq (sAsg (gNm 12) (eB1 "tuple" (eLc [19] (gNm 19) (itSeq (eIx (eVar 0) (eVar 7))) [] (eIf (eCmp .Is (eVar 19) (eC .none)) (eC .none) (eTup [(eIx (eVar 8) (eIx (eVar 19) (eC (.int 0)))), (eIx (eVar 19) (eC (.int 1)))])))))
   (sExpr (eAppend (eVar 11) (eSetdef (eVar 10) (eTup [(eIx (eVar 8) (eVar 7)), (eVar 12), (eB1 "tuple" (eLc [13] (gNm 13) (itSeq (eIx (eVar 3) (eVar 7))) [] (eIf (eCmp .Is (eVar 13) (eC .none)) (eC .none) (eIx (eVar 8) (eVar 13)))))]) (eB1 "len" (eVar 10)))))))
  (sAsg (gNm 8) (eVar 11)))))
 (sSeq (sPar [(gNm 14), (gNm 15), (gNm 16), (gNm 17)] [(eLst [(eC (.int 0))]), (eDict [((eIx (eVar 8) (eC (.int 0))), (eC (.int 0)))]), (eLst []), (eLst [])])
 (sSeq (sWhile 10000 (eCmp .Lt (eB1 "len" (eVar 16)) (eB1 "len" (eVar 14)))
  (sSeq (sAsg (gNm 18) (eIx (eVar 14) (eB1 "len" (eVar 16))))
  (sSeq (sFor (gNm 13) (itSeq (eBin .Add (eLc [19] (gNm 19) (itSeq (eIx (eVar 0) (eVar 18))) [(eCmp .IsNot (eVar 19) (eC .none))] (eIx (eVar 19) (eC (.int 0)))) (eLc [20] (gNm 20) (itSeq (eIx (eVar 3) (eVar 18))) [(eCmp .IsNot (eVar 20) (eC .none))] (eVar 20))))
   (sIf (eCmp .NotIn (eIx (eVar 8) (eVar 13)) (eVar 15))
    (sSeq (sAsg (gSb (eVar 15) (eIx (eVar 8) (eVar 13))) (eB1 "len" (eVar 14)))
    (sExpr (eAppend (eVar 14) (eVar 13))))
    sNil))
  (sSeq (sExpr (eAppend (eVar 16) (eB1 "tuple" (eLc [19] (gNm 19) (itSeq (eIx (eVar 0) (eVar 18))) [] (eIf (eCmp .Is (eVar 19) (eC .none)) (eC .none) (eTup [(eIx (eVar 15) (eIx (eVar 8) (eIx (eVar 19) (eC (.int 0))))), (eIx (eVar 19) (eC (.int 1)))]))))))
  (sExpr (eAppend (eVar 17) (eB1 "tuple" (eLc [13] (gNm 13) (itSeq (eIx (eVar 3) (eVar 18))) [] (eIf (eCmp .Is (eVar 13) (eC .none)) (eC .none) (eIx (eVar 15) (eIx (eVar 8) (eVar 13))))))))))))
 (sRet (eTup [(eB1 "tuple" (eVar 16)), (eB1 "tuple" (eVar 1)), (eB1 "tuple" (eVar 2)), (eB1 "tuple" (eVar 17)), (eB1 "tuple" (eLc [7] (gNm 7) (itSeq (eVar 14)) [] (eIx (eVar 4) (eVar 7)))), (eB1 "tuple" (eLc [7] (gNm 7) (itSeq (eVar 14)) [] (eIx (eVar 5) (eVar 7)))), (eVar 6)]))))))
def M_law_pay (call : Call) : StF :=
 (sSeq (sAsg (gNm 0) (eBin .Mult (eTup [(eC .none)]) (eC (.int 3))))
 (sRet (eTup [(eTup [(eTup [(eTup [(eC (.int 1)), (eC (.int 2))]), (eC .none), (eTup [(eC (.int 2)), (eC (.int 6))])]), (eTup [(eC .none), (eTup [(eC (.int 2)), (eC (.int 1))]), (eC .none)]), (eVar 0)]), (eBin .Mult (eTup [(eC (.bool false))]) (eC (.int 3))), (eBin .Mult (eTup [(eC (.int 0))]) (eC (.int 3))), (eTup [(eTup [(eC .none)]), (eTup [(eC (.int 0))]), (eTup [(eC .none)])]), (eBin .Mult (eTup [(eC (.bool false))]) (eC (.int 3))), (eTup [(eC (.bool false)), (eC (.bool false)), (eC (.bool true))]), (eC (.int 1))])))
def M_law_aside (call : Call) : StF :=
 (sSeq (sAsg (gNm 0) (eBin .Mult (eTup [(eC .none)]) (eC (.int 4))))
 (sSeq (sAsg (gNm 1) (eTup [(eTup [(eC .none), (eC .none), (eTup [(eC (.int 1)), (eC (.int 1))]), (eTup [(eC (.int 3)), (eC (.int 9))])]), (eTup [(eTup [(eC (.int 2)), (eC (.int 1))]), (eC .none), (eC .none), (eC .none)]), (eTup [(eC .none), (eTup [(eC (.int 3)), (eC (.int 1))]), (eC .none), (eC .none)]), (eVar 0)]))
 (sRet (eTup [(eVar 1), (eBin .Mult (eTup [(eC (.bool false))]) (eC (.int 4))), (eBin .Mult (eTup [(eC (.int 0))]) (eC (.int 4))), (eTup [(eTup [(eC .none)]), (eTup [(eC .none)]), (eTup [(eC (.int 1))]), (eTup [(eC .none)])]), (eBin .Mult (eTup [(eC (.bool false))]) (eC (.int 4))), (eTup [(eC (.bool false)), (eC (.bool false)), (eC (.bool false)), (eC (.bool true))]), (eC (.int 1))]))))
def M_law_undone (call : Call) : StF :=
 (sSeq (sAsg (gNm 0) (eBin .Mult (eTup [(eC .none)]) (eC (.int 2))))
 (sRet (eTup [(eTup [(eTup [(eTup [(eC (.int 1)), (eC (.int 0))]), (eC .none)]), (eTup [(eC .none), (eTup [(eC (.int 2)), (eC (.int 0))])]), (eVar 0)]), (eBin .Mult (eTup [(eC (.bool false))]) (eC (.int 2))), (eBin .Mult (eTup [(eC (.int 0))]) (eC (.int 2))), (eTup [(eTup [(eC .none)]), (eTup [(eC (.int 0))]), (eTup [(eC .none)])]), (eBin .Mult (eTup [(eC (.bool false))]) (eC (.int 3))), (eTup [(eC (.bool false)), (eC (.bool false)), (eC (.bool true))]), (eC (.int 1))])))
def M_law_milk (call : Call) : StF :=
 (sSeq (sAsg (gNm 0) (eBin .Mult (eTup [(eC .none)]) (eC (.int 3))))
 (sRet (eTup [(eTup [(eTup [(eTup [(eC (.int 1)), (eC (.int 0))]), (eTup [(eC (.int 3)), (eC (.int 1))]), (eC .none)]), (eTup [(eC .none), (eC .none), (eTup [(eC (.int 0)), (eC (.int 0))])]), (eVar 0), (eVar 0)]), (eTup [(eC (.bool true)), (eC (.bool false)), (eC (.bool false))]), (eBin .Mult (eTup [(eC (.int 0))]) (eC (.int 3))), (eTup [(eTup [(eC (.int 2))]), (eTup [(eC .none)]), (eTup [(eC .none)]), (eTup [(eC .none)])]), (eTup [(eC (.bool false)), (eC (.bool false)), (eC (.bool true)), (eC (.bool false))]), (eTup [(eC (.bool false)), (eC (.bool false)), (eC (.bool false)), (eC (.bool true))]), (eC (.int 1))])))
def M_law_any_world (call : Call) : StF :=
 (sSeq (sPar [(gNm 2), (gNm 3), (gNm 4), (gNm 5)] [(eBin .Add (eC (.int 3)) (eCall call "_law_take" [true, false] [(eVar 0), (eBin .Sub (eVar 1) (eC (.int 2)))])), (eBin .Add (eC (.int 2)) (eCall call "_law_take" [true, false] [(eVar 0), (eC (.int 3))])), (eBin .Add (eC (.int 1)) (eCall call "_law_take" [true, false] [(eVar 0), (eC (.int 2))])), (eBin .Add (eC (.int 1)) (eCall call "_law_take" [true, false] [(eVar 0), (eC (.int 2))]))])
 (sSeq (sPar [(gNm 6), (gNm 7)] [(eLst []), (eLst [])])
 (sSeq (sFor (gNm 8) (itRange1 (eVar 2))
  (sSeq (sAsg (gNm 9) (eLst []))
  (sSeq (sFor (gNm 10) (itRange1 (eVar 3))
   (sSeq (sAsg (gNm 11) (eIf (eCmp .Gt (eCall call "_law_take" [true, false] [(eVar 0), (eC (.int 3))]) (eC (.int 0))) (eCall call "_law_take" [true, false] [(eVar 0), (eVar 2)]) (eB2 "min" (eBin .Sub (eVar 2) (eC (.int 1))) (eBin .Add (eVar 8) (eC (.int 1))))))
   (sExpr (eAppend (eVar 9) (eIf (eOr (eCmp .Eq (eCall call "_law_take" [true, false] [(eVar 0), (eC (.int 3))]) (eC (.int 0))) (eCmp .Eq (eVar 11) (eVar 8))) (eC .none) (eTup [(eVar 11), (eCall call "_law_pick" [true, false] [(eVar 0), (eLst [(eC (.int 0)), (eC (.int 1)), (eC (.int 1)), (eC (.int 2)), (eC (.int 3)), (eC (.int 4))])])]))))))
  (sSeq (sExpr (eAppend (eVar 6) (eB1 "tuple" (eVar 9))))
  (sExpr (eAppend (eVar 7) (eB1 "tuple" (eLc [10] (gNm 10) (itRange1 (eVar 4)) [] (eIf (eCmp .Eq (eCall call "_law_take" [true, false] [(eVar 0), (eC (.int 2))]) (eC (.int 0))) (eC .none) (eCall call "_law_take" [true, false] [(eVar 0), (eVar 2)]))))))))))
 (sSeq (sAsg (gNm 12) (eLc [8] (gNm 8) (itRange1 (eVar 2)) [] (eAnd (eCmp .Eq (eCall call "_law_take" [true, false] [(eVar 0), (eC (.int 6))]) (eC (.int 0))) (eCh .Lt .Lt (eC (.int 0)) (eVar 8) (eBin .Sub (eVar 2) (eC (.int 1)))))))
 (sSeq (sAsg (gNm 13) (eLc [8] (gNm 8) (itRange1 (eVar 2)) [] (eOr (eCmp .Eq (eVar 8) (eBin .Sub (eVar 2) (eC (.int 1)))) (eAnd (eCmp .Gt (eVar 8) (eC (.int 0))) (eCmp .Eq (eCall call "_law_take" [true, false] [(eVar 0), (eC (.int 8))]) (eC (.int 0)))))))
 (sSeq (sPar [(gNm 14), (gNm 15)] [(eLc [10] (gNm 10) (itRange1 (eVar 3)) [] (eCmp .Eq (eCall call "_law_take" [true, false] [(eVar 0), (eC (.int 2))]) (eC (.int 0)))), (eLc [10] (gNm 10) (itRange1 (eVar 3)) [] (eCall call "_law_take" [true, false] [(eVar 0), (eVar 5)]))])
 (sRet (eCall call "_law_least" [false, false, false, false, false, false, false] [(eVar 6), (eVar 14), (eVar 15), (eVar 7), (eVar 12), (eVar 13), (eVar 5)]))))))))
def M_law_case (call : Call) : StF :=
 (sSeq (sFor (gNm 2) (itRange1 (eC (.int 6)))
  (sSeq (sAsg (gNm 3) (eIf (eCmp .Eq (eCall call "_law_take" [true, false] [(eVar 0), (eC (.int 6))]) (eC (.int 0))) (eCall call "_law_pick" [true, false] [(eVar 0), (eLst [(eCall call "_law_pay" [] []), (eCall call "_law_aside" [] []), (eCall call "_law_undone" [] []), (eCall call "_law_milk" [] [])])]) (eCall call "_law_any_world" [true, false] [(eVar 0), (eVar 1)])))
  (sSeq (sPar [(gNm 4), (gNm 5), (gNm 6)] [(eCall call "_law_take" [true, false] [(eVar 0), (eC (.int 3))]), (eCall call "_law_take" [true, false] [(eVar 0), (eC (.int 4))]), (eCall call "_law_pick" [true, false] [(eVar 0), (eLst [(eC .none), (eC .none), (eC (.int 0)), (eC (.int 1)), (eC (.int 2))])])])
  (sIf (eAnd (eCmp .Gt (eB1 "len" (eIx (eVar 3) (eC (.int 0)))) (eC (.int 2))) (eNot (eIx (eIx (eVar 3) (eC (.int 5))) (eC (.int 0)))))
   (sSeq (sAsg (gNm 7) (eCall call "_law_worth_rows" [false, false, false, false, false, false] [(eVar 3), (eVar 4), (eVar 5), (eVar 6), (eC (.int 2)), (eC (.int 40))]))
   (sIf (eAnd (eCmp .LtE (eIx (eIx (eVar 7) (eC (.int 0))) (eTup [(eC (.int 0)), (eVar 5)])) (eC (.int 40))) (eOr (eCmp .NotEq (eIx (eVar 7) (eC (.int 2))) (eIx (eVar 7) (eC (.int 0)))) (eCmp .Eq (eCall call "_law_take" [true, false] [(eVar 0), (eC (.int 4))]) (eC (.int 0)))))
    (sRet (eTup [(eVar 3), (eVar 4), (eVar 5), (eVar 6)]))
    sNil))
   sNil))))
 (sRet (eTup [(eCall call "_law_pay" [] []), (eC (.int 0)), (eC (.int 1)), (eC .none)])))
def M_law_stand (call : Call) : StF :=
 (sSeq (sAsg (gTp [(gNm 4), (gNm 5), (gNm 6), (gNm 7)]) (eVar 2))
 (sSeq (sAsg (gNm 8) (eIx (eVar 3) (eC (.int 0))))
 (sSeq (sIf (eOr (eCmp .Eq (eVar 4) (eC (.str "done"))) (eOr (eAnd (eCmp .Eq (eVar 8) (eC (.str "call"))) (eCmp .NotEq (eVar 4) (eC (.str "here")))) (eOr (eAnd (eCmp .Eq (eVar 8) (eC (.str "came"))) (eCmp .NotEq (eVar 4) (eC (.str "away")))) (eAnd (eCmp .In (eVar 8) (eTup [(eC (.str "did")), (eC (.str "left"))])) (eCmp .Eq (eVar 4) (eC (.str "away")))))))
  (sRet (eVar 2))
  sNil)
 (sSeq (sIf (eCmp .Eq (eVar 8) (eC (.str "call")))
  (sRet (eTup [(eC (.str "called")), (eVar 5), (eC (.int 0)), (eVar 7)]))
  sNil)
 (sSeq (sIf (eCmp .Eq (eVar 8) (eC (.str "left")))
  (sRet (eTup [(eC (.str "away")), (eVar 5), (eC (.int 0)), (eVar 7)]))
  sNil)
 (sSeq (sIf (eCmp .Eq (eVar 8) (eC (.str "came")))
  (sPar [(gNm 4), (gNm 9), (gNm 6), (gNm 7)] [(eC (.str "here")), (eVar 5), (eC (.int 0)), (eIx (eVar 3) (eC (.int 1)))])
  (sSeq (sAsg (gNm 9) (eIf (eCmp .Eq (eVar 8) (eC (.str "other"))) (eIx (eIx (eIx (eVar 0) (eC (.int 3))) (eVar 5)) (eIx (eVar 3) (eC (.int 1)))) (eIf (eCmp .Is (eIx (eIx (eIx (eVar 0) (eC (.int 0))) (eVar 5)) (eIx (eVar 3) (eC (.int 1)))) (eC .none)) (eC .none) (eIx (eIx (eIx (eIx (eVar 0) (eC (.int 0))) (eVar 5)) (eIx (eVar 3) (eC (.int 1)))) (eC (.int 0))))))
  (sSeq (sIf (eCmp .Is (eVar 9) (eC .none))
   (sRet (eVar 2))
   sNil)
  (sSeq (sAsg (gNm 6) (eBin .Add (eVar 6) (eIf (eOr (eCmp .Eq (eVar 8) (eC (.str "did"))) (eCmp .Eq (eVar 4) (eC (.str "away")))) (eC (.int 1)) (eC (.int 0)))))
  (sAsg (gNm 6) (eIf (eCmp .Eq (eVar 4) (eC (.str "here"))) (eB2 "min" (eVar 6) (eVar 1)) (eVar 6)))))))
 (sRet (eIf (eAnd (eCmp .NotEq (eVar 4) (eC (.str "away"))) (eIx (eIx (eVar 0) (eC (.int 5))) (eVar 9))) (eTup [(eC (.str "done")), (eVar 9), (eC (.int 0)), (eVar 7)]) (eTup [(eVar 4), (eVar 9), (eVar 6), (eVar 7)])))))))))
def M_law_stands (call : Call) : StF :=
 (sSeq (sAsg (gNm 3) (eLst [(eIf (eIx (eIx (eVar 0) (eC (.int 5))) (eC (.int 0))) (eTup [(eC (.str "done")), (eC (.int 0)), (eC (.int 0)), (eC .none)]) (eTup [(eC (.str "here")), (eC (.int 0)), (eVar 1), (eC .none)]))]))
 (sSeq (sFor (gNm 4) (itSeq (eVar 2))
  (sExpr (eAppend (eVar 3) (eCall call "_law_stand" [false, false, false, false] [(eVar 0), (eVar 1), (eIx (eVar 3) (eNeg (eC (.int 1)))), (eVar 4)]))))
 (sRet (eVar 3))))
def M_law_wrongs (call : Call) : StF :=
 (sSeq (sAsg (gTp [(gNm 6), (gNm 7), (gNm 8), (gNm 9)]) (eVar 4))
 (sSeq (sAsg (gNm 10) (eIx (eVar 5) (eC (.int 0))))
 (sSeq (sIf (eCmp .Eq (eVar 6) (eC (.str "done")))
  (sRet (eLst [(eC (.str "over"))]))
  sNil)
 (sSeq (sIf (eOr (eAnd (eCmp .In (eVar 10) (eTup [(eC (.str "did")), (eC (.str "left"))])) (eCmp .Eq (eVar 6) (eC (.str "away")))) (eOr (eAnd (eCmp .Eq (eVar 10) (eC (.str "call"))) (eCmp .NotEq (eVar 6) (eC (.str "here")))) (eAnd (eCmp .Eq (eVar 10) (eC (.str "came"))) (eCmp .NotEq (eVar 6) (eC (.str "away"))))))
  (sRet (eLst [(eC (.str "out"))]))
  sNil)
 (sSeq (sIf (eCmp .Eq (eVar 10) (eC (.str "call")))
  (sRet (eIf (eCmp .Lt (eVar 8) (eVar 2)) (eLst [(eC (.str "early"))]) (eLst [])))
  sNil)
 (sSeq (sIf (eCmp .Eq (eVar 10) (eC (.str "left")))
  (sRet (eIf (eCall call "_law_leave" [false, false, false] [(eVar 0), (eVar 7), (eVar 3)]) (eLst []) (eLst [(eC (.str "left"))])))
  sNil)
 (sSeq (sIf (eCmp .Eq (eVar 10) (eC (.str "came")))
  (sRet (eLst []))
  sNil)
 (sSeq (sIf (eCmp .Is (eIf (eCmp .Eq (eVar 10) (eC (.str "other"))) (eIx (eIx (eIx (eVar 0) (eC (.int 3))) (eVar 7)) (eIx (eVar 5) (eC (.int 1)))) (eIx (eIx (eIx (eVar 0) (eC (.int 0))) (eVar 7)) (eIx (eVar 5) (eC (.int 1))))) (eC .none))
  (sRet (eLst [(eC (.str "cant"))]))
  sNil)
 (sSeq (sIf (eCmp .Eq (eVar 10) (eC (.str "other")))
  (sRet (eIf (eCmp .NotEq (eVar 6) (eC (.str "away"))) (eLst [(eC (.str "there"))]) (eIf (eAnd (eCmp .IsNot (eVar 3) (eC .none)) (eCmp .Gt (eBin .Add (eVar 8) (eC (.int 1))) (eVar 3))) (eLst [(eC (.str "many"))]) (eLst []))))
  sNil)
 (sSeq (sAsg (gNm 11) (eIf (eOr (eCmp .Is (eVar 9) (eC .none)) (eOr (eCmp .Is (eIx (eIx (eVar 0) (eC (.int 2))) (eIx (eVar 5) (eC (.int 1)))) (eC .none)) (eCmp .Eq (eIx (eIx (eVar 0) (eC (.int 2))) (eIx (eVar 5) (eC (.int 1)))) (eVar 9)))) (eLst []) (eLst [(eC (.str "hands"))])))
 (sSeq (sIf (eCmp .Eq (eVar 6) (eC (.str "called")))
  (sAsg (gNm 11) (eBin .Add (eBin .Add (eVar 11) (eIf (eIx (eIx (eVar 0) (eC (.int 1))) (eIx (eVar 5) (eC (.int 1)))) (eLst []) (eLst [(eC (.str "slow"))]))) (eIf (eCmp .Gt (eBin .Add (eVar 8) (eC (.int 1))) (eVar 1)) (eLst [(eC (.str "late"))]) (eLst []))))
  sNil)
 (sRet (eVar 11)))))))))))))
def M_law_any_row (call : Call) : StF :=
 (sSeq (sAsg (gNm 2) (eCall call "_law_take" [true, false] [(eVar 0), (eC (.int 9))]))
 (sSeq (sIf (eCmp .Lt (eVar 2) (eC (.int 4)))
  (sRet (eTup [(eC (.str "did")), (eCall call "_law_take" [true, false] [(eVar 0), (eB1 "len" (eIx (eVar 1) (eC (.int 1))))])]))
  sNil)
 (sSeq (sIf (eCmp .Lt (eVar 2) (eC (.int 6)))
  (sRet (eTup [(eC (.str "other")), (eCall call "_law_take" [true, false] [(eVar 0), (eB1 "len" (eIx (eIx (eVar 1) (eC (.int 3))) (eC (.int 0))))])]))
  sNil)
 (sRet (eIf (eCmp .Eq (eVar 2) (eC (.int 6))) (eTup [(eC (.str "call"))]) (eIf (eCmp .Eq (eVar 2) (eC (.int 7))) (eTup [(eC (.str "left"))]) (eTup [(eC (.str "came")), (eCall call "_law_take" [true, false] [(eVar 0), (eIx (eVar 1) (eC (.int 6)))])])))))))
def M_law_next_row (call : Call) : StF :=
 (sSeq (sAsg (gTp [(gNm 6), (gNm 7), (gNm 8), (gNm 9)]) (eVar 5))
 (sSeq (sAsg (gNm 10) (eBin .Add (eBin .Add (eBin .Add (eLc [11] (gNm 11) (itRange1 (eB1 "len" (eIx (eVar 1) (eC (.int 1))))) [] (eTup [(eC (.str "did")), (eVar 11)])) (eLc [11] (gNm 11) (itRange1 (eB1 "len" (eIx (eIx (eVar 1) (eC (.int 3))) (eC (.int 0))))) [] (eTup [(eC (.str "other")), (eVar 11)]))) (eLst [(eTup [(eC (.str "call"))]), (eTup [(eC (.str "left"))])])) (eLc [12] (gNm 12) (itRange1 (eIx (eVar 1) (eC (.int 6)))) [] (eTup [(eC (.str "came")), (eVar 12)]))))
 (sSeq (sAsg (gNm 10) (eLc [13] (gNm 13) (itSeq (eVar 10)) [(eCmp .Eq (eCall call "_law_wrongs" [false, false, false, false, false, false] [(eVar 1), (eVar 2), (eVar 3), (eVar 4), (eVar 5), (eVar 13)]) (eLst []))] (eVar 13)))
 (sRet (eIf (eCmp .NotEq (eVar 10) (eLst [])) (eCall call "_law_pick" [true, false] [(eVar 0), (eVar 10)]) (eC .none))))))
def M_law_any_log (call : Call) : StF :=
 (sSeq (sPar [(gNm 6), (gNm 7)] [(eTup []), (eCmp .Gt (eCall call "_law_take" [true, false] [(eVar 0), (eC (.int 3))]) (eC (.int 0)))])
 (sSeq (sFor (gNm 8) (itRange1 (eVar 5))
  (sSeq (sAsg (gNm 9) (eCall call "_law_next_row" [true, false, false, false, false, false] [(eVar 0), (eVar 1), (eVar 2), (eVar 3), (eVar 4), (eIx (eCall call "_law_stands" [false, false, false] [(eVar 1), (eVar 3), (eVar 6)]) (eNeg (eC (.int 1))))]))
  (sSeq (sAsg (gNm 9) (eIf (eOr (eCmp .Is (eVar 9) (eC .none)) (eAnd (eNot (eVar 7)) (eCmp .Eq (eCall call "_law_take" [true, false] [(eVar 0), (eC (.int 3))]) (eC (.int 0))))) (eCall call "_law_any_row" [true, false] [(eVar 0), (eVar 1)]) (eVar 9)))
  (sAsg (gNm 6) (eBin .Add (eVar 6) (eTup [(eVar 9)]))))))
 (sRet (eVar 6))))
structure Draws (c : Nat → Call) : Prop where
  r_first_standing : ∀ (k : Nat) (a0 a1 : D), c (k + 1) "first_standing" [a0, a1] = runM [false, false] (M_first_standing (c k)) [.fz a0, .fz a1]
  r_came_to : ∀ (k : Nat) (a0 a1 a2 a3 a4 : D), c (k + 1) "came_to" [a0, a1, a2, a3, a4] = runM [false, false, false, false, false] (M_came_to (c k)) [.fz a0, .fz a1, .fz a2, .fz a3, .fz a4]
  r_did : ∀ (k : Nat) (a0 a1 a2 a3 : D), c (k + 1) "did" [a0, a1, a2, a3] = runM [false, false, false, false] (M_did (c k)) [.fz a0, .fz a1, .fz a2, .fz a3, .un, .un, .un, .un, .un]
  r_other_did : ∀ (k : Nat) (a0 a1 a2 : D), c (k + 1) "other_did" [a0, a1, a2] = runM [false, false, false] (M_other_did (c k)) [.fz a0, .fz a1, .fz a2, .un, .un, .un, .un, .un]
  r_behind_row : ∀ (k : Nat) (a0 a1 a2 a3 : D), c (k + 1) "behind_row" [a0, a1, a2, a3] = runM [false, false, false, false] (M_behind_row (c k)) [.fz a0, .fz a1, .fz a2, .fz a3, .un, .un, .un, .un]
  r_standings : ∀ (k : Nat) (a0 a1 a2 : D), c (k + 1) "standings" [a0, a1, a2] = runM [false, false, false] (M_standings (c k)) [.fz a0, .fz a1, .fz a2, .un, .un]
  r_law_box : ∀ (k : Nat) (a0 a1 : D), c (k + 1) "_law_box" [a0, a1] = runM [false, false] (M_law_box (c k)) [.fz a0, .fz a1, .un, .un]
  r_law_take : ∀ (k : Nat) (a0 a1 : D), c (k + 1) "_law_take" [a0, a1] = runM [true, false] (M_law_take (c k)) [.rf a0, .fz a1, .un, .un]
  r_law_pick : ∀ (k : Nat) (a0 a1 : D), c (k + 1) "_law_pick" [a0, a1] = runM [true, false] (M_law_pick (c k)) [.rf a0, .fz a1]
  r_law_same : ∀ (k : Nat) (a0 a1 : D), c (k + 1) "_law_same" [a0, a1] = runM [false, false] (M_law_same (c k)) [.fz a0, .fz a1, .un, .un]
  r_law_behind : ∀ (k : Nat) (a0 a1 a2 : D), c (k + 1) "_law_behind" [a0, a1, a2] = runM [false, false, false] (M_law_behind (c k)) [.fz a0, .fz a1, .fz a2, .un, .un, .un, .un, .un, .un, .un]
  r_law_leave : ∀ (k : Nat) (a0 a1 a2 : D), c (k + 1) "_law_leave" [a0, a1, a2] = runM [false, false, false] (M_law_leave (c k)) [.fz a0, .fz a1, .fz a2, .un]
  r_law_quick : ∀ (k : Nat) (a0 a1 a2 : D), c (k + 1) "_law_quick" [a0, a1, a2] = runM [false, false, false] (M_law_quick (c k)) [.fz a0, .fz a1, .fz a2, .un, .un, .un, .un, .un, .un, .un, .un, .un, .un]
  r_law_answers : ∀ (k : Nat) (a0 a1 a2 a3 : D), c (k + 1) "_law_answers" [a0, a1, a2, a3] = runM [false, false, false, false] (M_law_answers (c k)) [.fz a0, .fz a1, .fz a2, .fz a3, .un, .un, .un, .un, .un, .un]
  r_law_moves : ∀ (k : Nat) (a0 a1 a2 a3 : D), c (k + 1) "_law_moves" [a0, a1, a2, a3] = runM [false, false, false, false] (M_law_moves (c k)) [.fz a0, .fz a1, .fz a2, .fz a3, .un, .un, .un, .un]
  r_law_places : ∀ (k : Nat) (a0 a1 : D), c (k + 1) "_law_places" [a0, a1] = runM [false, false] (M_law_places (c k)) [.fz a0, .fz a1, .un, .un, .un]
  r_law_rules_of : ∀ (k : Nat) (a0 a1 a2 a3 : D), c (k + 1) "_law_rules_of" [a0, a1, a2, a3] = runM [false, false, false, false] (M_law_rules_of (c k)) [.fz a0, .fz a1, .fz a2, .fz a3, .un, .un, .un]
  r_law_worth_rows : ∀ (k : Nat) (a0 a1 a2 a3 a4 a5 : D), c (k + 1) "_law_worth_rows" [a0, a1, a2, a3, a4, a5] = runM [false, false, false, false, false, false] (M_law_worth_rows (c k)) [.fz a0, .fz a1, .fz a2, .fz a3, .fz a4, .fz a5, .un, .un, .un, .un, .un, .un, .un, .un, .un, .un, .un, .un, .un, .un]
  r_law_least : ∀ (k : Nat) (a0 a1 a2 a3 a4 a5 a6 : D), c (k + 1) "_law_least" [a0, a1, a2, a3, a4, a5, a6] = runM [false, false, false, false, false, false, false] (M_law_least (c k)) [.fz a0, .fz a1, .fz a2, .fz a3, .fz a4, .fz a5, .fz a6, .un, .un, .un, .un, .un, .un, .un, .un, .un, .un, .un, .un, .un, .un]
  r_law_pay : ∀ (k : Nat), c (k + 1) "_law_pay" [] = runM [] (M_law_pay (c k)) [.un]
  r_law_aside : ∀ (k : Nat), c (k + 1) "_law_aside" [] = runM [] (M_law_aside (c k)) [.un, .un]
  r_law_undone : ∀ (k : Nat), c (k + 1) "_law_undone" [] = runM [] (M_law_undone (c k)) [.un]
  r_law_milk : ∀ (k : Nat), c (k + 1) "_law_milk" [] = runM [] (M_law_milk (c k)) [.un]
  r_law_any_world : ∀ (k : Nat) (a0 a1 : D), c (k + 1) "_law_any_world" [a0, a1] = runM [true, false] (M_law_any_world (c k)) [.rf a0, .fz a1, .un, .un, .un, .un, .un, .un, .un, .un, .un, .un, .un, .un, .un, .un]
  r_law_case : ∀ (k : Nat) (a0 a1 : D), c (k + 1) "_law_case" [a0, a1] = runM [true, false] (M_law_case (c k)) [.rf a0, .fz a1, .un, .un, .un, .un, .un, .un]
  r_law_stand : ∀ (k : Nat) (a0 a1 a2 a3 : D), c (k + 1) "_law_stand" [a0, a1, a2, a3] = runM [false, false, false, false] (M_law_stand (c k)) [.fz a0, .fz a1, .fz a2, .fz a3, .un, .un, .un, .un, .un, .un]
  r_law_stands : ∀ (k : Nat) (a0 a1 a2 : D), c (k + 1) "_law_stands" [a0, a1, a2] = runM [false, false, false] (M_law_stands (c k)) [.fz a0, .fz a1, .fz a2, .un, .un]
  r_law_wrongs : ∀ (k : Nat) (a0 a1 a2 a3 a4 a5 : D), c (k + 1) "_law_wrongs" [a0, a1, a2, a3, a4, a5] = runM [false, false, false, false, false, false] (M_law_wrongs (c k)) [.fz a0, .fz a1, .fz a2, .fz a3, .fz a4, .fz a5, .un, .un, .un, .un, .un, .un]
  r_law_any_row : ∀ (k : Nat) (a0 a1 : D), c (k + 1) "_law_any_row" [a0, a1] = runM [true, false] (M_law_any_row (c k)) [.rf a0, .fz a1, .un]
  r_law_next_row : ∀ (k : Nat) (a0 a1 a2 a3 a4 a5 : D), c (k + 1) "_law_next_row" [a0, a1, a2, a3, a4, a5] = runM [true, false, false, false, false, false] (M_law_next_row (c k)) [.rf a0, .fz a1, .fz a2, .fz a3, .fz a4, .fz a5, .un, .un, .un, .un, .un, .un, .un, .un]
  r_law_any_log : ∀ (k : Nat) (a0 a1 a2 a3 a4 a5 : D), c (k + 1) "_law_any_log" [a0, a1, a2, a3, a4, a5] = runM [true, false, false, false, false, false] (M_law_any_log (c k)) [.rf a0, .fz a1, .fz a2, .fz a3, .fz a4, .fz a5, .un, .un, .un, .un]
end Mp.P

/-! Mw1: the draws of numbers. -/
namespace Mp.P
open PySem
variable {c : Nat → Call}
def boxD (a b : Int) : D := .list [.int a, .int b]
def okTake (m : Int) (p : Bool × D × List D) : Prop := ∃ (r : Nat) (a b : Int), (r : Int) < m ∧ p = (false, .int r, [boxD a b])
theorem okTake_i {m r a b : Int} (h0 : 0 ≤ r) (h : r < m) : okTake m (false, .int r, [boxD a b]) := by
  obtain ⟨n, rfl⟩ := Int.eq_ofNat_of_zero_le h0
  exact ⟨n, a, b, h, rfl⟩
theorem s_take (H : Draws c) (k : Nat) (a b m : Int) (h0 : 0 < m) (h1 : m < 1073741824) : W (c (k + 1) "_law_take" [boxD a b, .int m]) (okTake m) := by
  rw [H.r_law_take]
  unfold boxD M_law_take
  simp -implicitDefEqProofs
  refine Br.mkd (fun h => ?_) (fun h => ?_)
  · simp -implicitDefEqProofs [h0, h1]
    exact okTake_i (Int.emod_nonneg _ (by omega)) (Int.emod_lt_of_pos _ h0)
  · simp -implicitDefEqProofs [h0, h1]
    exact okTake_i (Int.emod_nonneg _ (by omega)) (Int.emod_lt_of_pos _ h0)
def okPick (xs : List D) (p : Bool × D × List D) : Prop := ∃ (x : D) (a b : Int), x ∈ xs ∧ p = (false, x, [boxD a b])
theorem s_pick (H : Draws c) (k : Nat) (a b : Int) (xs : List D) (h0 : 0 < xs.length) (h1 : xs.length < 1073741824) : W (c (k + 2) "_law_pick" [boxD a b, .list xs]) (okPick xs) := by
  rw [H.r_law_pick]
  unfold M_law_pick
  simp -implicitDefEqProofs
  refine (s_take H k a b xs.length (by omega) (by omega)).mono ?_
  rintro _ ⟨r, a', b', hr, rfl⟩
  have hr' : r < xs.length := by omega
  simp -implicitDefEqProofs [List.getElem?_eq_getElem hr']
  exact ⟨_, _, _, List.getElem_mem hr', rfl⟩
@[scoped simp] theorem atI_mod (xs : List D) (i n : Nat) : L2.atI xs ((i : Int) % (n : Int)) = xs[i % n]? := by rw [← atI_n]; rfl
theorem binD_pow (i j : Int) (h : 0 ≤ j) (h1 : j ≤ 1000) (h2 : i.natAbs < 2 ^ 64) : binD .Pow (.int i) (.int j) = some (.val (.int (i ^ j.toNat))) := by
  show (if (decide (0 ≤ j) && decide (j ≤ 1000) && decide (i.natAbs < 2 ^ 64)) = true then _ else none) = _
  rw [if_pos (by rw [decide_eq_true h, decide_eq_true h1, decide_eq_true h2]; rfl)]
theorem binD_pow18 : ∃ g : Int, binD .Pow (.int 10) (.int 18) = some (.val (.int g)) := ⟨_, binD_pow 10 18 (by decide) (by decide) (by decide)⟩
def okBox (p : Bool × D × List D) : Prop := ∃ a b : Int, p = (true, boxD a b, [])
theorem okBox_i (a b : Int) : okBox (true, .list [.int a, .int b], []) := ⟨a, b, rfl⟩
theorem s_box (H : Draws c) (k : Nat) (ns : List Int) (i : Nat) : W (c (k + 1) "_law_box" [.list (ns.map .int), .int i]) okBox := by
  obtain ⟨g, hg⟩ := binD_pow18
  rw [H.r_law_box]
  unfold M_law_box
  simp -implicitDefEqProofs
  generalize (43037 : Int) * (i : Int) + 6011 = v
  refine Br.mkd (fun h => ?_) (fun h => ?_)
  · have h' : i < ns.length := by omega
    simp -implicitDefEqProofs [hg, List.getElem?_eq_getElem h']
    refine Br.mkd (fun h2 => ?_) (fun h2 => ?_)
    · simp -implicitDefEqProofs
      exact okBox_i _ _
    · simp -implicitDefEqProofs
      exact okBox_i _ _
  · simp -implicitDefEqProofs
    refine Br.mkd (fun h2 => ?_) (fun h2 => ?_)
    · have h' : i % ns.length < ns.length := Nat.mod_lt _ h2
      simp -implicitDefEqProofs [hg, List.getElem?_eq_getElem h', h2]
      refine Br.mkd (fun h2 => ?_) (fun h2 => ?_)
      · simp -implicitDefEqProofs
        exact okBox_i _ _
      · simp -implicitDefEqProofs
        exact okBox_i _ _
    · simp -implicitDefEqProofs [hg]
      refine Br.mkd (fun h2 => ?_) (fun h2 => ?_)
      · simp -implicitDefEqProofs
        exact okBox_i _ _
      · simp -implicitDefEqProofs
        exact okBox_i _ _
end Mp.P

/-! Mw2: worlds; shapes of values; lists of numbers. -/
namespace Mp.P
open PySem
/-! ### shapes -/
inductive Fl : Nat → D → Prop
  | non {n} : Fl n .none
  | bool {n} (b : Bool) : Fl n (.bool b)
  | int {n} (i : Int) : Fl n (.int i)
  | str {n} (s : Str) (h : PyData.strOk s = true) : Fl n (.str s)
  | tup {n} (xs : List D) (h : ∀ x ∈ xs, Fl n x) : Fl (n + 1) (.tuple xs)
  | lst {n} (xs : List D) (h : ∀ x ∈ xs, Fl n x) : Fl (n + 1) (.list xs)
theorem canLayAll_of (xs : List D) (h : ∀ x ∈ xs, x.canLay0 = true) : PyData.canLayAll0 xs = true := by
  induction xs with
  | nil => rfl
  | cons x xs ih =>
    show (x.canLay0 && PyData.canLayAll0 xs) = true
    rw [h x List.mem_cons_self, ih fun y hy => h y (List.mem_cons_of_mem _ hy)]; rfl
theorem depthAll_of (n : Nat) (xs : List D) (h : ∀ x ∈ xs, x.depth ≤ n) : PyData.depthAll xs ≤ n := by
  induction xs with
  | nil => exact Nat.zero_le _
  | cons x xs ih =>
    show max x.depth (PyData.depthAll xs) ≤ n
    exact Nat.max_le.mpr ⟨h x List.mem_cons_self, ih fun y hy => h y (List.mem_cons_of_mem _ hy)⟩
theorem Fl.ok {n : Nat} {d : D} (h : Fl n d) : d.canLay0 = true ∧ d.depth ≤ n := by
  induction h with
  | non => exact ⟨rfl, Nat.zero_le _⟩
  | bool b => exact ⟨rfl, Nat.zero_le _⟩
  | int i => exact ⟨rfl, Nat.zero_le _⟩
  | str s h => exact ⟨by simp only [PyData.canLay0, h], Nat.zero_le _⟩
  | tup xs h ih => exact ⟨by simp only [PyData.canLay0]; exact canLayAll_of xs fun x hx => (ih x hx).1, by simp only [PyData.depth]; exact Nat.succ_le_succ (depthAll_of _ xs fun x hx => (ih x hx).2)⟩
  | lst xs h ih => exact ⟨by simp only [PyData.canLay0]; exact canLayAll_of xs fun x hx => (ih x hx).1, by simp only [PyData.depth]; exact Nat.succ_le_succ (depthAll_of _ xs fun x hx => (ih x hx).2)⟩
theorem Fl.shaped {n : Nat} {d : D} (h : Fl n d) (hn : n ≤ 64) : Mp.shaped d = true := by
  have := h.ok
  show (d.canLay0 && decide (d.depth ≤ 64)) = true
  rw [this.1, decide_eq_true (Nat.le_trans this.2 hn)]; rfl
theorem Fl.mono {n m : Nat} {d : D} (h : Fl n d) (hn : n ≤ m) : Fl m d := by
  induction h generalizing m with
  | non => exact .non
  | bool b => exact .bool b
  | int i => exact .int i
  | str s h => exact .str s h
  | tup xs h ih =>
    obtain ⟨k, rfl⟩ : ∃ k, m = k + 1 := ⟨m - 1, by omega⟩
    exact .tup xs fun x hx => ih x hx (by omega)
  | lst xs h ih =>
    obtain ⟨k, rfl⟩ : ∃ k, m = k + 1 := ⟨m - 1, by omega⟩
    exact .lst xs fun x hx => ih x hx (by omega)
theorem eqX_list (xs : List D) (b : D) : eqX (.list xs) b = eqD (.list xs) b := by cases b <;> rfl
theorem eqX_tup (xs : List D) (b : D) : eqX (.tuple xs) b = eqD (.tuple xs) b := by cases b <;> rfl
theorem cmp_eqL0 (xs : List D) (h : Mp.shaped (.list xs) = true) : cmpD .Eq (.list xs) (.list []) = some xs.isEmpty := by
  show eqX (.list xs) (.list []) = _
  rw [eqX_list]
  unfold eqD
  rw [h, show Mp.shaped (.list []) = true from rfl]
  cases xs with
  | nil => simp [PyData.eqv, PyData.eqvAll]
  | cons x xs => simp [PyData.eqv, PyData.eqvAll]
theorem cmp_neL0 (xs : List D) (h : Mp.shaped (.list xs) = true) : cmpD .NotEq (.list xs) (.list []) = some (!xs.isEmpty) := by
  rw [cmp_ne, cmp_eqL0 xs h]; rfl

/-! ### lists of numbers -/
def nD (b : Nat) : D := .int b
def nsD (fs : List Nat) : List D := fs.map nD
@[scoped simp] theorem nsD_len (fs : List Nat) : (nsD fs).length = fs.length := List.length_map _
theorem nsD_at (fs : List Nat) (i : Nat) : (nsD fs)[i]? = fs[i]?.map nD := List.getElem?_map
theorem nsD_app (fs gs : List Nat) : nsD fs ++ nsD gs = nsD (fs ++ gs) := List.map_append.symm
theorem mem_nsD {x : D} {fs : List Nat} (h : x ∈ nsD fs) : ∃ b, b ∈ fs ∧ x = nD b := by
  obtain ⟨b, hb, rfl⟩ := List.mem_map.mp h
  exact ⟨b, hb, rfl⟩
theorem fl_nD (n b : Nat) : Fl n (nD b) := .int _
theorem fl_nsD (n : Nat) (fs : List Nat) : Fl (n + 1) (.list (nsD fs)) := .lst _ fun x hx => by
  obtain ⟨b, _, rfl⟩ := mem_nsD hx
  exact fl_nD n b
theorem fl_nsT (n : Nat) (fs : List Nat) : Fl (n + 1) (.tuple (nsD fs)) := .tup _ fun x hx => by
  obtain ⟨b, _, rfl⟩ := mem_nsD hx
  exact fl_nD n b
theorem eqv_nD (a b : Nat) : PyData.eqv (nD a) (nD b) = decide (a = b) := by
  show PyData.eqv (.int a) (.int b) = _
  simp only [PyData.eqv]
  by_cases h : a = b
  · subst h; simp
  · rw [decide_eq_false h]
    simp only [beq_eq_false_iff_ne]
    omega
theorem any_nD (fs : List Nat) (b : Nat) : ((nsD fs).any fun z => PyData.eqv z (nD b)) = decide (b ∈ fs) := by
  induction fs with
  | nil => rfl
  | cons f fs ih =>
    show (PyData.eqv (nD f) (nD b) || (nsD fs).any _) = _
    rw [ih, eqv_nD, ← Bool.decide_or]
    exact decide_eq_decide.mpr ⟨fun h => h.elim (fun e => e ▸ List.mem_cons_self) (fun e => List.mem_cons_of_mem _ e), fun h => (List.mem_cons.mp h).elim (fun e => .inl e.symm) .inr⟩
theorem cmp_inN (fs : List Nat) (b : Nat) : cmpD .In (nD b) (.list (nsD fs)) = some (decide (b ∈ fs)) := by
  show inD (nD b) (.list (nsD fs)) = _
  show (if (Mp.shaped (nD b) && Mp.shaped (.list (nsD fs))) = true then some ((nsD fs).any fun z => PyData.eqv z (nD b)) else none) = _
  rw [(fl_nD 1 b).shaped (by omega), (fl_nsD 0 fs).shaped (by omega), if_pos (show (true && true) = true from rfl), any_nD]
theorem cmp_ninN (fs : List Nat) (b : Nat) : cmpD .NotIn (nD b) (.list (nsD fs)) = some (!decide (b ∈ fs)) := by
  show (inD (nD b) (.list (nsD fs))).map _ = _
  have := cmp_inN fs b
  change inD (nD b) (.list (nsD fs)) = _ at this
  rw [this]; rfl
theorem sortI_mem (ns : List Int) (x : Int) : x ∈ sortI ns ↔ x ∈ ns := by
  have hins : ∀ (y : Int) (ms : List Int), x ∈ insI y ms ↔ x = y ∨ x ∈ ms := by
    intro y ms
    induction ms with
    | nil => simp [insI]
    | cons m ms ih =>
      unfold insI
      by_cases h : y ≤ m
      · rw [if_pos h]; simp
      · rw [if_neg h]; simp [ih]; constructor
        · rintro (h | h | h) <;> simp [h]
        · rintro (h | h | h) <;> simp [h]
  induction ns with
  | nil => rfl
  | cons n ns ih => unfold sortI; rw [hins]; simp [ih]
theorem sortI_len (ns : List Int) : (sortI ns).length = ns.length := by
  have hins : ∀ (y : Int) (ms : List Int), (insI y ms).length = ms.length + 1 := by
    intro y ms
    induction ms with
    | nil => rfl
    | cons m ms ih =>
      unfold insI
      by_cases h : y ≤ m
      · rw [if_pos h]; rfl
      · rw [if_neg h]; simp [ih]
  induction ns with
  | nil => rfl
  | cons n ns ih => unfold sortI; rw [hins, ih]; rfl
def sortN (fs : List Nat) : List Nat := (sortI (fs.map Int.ofNat)).map Int.toNat
theorem bSorted_n (fs : List Nat) : bSorted (.list (nsD fs)) = some (.new (.list (nsD (sortN fs)))) := by
  have e : nsD fs = (fs.map Int.ofNat).map .int := by unfold nsD; rw [List.map_map]; rfl
  rw [e, bSorted_l]
  have : (sortI (fs.map Int.ofNat)).map PyData.int = nsD (sortN fs) := by
    unfold nsD sortN
    rw [List.map_map]
    refine List.map_congr_left fun x hx => ?_
    rw [sortI_mem] at hx
    obtain ⟨b, _, rfl⟩ := List.mem_map.mp hx
    rfl
  rw [this]
theorem sortN_mem (fs : List Nat) (x : Nat) : x ∈ sortN fs ↔ x ∈ fs := by
  unfold sortN
  constructor
  · intro h
    obtain ⟨y, hy, rfl⟩ := List.mem_map.mp h
    rw [sortI_mem] at hy
    obtain ⟨b, hb, rfl⟩ := List.mem_map.mp hy
    exact hb
  · intro h
    exact List.mem_map.mpr ⟨(x : Int), (sortI_mem _ _).mpr (List.mem_map.mpr ⟨x, h, rfl⟩), rfl⟩
theorem sortN_len (fs : List Nat) : (sortN fs).length = fs.length := by unfold sortN; rw [List.length_map, sortI_len, List.length_map]
/-- a list without a number twice, of numbers below n, is no longer than n -/
theorem nodup_le {n : Nat} {fs : List Nat} (hd : fs.Nodup) (h : ∀ x ∈ fs, x < n) : fs.length ≤ n := by
  induction n generalizing fs with
  | zero =>
    cases fs with
    | nil => exact Nat.le_refl _
    | cons f fs => exact absurd (h f List.mem_cons_self) (Nat.not_lt_zero _)
  | succ n ih =>
    have h1 := ih (hd.erase n) fun x hx => by
      have := h x (List.mem_of_mem_erase hx)
      have hne : x ≠ n := (List.Nodup.mem_erase_iff hd).mp hx |>.1
      omega
    by_cases hm : n ∈ fs
    · rw [List.length_erase_of_mem hm] at h1
      omega
    · rw [List.erase_of_not_mem hm] at h1
      omega

/-! ### worlds -/
structure Wd where
  own : List (List (Option (Nat × Int)))
  quick : List Bool
  whose : List Int
  others : List (List (Option Nat))
  never : List Bool
  done : List Bool
  people : Int
def stepD : Option (Nat × Int) → D
  | none => .none
  | some s => .tuple [nD s.1, .int s.2]
def thrD : Option Nat → D
  | none => .none
  | some b => nD b
def ownD (r : List (Option (Nat × Int))) : D := .tuple (r.map stepD)
def othD (r : List (Option Nat)) : D := .tuple (r.map thrD)
def Wd.d (w : Wd) : D := .tuple [.tuple (w.own.map ownD), .tuple (w.quick.map .bool), .tuple (w.whose.map .int), .tuple (w.others.map othD), .tuple (w.never.map .bool), .tuple (w.done.map .bool), .int w.people]
structure Wd.Ok (w : Wd) (n m t : Nat) : Prop where
  own : w.own.length = n
  ownr : ∀ r ∈ w.own, r.length = m
  owns : ∀ r ∈ w.own, ∀ s, some s ∈ r → s.1 < n ∧ 0 ≤ s.2 ∧ s.2 ≤ 9
  quick : w.quick.length = m
  whose : w.whose.length = m
  others : w.others.length = n
  othr : ∀ r ∈ w.others, r.length = t
  oths : ∀ r ∈ w.others, ∀ b, some b ∈ r → b < n
  never : w.never.length = n
  done : w.done.length = n
  n0 : 0 < n
  n1 : n ≤ 6
  m0 : 0 < m
  m1 : m ≤ 4
  t0 : 0 < t
  t1 : t ≤ 2
  p0 : 1 ≤ w.people
  p1 : w.people ≤ 2
@[scoped simp] theorem isNone_thr (o : Option Nat) : isNoneD (thrD o) = o.isNone := by cases o <;> rfl
@[scoped simp] theorem isNone_step (o : Option (Nat × Int)) : isNoneD (stepD o) = o.isNone := by cases o <;> rfl
theorem Wd.Ok.ownAt {w : Wd} {n m t : Nat} (h : w.Ok n m t) {b : Nat} (hb : b < n) : ∃ r, w.own[b]? = some r ∧ r ∈ w.own ∧ r.length = m := by
  have hb' : b < w.own.length := by rw [h.own]; exact hb
  exact ⟨w.own[b], List.getElem?_eq_getElem hb', List.getElem_mem hb', h.ownr _ (List.getElem_mem hb')⟩
theorem Wd.Ok.othAt {w : Wd} {n m t : Nat} (h : w.Ok n m t) {b : Nat} (hb : b < n) : ∃ r, w.others[b]? = some r ∧ r ∈ w.others ∧ r.length = t := by
  have hb' : b < w.others.length := by rw [h.others]; exact hb
  exact ⟨w.others[b], List.getElem?_eq_getElem hb', List.getElem_mem hb', h.othr _ (List.getElem_mem hb')⟩
theorem boolAt {bs : List Bool} {b : Nat} (hb : b < bs.length) : ∃ x, bs[b]? = some x := ⟨bs[b], List.getElem?_eq_getElem hb⟩
theorem Wd.Ok.doneAt {w : Wd} {n m t : Nat} (h : w.Ok n m t) {b : Nat} (hb : b < n) : ∃ x, w.done[b]? = some x := boolAt (by rw [h.done]; exact hb)
theorem Wd.Ok.neverAt {w : Wd} {n m t : Nat} (h : w.Ok n m t) {b : Nat} (hb : b < n) : ∃ x, w.never[b]? = some x := boolAt (by rw [h.never]; exact hb)
theorem Wd.Ok.quickAt {w : Wd} {n m t : Nat} (h : w.Ok n m t) {b : Nat} (hb : b < m) : ∃ x, w.quick[b]? = some x := boolAt (by rw [h.quick]; exact hb)
def tmD : Option Int → D
  | none => .none
  | some t => .int t

@[scoped simp] theorem wd_own (w : Wd) : ixD w.d (.int 0) = some (.tuple (w.own.map ownD)) := rfl
@[scoped simp] theorem wd_quick (w : Wd) : ixD w.d (.int 1) = some (.tuple (w.quick.map .bool)) := rfl
@[scoped simp] theorem wd_whose (w : Wd) : ixD w.d (.int 2) = some (.tuple (w.whose.map .int)) := rfl
@[scoped simp] theorem wd_others (w : Wd) : ixD w.d (.int 3) = some (.tuple (w.others.map othD)) := rfl
@[scoped simp] theorem wd_never (w : Wd) : ixD w.d (.int 4) = some (.tuple (w.never.map .bool)) := rfl
@[scoped simp] theorem wd_done (w : Wd) : ixD w.d (.int 5) = some (.tuple (w.done.map .bool)) := rfl
@[scoped simp] theorem wd_people (w : Wd) : ixD w.d (.int 6) = some (.int w.people) := rfl
@[scoped simp] theorem ixD_tn (xs : List D) (b : Nat) : ixD (.tuple xs) (nD b) = xs[b]? := atI_n xs b
@[scoped simp] theorem ixD_ln (xs : List D) (b : Nat) : ixD (.list xs) (nD b) = xs[b]? := atI_n xs b
@[scoped simp] theorem ixD_own (r : List (Option (Nat × Int))) (b : Nat) : ixD (ownD r) (nD b) = r[b]?.map stepD := by
  unfold ownD; rw [ixD_tn, List.getElem?_map]
@[scoped simp] theorem ixD_oth (r : List (Option Nat)) (b : Nat) : ixD (othD r) (nD b) = r[b]?.map thrD := by
  unfold othD; rw [ixD_tn, List.getElem?_map]
@[scoped simp] theorem seqD_own (r : List (Option (Nat × Int))) : seqD (ownD r) = some (r.map stepD) := rfl
@[scoped simp] theorem seqD_oth (r : List (Option Nat)) : seqD (othD r) = some (r.map thrD) := rfl
@[scoped simp] theorem enumD_own (r : List (Option (Nat × Int))) : enumD (ownD r) = some (enumGo 0 (r.map stepD)) := rfl
@[scoped simp] theorem bLen_oth (r : List (Option Nat)) : bLen (othD r) = some (.val (.int r.length)) := by
  show some (Res.val (.int (r.map thrD).length)) = _
  rw [List.length_map]
@[scoped simp] theorem isNone_nD (b : Nat) : isNoneD (nD b) = false := rfl
@[scoped simp] theorem ix_step0 (s : Nat × Int) : ixD (stepD (some s)) (.int 0) = some (nD s.1) := rfl
@[scoped simp] theorem ix_step1 (s : Nat × Int) : ixD (stepD (some s)) (.int 1) = some (.int s.2) := rfl
@[scoped simp] theorem tm_none (t : Option Int) : isNoneD (tmD t) = t.isNone := by cases t <;> rfl
theorem decNat (a b : Nat) : decide ((a : Int) = (b : Int)) = decide (a = b) := decide_eq_decide.mpr ⟨fun h => by omega, fun h => by rw [h]⟩
@[scoped simp] theorem cmp_eqNN (a b : Nat) : cmpD .Eq (nD a) (nD b) = some (decide (a = b)) := by
  have := cmp_eqI (a : Int) (b : Int)
  rw [decNat] at this
  exact this
@[scoped simp] theorem cmp_eqNI (a : Nat) (b : Int) : cmpD .Eq (nD a) (.int b) = some (decide ((a : Int) = b)) := cmp_eqI _ _
@[scoped simp] theorem cmp_eqIN (a : Int) (b : Nat) : cmpD .Eq (.int a) (nD b) = some (decide (a = (b : Int))) := cmp_eqI _ _
/-! ### dicts of numbers -/
def dedup : List Nat → List Nat → List Nat
  | acc, [] => acc
  | acc, x :: xs => dedup (if x ∈ acc then acc else acc ++ [x]) xs
theorem dedup_mem (acc xs : List Nat) (x : Nat) : x ∈ dedup acc xs ↔ x ∈ acc ∨ x ∈ xs := by
  induction xs generalizing acc with
  | nil => simp [dedup]
  | cons y ys ih =>
    unfold dedup
    rw [ih]
    by_cases h : y ∈ acc
    · rw [if_pos h]; simp; constructor
      · rintro (h | h) <;> simp [h]
      · rintro (h | rfl | h) <;> simp [h, *]
    · rw [if_neg h]; simp [or_assoc]
theorem dedup_nodup (acc xs : List Nat) (h : acc.Nodup) : (dedup acc xs).Nodup := by
  induction xs generalizing acc with
  | nil => exact h
  | cons y ys ih =>
    unfold dedup
    refine ih _ ?_
    by_cases hy : y ∈ acc
    · rw [if_pos hy]; exact h
    · rw [if_neg hy]
      refine List.nodup_append.mpr ⟨h, by simp, fun a ha b hb => ?_⟩
      rw [List.mem_singleton.mp hb]
      exact fun e => hy (e ▸ ha)
def oneKv (n : Nat) : D × D := (nD n, .int 1)
def onePr (n : Nat) : D := .tuple [nD n, .int 1]
theorem pairs_one (ns : List Nat) : pairsD (ns.map onePr) = some (ns.map oneKv) := by
  induction ns with
  | nil => rfl
  | cons n ns ih => show (pairsD (ns.map onePr)).map _ = _; rw [ih]; rfl
theorem has_one (acc : List Nat) (x : Nat) : dHas (acc.map oneKv) (nD x) = decide (x ∈ acc) := by
  have := any_nD acc x
  unfold dHas nsD at *
  rw [← this, List.any_map, List.any_map]; rfl
theorem put_one (acc : List Nat) (x : Nat) : dPut (acc.map oneKv) (nD x) (.int 1) = (if x ∈ acc then acc else acc ++ [x]).map oneKv := by
  unfold dPut
  rw [has_one]
  by_cases h : x ∈ acc
  · rw [if_pos (decide_eq_true h), if_pos h, List.map_map]
    refine List.map_congr_left fun y _ => ?_
    show (if PyData.eqv (nD y) (nD x) = true then (nD y, PyData.int 1) else oneKv y) = oneKv y
    split <;> rfl
  · rw [if_neg (by rw [decide_eq_false h]; exact fun z => nomatch z), if_neg h, List.map_append]; rfl
theorem merge_one (acc ns : List Nat) : dMerge (acc.map oneKv) (ns.map oneKv) = (dedup acc ns).map oneKv := by
  induction ns generalizing acc with
  | nil => rfl
  | cons n ns ih =>
    show dMerge (dPut (acc.map oneKv) (nD n) (.int 1)) (ns.map oneKv) = _
    rw [put_one, ih]; rfl
theorem bDict_one (ns : List Nat) : bDict (.list (ns.map onePr)) = some (.new (.dict ((dedup [] ns).map oneKv))) := by
  show (pairsD (ns.map onePr)).bind _ = _
  rw [pairs_one]
  have hk : keysOk (ns.map oneKv) = true := by
    unfold keysOk
    rw [show ((ns.map oneKv).all fun p => scalK p.1) = true from by rw [List.all_map]; exact List.all_eq_true.mpr fun _ _ => rfl]; rfl
  show (if keysOk (ns.map oneKv) = true then _ else none) = _
  rw [if_pos hk]
  have := merge_one [] ns
  rw [← this]; rfl
theorem keys_one (ns : List Nat) : (ns.map oneKv).map (·.1) = nsD ns := by rw [List.map_map]; rfl
end Mp.P

/-! Mw3: what others can make of a board; whether it can be left. -/
namespace Mp.P
open PySem
variable {c : Nat → Call}
theorem flatMap_thr (r : List (Option Nat)) : (r.map thrD).filterMap (fun x => if isNoneD x then none else some x) = nsD (r.filterMap id) := by
  induction r with
  | nil => rfl
  | cons o r ih =>
    cases o with
    | none => simpa [isNoneD, thrD] using ih
    | some b =>
      show nD b :: (r.map thrD).filterMap _ = nD b :: nsD (r.filterMap id)
      rw [ih]
theorem filter_nsD (ks : List Nat) (q : Nat → Bool) (F : D → Option D) (h : ∀ x, F (nD x) = if q x = true then some (nD x) else none) : (nsD ks).filterMap F = nsD (ks.filter q) := by
  induction ks with
  | nil => rfl
  | cons x ks ih =>
    show (nD x :: nsD ks).filterMap F = _
    rw [List.filterMap_cons, h x, List.filter_cons, ih]
    cases q x <;> rfl
theorem map_nsD (ks : List Nat) (G : Nat → D) (F : D → Option D) (h : ∀ x, F (nD x) = some (G x)) : (nsD ks).filterMap F = ks.map G := by
  induction ks with
  | nil => rfl
  | cons x ks ih =>
    show (nD x :: nsD ks).filterMap F = _
    rw [List.filterMap_cons, h x, ih]; rfl
def okBehind (n : Nat) (p : Bool × D × List D) : Prop := ∃ gs : List Nat, p = (false, .tuple (nsD gs), []) ∧ (∀ g ∈ gs, g < n) ∧ gs.length ≤ n ∧ gs ≠ []
def envBeh (w : Wd) (b : Nat) (tm : Option Int) (found last : Slot) (turn : Int) (s6 s7 : Slot) : Env := [.fz w.d, .fz (nD b), .fz (tmD tm), found, last, .fz (.int turn), s6, s7, .un, .un]
def JBeh (w : Wd) (b : Nat) (tm : Option Int) (n : Nat) (m : Nat) (e : Env) : Prop := ∃ (found last : List Nat) (turn : Int) (s6 s7 : Slot), e = envBeh w b tm (.ow (.list (nsD found))) (.ow (.list (nsD last))) turn s6 s7 ∧
    found.Nodup ∧ (∀ x ∈ found, x < n) ∧ (∀ x ∈ last, x < n) ∧ last.length ≤ n ∧ found ≠ [] ∧ m = n - found.length + (if last = [] then 0 else 1)
def JMore (w : Wd) (b : Nat) (tm : Option Int) (found last : List Nat) (turn : Int) (n : Nat) (i : Nat) (e : Env) : Prop := ∃ (more : List Nat) (s7 : Slot), e = envBeh w b tm (.ow (.list (nsD found))) (.lk (.list (nsD last))) turn (.ow (.list (nsD more))) s7 ∧ (∀ x ∈ more, x < n) ∧ more.length ≤ i * 2
theorem s_behind (H : Draws c) (k : Nat) {w : Wd} {n m t : Nat} (ok : w.Ok n m t) (b : Nat) (hb : b < n) (tm : Option Int) : W (c (k + 1) "_law_behind" [w.d, nD b, tmD tm]) (okBehind n) := by
  have hn1 := ok.n1
  have ht1 := ok.t1
  rw [H.r_law_behind]
  unfold M_law_behind
  simp -implicitDefEqProofs
  refine W_while (JBeh w b tm n) _ _ _ 10000 (n - 1 + 1) _ ⟨[b], [b], 0, .un, .un, rfl, by simp, by simpa using hb, by simpa using hb, by simp; omega, by simp, by simp⟩ (by omega) ?_
  rintro m' e ⟨found, last, turn, s6, s7, rfl, hd, hf, hl, hll, hne, hm⟩
  have hfl := nodup_le hd hf
  have hfin : W ((some (Flow.nx, envBeh w b tm (.ow (.list (nsD found))) (.ow (.list (nsD last))) turn s6 s7)) : Option (Flow × Env)) (KSeq (sRet (eB1 "tuple" (eB1 "sorted" (eVar 3)))) (KRn [false, false, false] (okBehind n))) := by
    unfold envBeh
    simp -implicitDefEqProofs [bSorted_n]
    refine ⟨sortN found, rfl, fun g hg => hf g ((sortN_mem _ _).mp hg), by rw [sortN_len]; exact hfl, fun e => ?_⟩
    have := sortN_len found
    rw [e] at this
    exact hne (List.length_eq_zero_iff.mp this.symm)
  have hturn : last ≠ [] → W (((sSeq (sAsg (gNm 6) (eLst []))
  (sSeq (sFor (gNm 7) (itSeq (eVar 4))
   (sAsg (gNm 6) (eBin .Add (eVar 6) (eLc [8] (gNm 8) (itSeq (eIx (eIx (eVar 0) (eC (.int 3))) (eVar 7))) [(eCmp .IsNot (eVar 8) (eC .none))] (eVar 8)))))
  (sSeq (sAsg (gNm 4) (eLc [8] (gNm 8) (itSeq (eB1 "dict" (eLc [9] (gNm 9) (itSeq (eVar 6)) [] (eTup [(eVar 9), (eC (.int 1))])))) [(eCmp .NotIn (eVar 8) (eVar 3))] (eVar 8)))
  (sPar [(gNm 3), (gNm 5)] [(eBin .Add (eVar 3) (eVar 4)), (eBin .Add (eVar 5) (eC (.int 1)))]))))) (envBeh w b tm (.ow (.list (nsD found))) (.ow (.list (nsD last))) turn s6 s7)) (fun p => p.1 = .nx ∧ ∃ m1, m1 < m' ∧ JBeh w b tm n m1 p.2) := by
    intro hlast
    unfold envBeh
    simp -implicitDefEqProofs
    refine W_for (JMore w b tm found last turn n) _ _ _ _ _ ⟨[], s7, rfl, by simp, by simp⟩ ?_ ?_
    · rintro i x e hx ⟨more, s7, rfl, hmore, hml⟩
      obtain ⟨h, hh, rfl⟩ := mem_nsD (List.mem_of_getElem? hx)
      obtain ⟨r, hr, hrm, hrl⟩ := ok.othAt (hl h hh)
      unfold envBeh
      simp -implicitDefEqProofs [hr]
      refine ⟨by omega, ?_⟩
      refine W_lcF (fun x => if isNoneD x then none else some x) _ _ _ _ _ _ _ (fun x hx => ?_) ?_
      · obtain ⟨o, ho, rfl⟩ := List.mem_map.mp hx
        rw [lcTurn_e]
        cases o with
        | none => simp -implicitDefEqProofs
        | some d => simp -implicitDefEqProofs
      · rw [flatMap_thr]
        have hlen : (r.filterMap id).length ≤ 2 := Nat.le_trans (List.length_filterMap_le _ _) (by omega)
        have hi : i < last.length := by
          have := (List.getElem?_eq_some_iff.mp hx).1
          simpa using this
        have hadd := binD_addL (nsD more) (nsD (r.filterMap id)) (by simp; omega)
        simp -implicitDefEqProofs [hadd, nsD_app]
        refine ⟨_, _, rfl, ?_, ?_⟩
        · intro x hx
          rcases List.mem_append.mp hx with hx | hx
          · exact hmore x hx
          · obtain ⟨o, ho, e⟩ := List.mem_filterMap.mp hx
            cases o with
            | none => cases e
            | some d => cases e; exact ok.oths r hrm _ ho
        · simp; omega
    · rintro e ⟨more, s7, rfl, hmore, hml⟩
      unfold envBeh
      simp -implicitDefEqProofs
      rw [nsD_len] at hml
      refine ⟨by omega, ?_⟩
      refine W_lcF (fun x => some (.tuple [x, .int 1])) _ _ _ _ _ _ _ (fun x hx => ?_) ?_
      · rw [lcTurn_e]
        simp -implicitDefEqProofs
      · rw [map_nsD more onePr _ (fun x => rfl)]
        simp -implicitDefEqProofs [bDict_one]
        have hdl : (dedup [] more).length ≤ n := nodup_le (dedup_nodup _ _ (by simp)) fun x hx => hmore x (by simpa [dedup_mem] using hx)
        refine ⟨by omega, ?_⟩
        have hkeys := keys_one (dedup [] more)
        rw [List.map_map] at hkeys
        rw [hkeys]
        refine W_lcF (fun x => match x with | .int b => if decide (b.toNat ∈ found) then none else some x | _ => none) _ _ _ _ _ _ _ (fun x hx => ?_) ?_
        · obtain ⟨a, ha, rfl⟩ := mem_nsD hx
          rw [lcTurn_e]
          simp -implicitDefEqProofs [cmp_ninN]
          by_cases hf : a ∈ found
          · simp -implicitDefEqProofs [hf, nD]
          · simp -implicitDefEqProofs [hf, nD]
        · rw [filter_nsD _ (fun x => !decide (x ∈ found)) _ (fun x => by by_cases h : x ∈ found <;> simp [nD, h])]
          have hnew : ∀ x ∈ (dedup [] more).filter (fun x => !decide (x ∈ found)), x < n ∧ x ∉ found := by
            intro x hx
            have := List.mem_filter.mp hx
            exact ⟨hmore x (by simpa [dedup_mem] using this.1), by simpa using this.2⟩
          have hnd : ((dedup [] more).filter (fun x => !decide (x ∈ found))).Nodup := (dedup_nodup _ _ (by simp)).filter _
          generalize (dedup [] more).filter (fun x => !decide (x ∈ found)) = last' at hnew hnd
          have hl' : last'.length ≤ n := nodup_le hnd fun x hx => (hnew x hx).1
          have hadd := binD_addL (nsD found) (nsD last') (by simp; omega)
          simp -implicitDefEqProofs [hadd, nsD_app]
          have hnd2 : (found ++ last').Nodup := List.nodup_append.mpr ⟨hd, hnd, fun a ha b hb e => (hnew b hb).2 (e ▸ ha)⟩
          have hlt2 : ∀ x ∈ found ++ last', x < n := fun x hx => (List.mem_append.mp hx).elim (hf x) (fun h => (hnew x h).1)
          have hlen2 := nodup_le hnd2 hlt2
          refine ⟨_, ?_, found ++ last', last', _, _, _, rfl, hnd2, hlt2, fun x hx => (hnew x hx).1, hl', by simp [hne], rfl⟩
          rw [hm, if_neg hlast]
          rw [List.length_append] at hlen2 ⊢
          by_cases h0 : last' = []
          · rw [if_pos h0]; subst h0; simp
          · rw [if_neg h0]
            have : 0 < last'.length := List.length_pos_iff.mpr h0
            omega
  have hgo : last ≠ [] → W (((sSeq (sAsg (gNm 6) (eLst []))
  (sSeq (sFor (gNm 7) (itSeq (eVar 4))
   (sAsg (gNm 6) (eBin .Add (eVar 6) (eLc [8] (gNm 8) (itSeq (eIx (eIx (eVar 0) (eC (.int 3))) (eVar 7))) [(eCmp .IsNot (eVar 8) (eC .none))] (eVar 8)))))
  (sSeq (sAsg (gNm 4) (eLc [8] (gNm 8) (itSeq (eB1 "dict" (eLc [9] (gNm 9) (itSeq (eVar 6)) [] (eTup [(eVar 9), (eC (.int 1))])))) [(eCmp .NotIn (eVar 8) (eVar 3))] (eVar 8)))
  (sPar [(gNm 3), (gNm 5)] [(eBin .Add (eVar 3) (eVar 4)), (eBin .Add (eVar 5) (eC (.int 1)))]))))) (envBeh w b tm (.ow (.list (nsD found))) (.ow (.list (nsD last))) turn s6 s7)) (turnQ (fun e => ∃ m1, m1 < m' ∧ JBeh w b tm n m1 e) (KSeq (sRet (eB1 "tuple" (eB1 "sorted" (eVar 3)))) (KRn [false, false, false] (okBehind n)))) := by
    intro hlast
    refine (hturn hlast).mono ?_
    rintro ⟨f, e⟩ ⟨h1, h2⟩
    cases h1
    exact h2
  unfold envBeh at hfin hgo ⊢
  rw [W_some] at hfin
  simp -implicitDefEqProofs [cmp_neL0 _ ((fl_nsD 0 last).shaped (by omega))]
  refine Br.mk (fun h => ?_) (fun h => ?_)
  · have hlast : last ≠ [] := by
      rintro rfl
      simp [nsD] at h
    cases tm with
    | none =>
      simp only [tmD] at hgo ⊢
      simp -implicitDefEqProofs only [KW_ap, W_eOr, W_tst, W_eCmp, W_eVar, get_s, get_z, slotR_fz, W_some, Kp_ap, KOp_ap, W_eC, KOp2_ap, deref_v, Option.bind_some, cmpR_e, cmp_isN, isNoneD_n, Option.map_some, KDer_ap, Kb_ap, truthD_b, KOr_ap, Br_t, Kq_ap, KWh_ap]
      exact hgo hlast
    | some tv =>
      simp only [tmD] at hgo hfin ⊢
      simp -implicitDefEqProofs only [KW_ap, W_eOr, W_tst, W_eCmp, W_eVar, get_s, get_z, slotR_fz, W_some, Kp_ap, KOp_ap, W_eC, KOp2_ap, deref_v, Option.bind_some, cmpR_e, cmp_isN, isNoneD_i, Option.map_some, KDer_ap, Kb_ap, truthD_b, KOr_ap, Br_f, Kq_ap, KWh_ap, cmp_lt]
      refine Br.mk (fun h2 => ?_) (fun h2 => ?_)
      · exact hgo hlast
      · exact hfin
  · simp -implicitDefEqProofs only [Kq_ap, KDer_ap, deref_v, W_some, Kb_ap, truthD_b, Kp_ap, KWh_ap, Br_f]
    exact hfin
end Mp.P

/-! Mw4: leaving; quick rows; answers; moves; places. -/
namespace Mp.P
open PySem
variable {c : Nat → Call}
/-! ### blocks by what their items are -/
def tP (env : Env) (P : D → Prop) (p : Option D × Env) : Prop := p.2 = env ∧ ∀ d, p.1 = some d → P d
@[scoped simp] theorem tP_s (env : Env) (P : D → Prop) (d : D) (e : Env) : tP env P (some d, e) ↔ e = env ∧ P d := ⟨fun h => ⟨h.1, h.2 d rfl⟩, fun h => ⟨h.1, fun x hx => by cases hx; exact h.2⟩⟩
@[scoped simp] theorem tP_n (env : Env) (P : D → Prop) (e : Env) : tP env P (none, e) ↔ e = env := ⟨fun h => h.1, fun h => ⟨h, fun x hx => by cases hx⟩⟩
theorem W_lcP (P : D → Prop) (own : List Nat) (tg : TgF) (ifs : List EvF) (elt : EvF) (Q) (xs : List D) (env : Env)
    (hs : ∀ x, x ∈ xs → lcTurn own tg ifs elt x env (tP env P)) (hq : ∀ ys, (∀ y ∈ ys, P y) → ys.length ≤ xs.length → Q (ys, env)) : W (lcGo own tg ifs elt xs env) Q := by
  refine W_lc (fun i acc e => e = env ∧ (∀ y ∈ acc, P y) ∧ acc.length ≤ i) own tg ifs elt Q xs env ⟨rfl, by simp, by simp⟩ (fun i x acc e hx hj => ?_) fun ys e hj => ?_
  · obtain ⟨rfl, h1, h2⟩ := hj
    refine lcTurn_mono (hs x (List.mem_of_getElem? hx)) ?_
    rintro ⟨o, e1⟩ ⟨he, hp⟩
    refine ⟨he, ?_, ?_⟩
    · intro y hy
      rcases List.mem_append.mp hy with hy | hy
      · exact h1 y hy
      · cases o with
        | none => cases hy
        | some d =>
          rw [List.mem_singleton.mp hy]
          exact hp d rfl
    · cases o with
      | none => simp [addO]; omega
      | some d => simp [addO]; omega
  · obtain ⟨rfl, h1, h2⟩ := hj
    exact hq ys h1 h2
/-- every item gives one -/
def tA (env : Env) (P : D → Prop) (p : Option D × Env) : Prop := p.2 = env ∧ ∃ d, p.1 = some d ∧ P d
@[scoped simp] theorem tA_s (env : Env) (P : D → Prop) (d : D) (e : Env) : tA env P (some d, e) ↔ e = env ∧ P d := ⟨fun ⟨h, x, hx, hp⟩ => ⟨h, by cases hx; exact hp⟩, fun h => ⟨h.1, d, rfl, h.2⟩⟩
@[scoped simp] theorem tA_n (env : Env) (P : D → Prop) (e : Env) : tA env P (none, e) ↔ False := ⟨fun ⟨h, x, hx, hp⟩ => (nomatch hx), False.elim⟩
inductive Two {α β : Type} (P : α → β → Prop) : List α → List β → Prop
  | nil : Two P [] []
  | cons {x y xs ys} (h : P x y) (t : Two P xs ys) : Two P (x :: xs) (y :: ys)
theorem Two.snoc {α β : Type} {P : α → β → Prop} {xs : List α} {ys : List β} (t : Two P xs ys) {x : α} {y : β} (h : P x y) : Two P (xs ++ [x]) (ys ++ [y]) := by
  induction t with
  | nil => exact .cons h .nil
  | cons h t ih => exact .cons h ih
theorem Two.len {α β : Type} {P : α → β → Prop} {xs : List α} {ys : List β} (t : Two P xs ys) : ys.length = xs.length := by
  induction t with
  | nil => rfl
  | cons h t ih => simp [ih]
theorem Two.right {α β : Type} {P : α → β → Prop} {xs : List α} {ys : List β} (t : Two P xs ys) : ∀ y ∈ ys, ∃ x, x ∈ xs ∧ P x y := by
  induction t with
  | nil => intro y hy; cases hy
  | cons h t ih =>
    intro y hy
    rcases List.mem_cons.mp hy with rfl | hy
    · exact ⟨_, List.mem_cons_self, h⟩
    · obtain ⟨x, hx, hp⟩ := ih y hy
      exact ⟨x, List.mem_cons_of_mem _ hx, hp⟩
theorem W_lcA (P : D → D → Prop) (own : List Nat) (tg : TgF) (ifs : List EvF) (elt : EvF) (Q) (xs : List D) (env : Env)
    (hs : ∀ x, x ∈ xs → lcTurn own tg ifs elt x env (tA env (P x))) (hq : ∀ ys, Two P xs ys → Q (ys, env)) : W (lcGo own tg ifs elt xs env) Q := by
  refine W_lc (fun i acc e => e = env ∧ Two P (xs.take i) acc) own tg ifs elt Q xs env ⟨rfl, .nil⟩ (fun i x acc e hx hj => ?_) fun ys e hj => ?_
  · obtain ⟨rfl, h1⟩ := hj
    refine lcTurn_mono (hs x (List.mem_of_getElem? hx)) ?_
    rintro ⟨o, e1⟩ ⟨he, d, hd, hp⟩
    refine ⟨he, ?_⟩
    simp only at hd
    subst hd
    rw [List.take_succ, hx]
    exact h1.snoc hp
  · obtain ⟨rfl, h1⟩ := hj
    rw [List.take_length] at h1
    exact hq ys h1
theorem enumGo_mem {k : Nat} {xs : List D} {x : D} (h : x ∈ enumGo k xs) : ∃ (i : Nat) (y : D), xs[i]? = some y ∧ x = .tuple [nD (k + i), y] := by
  induction xs generalizing k with
  | nil => cases h
  | cons y ys ih =>
    rcases List.mem_cons.mp h with rfl | h
    · exact ⟨0, y, rfl, rfl⟩
    · obtain ⟨i, z, hz, rfl⟩ := ih h
      exact ⟨i + 1, z, by simpa using hz, by rw [show k + (i + 1) = k + 1 + i by omega]⟩
theorem enumGo_len (k : Nat) (xs : List D) : (enumGo k xs).length = xs.length := by
  induction xs generalizing k with
  | nil => rfl
  | cons y ys ih => show (enumGo (k + 1) ys).length + 1 = _; rw [ih]; rfl
theorem enum_own {r : List (Option (Nat × Int))} {x : D} (h : x ∈ enumGo 0 (r.map stepD)) : ∃ (i : Nat) (s : Option (Nat × Int)), r[i]? = some s ∧ s ∈ r ∧ i < r.length ∧ x = .tuple [nD i, stepD s] := by
  obtain ⟨i, y, hy, rfl⟩ := enumGo_mem h
  rw [List.getElem?_map] at hy
  cases hr : r[i]? with
  | none => rw [hr] at hy; cases hy
  | some s =>
    rw [hr] at hy
    cases hy
    exact ⟨i, s, hr, List.mem_of_getElem? hr, (List.getElem?_eq_some_iff.mp hr).1, by rw [Nat.zero_add]⟩
def isOne (d : D) : Prop := d = .int 1
@[scoped simp] theorem isOne_1 : isOne (.int 1) := rfl
theorem shaped_ones {ys : List D} (h : ∀ y ∈ ys, isOne y) : Mp.shaped (.list ys) = true := (Fl.lst (n := 0) ys fun y hy => by rw [h y hy]; exact .int 1).shaped (by omega)
/-! ### leaving -/
def okBool (p : Bool × D × List D) : Prop := ∃ q : Bool, p = (false, .bool q, [])
theorem s_leave (H : Draws c) (k : Nat) {w : Wd} {n m t : Nat} (ok : w.Ok n m t) (b : Nat) (hb : b < n) (tm : Option Int) : W (c (k + 2) "_law_leave" [w.d, nD b, tmD tm]) okBool := by
  have hn1 := ok.n1
  rw [H.r_law_leave]
  unfold M_law_leave
  simp -implicitDefEqProofs
  refine (s_behind H k ok b hb tm).mono ?_
  rintro _ ⟨gs, rfl, hg, hl, _⟩
  simp -implicitDefEqProofs
  refine ⟨by omega, ?_⟩
  refine W_lcP isOne _ _ _ _ _ _ _ (fun x hx => ?_) fun ys hy _ => ?_
  · obtain ⟨a, ha, rfl⟩ := mem_nsD hx
    obtain ⟨q, hq⟩ := ok.neverAt (hg a ha)
    rw [lcTurn_e]
    simp -implicitDefEqProofs [hq]
    cases q <;> simp -implicitDefEqProofs
  · simp -implicitDefEqProofs [cmp_eqL0 _ (shaped_ones hy)]
    exact ⟨_, rfl⟩
/-! ### quick rows -/
def QRow (n l : Nat) (d : D) : Prop := ∃ (cost : Int) (row : List D) (here : Nat), d = .tuple [.int cost, .tuple row, nD here] ∧ 0 ≤ cost ∧ here < n ∧ row.length ≤ l
theorem QRow.mono {n l l' : Nat} {d : D} (h : QRow n l d) (hl : l ≤ l') : QRow n l' d := by
  obtain ⟨a, b, e, h1, h2, h3, h4⟩ := h
  exact ⟨a, b, e, h1, h2, h3, Nat.le_trans h4 hl⟩
def QRows (n l s : Nat) (xs : List D) : Prop := (∀ x ∈ xs, QRow n l x) ∧ xs.length ≤ s
def okQuick (n : Nat) (p : Bool × D × List D) : Prop := ∃ xs : List D, p = (true, .list xs, []) ∧ QRows n 3 256 xs ∧ xs ≠ []
def envQ (w : Wd) (b mo : Nat) (found last : Slot) (s5 s6 s7 s8 s9 s10 s11 : Slot) : Env := [.fz w.d, .fz (nD b), .fz (nD mo), found, last, s5, s6, s7, s8, s9, s10, s11, .un]
@[scoped simp] theorem rng1_nD (n : Nat) (h : n < 1000000) : rng1 (nD n) = some (rangeD 0 n) := rng1_n n h
theorem rangeD_len (lo : Int) (n : Nat) : (rangeD lo n).length = n := by unfold rangeD; rw [List.length_map, List.length_range]
theorem rangeD_at {n i : Nat} {x : D} (h : (rangeD 0 n)[i]? = some x) : i < n ∧ x = nD i := by
  have hi : i < n := by have := (List.getElem?_eq_some_iff.mp h).1; rwa [rangeD_len] at this
  refine ⟨hi, ?_⟩
  unfold rangeD at h
  rw [List.getElem?_map, List.getElem?_range hi] at h
  cases h
  simp [nD]
theorem rangeD_mem {n : Nat} {x : D} (h : x ∈ rangeD 0 n) : ∃ i, i < n ∧ x = nD i := by
  obtain ⟨i, hi⟩ := List.getElem?_of_mem h
  exact ⟨i, rangeD_at hi⟩
def JQ (w : Wd) (b mo n : Nat) (i : Nat) (e : Env) : Prop := ∃ (found last : List D) (s5 s6 s7 s8 s9 s10 s11 : Slot), e = envQ w b mo (.ow (.list found)) (.ow (.list last)) s5 s6 s7 s8 s9 s10 s11 ∧ freS s8 = true ∧ QRows n i (4 ^ (i + 1) - 1) found ∧ QRows n i (4 ^ i) last ∧ found ≠ []
def JQ2 (w : Wd) (b mo n l : Nat) (found last : Slot) (s5 : Slot) (j : Nat) (e : Env) : Prop := ∃ (later : List D) (s7 s8 s9 s10 s11 : Slot), e = envQ w b mo found last s5 (.ow (.list later)) s7 s8 s9 s10 s11 ∧ freS s8 = true ∧ QRows n (l + 1) (4 * j) later
def JQ3 (w : Wd) (b mo n l : Nat) (found last : Slot) (s5 s7 s8 s9 : Slot) (j : Nat) (d : Nat) (e : Env) : Prop := ∃ (later : List D) (s10 s11 : Slot), e = envQ w b mo found last s5 (.ow (.list later)) s7 s8 s9 s10 s11 ∧ QRows n (l + 1) (4 * j + d) later
theorem QRows.add {n l s : Nat} {xs : List D} (h : QRows n l s xs) {x : D} (hx : QRow n l x) : QRows n l (s + 1) (xs ++ [x]) := by
  refine ⟨fun y hy => ?_, by have := h.2; simp; omega⟩
  rcases List.mem_append.mp hy with hy | hy
  · exact h.1 y hy
  · rw [List.mem_singleton.mp hy]; exact hx
theorem QRows.mono {n l s l' s' : Nat} {xs : List D} (h : QRows n l s xs) (hl : l ≤ l') (hs : s ≤ s') : QRows n l' s' xs := ⟨fun y hy => (h.1 y hy).mono hl, Nat.le_trans h.2 hs⟩
theorem QRows.app {n l s s' : Nat} {xs ys : List D} (h : QRows n l s xs) (h' : QRows n l s' ys) : QRows n l (s + s') (xs ++ ys) := by
  refine ⟨fun y hy => (List.mem_append.mp hy).elim (h.1 y) (h'.1 y), ?_⟩
  rw [List.length_append]; have := h.2; have := h'.2; omega
theorem pow4 (i : Nat) (h : i ≤ 3) : 4 ^ i ≤ 64 ∧ 4 ^ (i + 1) = 4 * 4 ^ i ∧ 0 < 4 ^ i := by
  refine ⟨?_, by rw [Nat.pow_succ, Nat.mul_comm], Nat.pow_pos (by omega)⟩
  exact Nat.le_trans (Nat.pow_le_pow_right (by omega) h) (by omega)
theorem s_quick (H : Draws c) (k : Nat) {w : Wd} {n m t : Nat} (ok : w.Ok n m t) (b : Nat) (hb : b < n) (mo : Nat) (hmo : mo ≤ 3) : W (c (k + 1) "_law_quick" [w.d, nD b, nD mo]) (okQuick n) := by
  have hn1 := ok.n1
  have hm1 := ok.m1
  rw [H.r_law_quick]
  unfold M_law_quick
  have hmo' : mo < 1000000 := by omega
  simp -implicitDefEqProofs [hmo']
  refine W_for (JQ w b mo n) _ _ _ _ _ ⟨_, _, _, _, _, _, _, _, _, rfl, rfl, ⟨?_, ?_⟩, ⟨?_, ?_⟩, ?_⟩ ?_ ?_
  · intro x hx
    rw [List.mem_singleton.mp hx]
    exact ⟨0, [], b, rfl, by omega, hb, by simp⟩
  · simp
  · intro x hx
    rw [List.mem_singleton.mp hx]
    exact ⟨0, [], b, rfl, by omega, hb, by simp⟩
  · simp
  · simp
  · rintro i x e hx ⟨found, last, s5, s6, s7, s8, s9, s10, s11, rfl, hs8, hf, hl, hne⟩
    obtain ⟨hi, rfl⟩ := rangeD_at hx
    have hp := pow4 i (by omega)
    have hl2 := hl.2
    unfold envQ
    simp -implicitDefEqProofs
    refine W_for (JQ2 w b mo n i (.ow (.list found)) (.lk (.list last)) (.fz (nD i))) _ _ _ _ _ ⟨_, _, _, _, _, _, rfl, hs8, by simp, by simp⟩ ?_ ?_
    · rintro j x e hx ⟨later, s7, s8, s9, s10, s11, rfl, hs8, hla⟩
      obtain ⟨cost, row, here, rfl, hc, hh, hr⟩ := hl.1 x (List.mem_of_getElem? hx)
      obtain ⟨r, hrr, hrm, hrl⟩ := ok.ownAt hh
      have hj : j < last.length := (List.getElem?_eq_some_iff.mp hx).1
      unfold envQ
      simp -implicitDefEqProofs [hrr]
      refine W_for (JQ3 w b mo n i (.ow (.list found)) (.lk (.list last)) (.fz (nD i)) (.fz (.int cost)) (.fz (.tuple row)) (.fz (nD here)) j) _ _ _ _ _ ⟨_, _, _, rfl, by simpa using hla⟩ ?_ ?_
      · rintro d x e hx ⟨later, s10, s11, rfl, hla⟩
        have hd : d < r.length := by
          have := (List.getElem?_eq_some_iff.mp hx).1
          rw [enumGo_len] at this
          simpa using this
        obtain ⟨dd, s, hs, hsm, hdd, rfl⟩ := enum_own (List.mem_of_getElem? hx)
        obtain ⟨q, hq⟩ := ok.quickAt (b := dd) (by omega)
        obtain ⟨dn, hdn⟩ := ok.doneAt hh
        have hll := hla.2
        have hskip : JQ3 w b mo n i (.ow (.list found)) (.lk (.list last)) (.fz (nD i)) (.fz (.int cost)) (.fz (.tuple row)) (.fz (nD here)) j (d + 1) (envQ w b mo (.ow (.list found)) (.lk (.list last)) (.fz (nD i)) (.ow (.list later)) (.fz (.int cost)) (.fz (.tuple row)) (.fz (nD here)) (.fz (nD dd)) (.fz (stepD s))) := ⟨_, _, _, rfl, hla.mono (Nat.le_refl _) (by omega)⟩
        unfold envQ at hskip ⊢
        cases s with
        | none => simp -implicitDefEqProofs; exact hskip
        | some s =>
          obtain ⟨st, sc0, sc1⟩ := ok.owns r hrm s hsm
          cases q with
          | false => simp -implicitDefEqProofs [hq]; exact hskip
          | true =>
            cases dn with
            | true => simp -implicitDefEqProofs [hq, hdn]; exact hskip
            | false =>
              have hadd := binD_addT row [nD dd] (by simp; omega)
              have hap : later.length < 16777216 := by omega
              simp -implicitDefEqProofs [hq, hdn, hadd, apS_l _ _ _ _ hap]
              exact ⟨_, _, _, rfl, (hla.add ⟨_, _, _, rfl, by omega, st, by simp; omega⟩).mono (Nat.le_refl _) (by omega)⟩
      · rintro e ⟨later, s10, s11, rfl, hla⟩
        rw [enumGo_len, List.length_map, hrl] at hla
        unfold envQ
        simp -implicitDefEqProofs
        exact ⟨_, _, _, _, _, _, rfl, rfl, hla.mono (Nat.le_refl _) (by omega)⟩
    · rintro e ⟨later, s7, s8, s9, s10, s11, rfl, hs8, hla⟩
      have hla2 := hla.2
      unfold envQ
      simp -implicitDefEqProofs [hs8]
      refine ⟨by omega, ?_⟩
      refine W_lcP (QRow n (i + 1)) _ _ _ _ _ _ _ (fun x hx => ?_) fun ys hy hyl => ?_
      · obtain ⟨cost, row, here, rfl, hc, hh, hr⟩ := hla.1 x hx
        have hf2 := hf.2
        rw [lcTurn_e]
        simp -implicitDefEqProofs
        refine ⟨by omega, ?_⟩
        refine W_lcP isOne _ _ _ _ _ _ _ (fun x hx => ?_) fun zs hz _ => ?_
        · obtain ⟨cost', row', here', rfl, hc', hh', hr'⟩ := hf.1 x hx
          rw [lcTurn_e]
          simp -implicitDefEqProofs
          by_cases h1 : here' = here
          · subst h1
            simp -implicitDefEqProofs
            by_cases h2 : cost' ≤ cost
            · simp -implicitDefEqProofs [h2]
            · simp -implicitDefEqProofs [h2]
          · simp -implicitDefEqProofs [h1]
        · simp -implicitDefEqProofs [cmp_eqL0 _ (shaped_ones hz)]
          cases zs with
          | nil => simp -implicitDefEqProofs; exact ⟨_, _, _, rfl, hc, hh, hr⟩
          | cons z zs => simp -implicitDefEqProofs
      · have hf2 := hf.2
        have hadd := binD_addL found ys (by omega)
        simp -implicitDefEqProofs [hadd]
        refine ⟨_, _, _, _, _, _, _, _, _, rfl, hs8, ?_, ?_, ?_⟩
        · exact ((hf.mono (Nat.le_succ _) (Nat.le_refl _)).app ⟨hy, hyl⟩).mono (Nat.le_refl _) (by rw [Nat.pow_succ 4 (i + 1)]; omega)
        · exact ⟨hy, by omega⟩
        · simp [hne]
  · rintro e ⟨found, last, s5, s6, s7, s8, s9, s10, s11, rfl, hs8, hf, hl, hne⟩
    rw [rangeD_len] at hf hl
    have hp := pow4 mo (by omega)
    unfold envQ
    simp -implicitDefEqProofs
    exact ⟨_, rfl, hf.mono hmo (by omega), hne⟩
end Mp.P

/-! Mw5: answers; moves; places. -/
namespace Mp.P
open PySem
variable {c : Nat → Call}
theorem intsOf {ys : List D} (h : ∀ y ∈ ys, ∃ i : Int, 0 ≤ i ∧ y = .int i) : ∃ ns : List Int, ys = ns.map .int ∧ ∀ i ∈ ns, 0 ≤ i := by
  induction ys with
  | nil => exact ⟨[], rfl, by simp⟩
  | cons y ys ih =>
    obtain ⟨i, hi, rfl⟩ := h y List.mem_cons_self
    obtain ⟨ns, rfl, hn⟩ := ih fun z hz => h z (List.mem_cons_of_mem _ hz)
    exact ⟨i :: ns, rfl, fun j hj => (List.mem_cons.mp hj).elim (fun e => e ▸ hi) (hn j)⟩
theorem bMin_ge {ns : List Int} (hn : ns ≠ []) (h : ∀ i ∈ ns, 0 ≤ i) : ∃ v : Int, 0 ≤ v ∧ v ∈ ns ∧ bMin (.list (ns.map .int)) = some (.val (.int v)) := by
  cases ns with
  | nil => exact absurd rfl hn
  | cons n ns =>
    have hm : minI n ns ∈ n :: ns := (minI_mem n ns).elim (fun e => by rw [e]; exact List.mem_cons_self) (List.mem_cons_of_mem _)
    exact ⟨minI n ns, h _ hm, hm, bMin_c n ns⟩
theorem bMax_ge {ns : List Int} (hn : ns ≠ []) (h : ∀ i ∈ ns, 0 ≤ i) : ∃ v : Int, 0 ≤ v ∧ v ∈ ns ∧ bMax (.list (ns.map .int)) = some (.val (.int v)) := by
  cases ns with
  | nil => exact absurd rfl hn
  | cons n ns =>
    have hm : maxI n ns ∈ n :: ns := (maxI_mem n ns).elim (fun e => by rw [e]; exact List.mem_cons_self) (List.mem_cons_of_mem _)
    exact ⟨maxI n ns, h _ hm, hm, bMax_c n ns⟩
theorem filterMap_map {α β : Type} (xs : List α) (F : α → Option β) (G : α → β) (h : ∀ x ∈ xs, F x = some (G x)) : xs.filterMap F = xs.map G := by
  induction xs with
  | nil => rfl
  | cons x xs ih =>
    rw [List.filterMap_cons, h x List.mem_cons_self, ih fun y hy => h y (List.mem_cons_of_mem _ hy)]; rfl
theorem intsD_nsD (ks : List Nat) : intsD (nsD ks) = some (ks.map Int.ofNat) := by
  have := intsD_m (ks.map Int.ofNat)
  rw [List.map_map] at this
  exact this
theorem bSorted_one (ks : List Nat) (h : ks.length < 64) : bSorted (.dict (ks.map oneKv)) = some (.new (.list (nsD (sortN ks)))) := by
  have hl : (decide ((ks.map oneKv).length < 64)) = true := by rw [List.length_map]; exact decide_eq_true h
  have e := bSorted_n ks
  have e1 : bSorted (.list (nsD ks)) = (intsD (nsD ks)).map fun ns => .new (.list ((sortI ns).map .int)) := rfl
  rw [e1] at e
  show (if decide ((ks.map oneKv).length < 64) = true then (intsD ((ks.map oneKv).map (·.1))).map fun ns => Res.new (.list ((sortI ns).map .int)) else none) = _
  rw [if_pos hl, keys_one]
  exact e
def hereOf : D → Nat
  | .tuple [_, _, .int h] => h.toNat
  | _ => 0
def costOf : D → Int
  | .tuple [.int c, _, _] => c
  | _ => 0
@[scoped simp] theorem hereOf_e (x y : D) (h : Nat) : hereOf (.tuple [x, y, nD h]) = h := Int.toNat_natCast h
@[scoped simp] theorem costOf_e (x y : D) (h : Int) : costOf (.tuple [.int h, x, y]) = h := rfl
/-- where one stands behind a leaving -/
def p0D (g : Nat) : D := .tuple [nD g, .int 0]
def Ans (n : Nat) (d : D) : Prop := ∃ (cost : Int) (gs : List Nat), d = .tuple [.int cost, .tuple (gs.map p0D)] ∧ 0 ≤ cost ∧ (∀ g ∈ gs, g < n) ∧ gs.length ≤ n
def okAnswers (n : Nat) (p : Bool × D × List D) : Prop := ∃ xs : List D, p = (true, .list xs, []) ∧ (∀ x ∈ xs, Ans n x) ∧ xs.length ≤ n
def envA (w : Wd) (g b : Nat) (tm : Option Int) (rows found : Slot) (s6 s7 : Slot) : Env := [.fz w.d, .fz (nD g), .fz (tmD tm), .fz (nD b), rows, found, s6, s7, .un, .un]
def JA (w : Wd) (g b : Nat) (tm : Option Int) (rows : Slot) (n : Nat) (i : Nat) (e : Env) : Prop := ∃ (found : List D) (s6 s7 : Slot), e = envA w g b tm rows (.ow (.list found)) s6 s7 ∧ (∀ x ∈ found, Ans n x) ∧ found.length ≤ i
theorem s_answers (H : Draws c) (k : Nat) {w : Wd} {n m t : Nat} (ok : w.Ok n m t) (b : Nat) (hb : b < n) (g : Nat) (hg : g ≤ 3) (tm : Option Int) : W (c (k + 3) "_law_answers" [w.d, nD g, tmD tm, nD b]) (okAnswers n) := by
  have hn1 := ok.n1
  rw [H.r_law_answers]
  unfold M_law_answers
  simp -implicitDefEqProofs
  refine (s_quick H (k + 1) ok b hb g hg).mono ?_
  rintro _ ⟨rows, rfl, hrows, hne⟩
  have hrl := hrows.2
  simp -implicitDefEqProofs
  refine ⟨by omega, ?_⟩
  refine W_lcF (fun x => some (onePr (hereOf x))) _ _ _ _ _ _ _ (fun x hx => ?_) ?_
  · obtain ⟨cost, row, here, rfl, hc, hh, hr⟩ := hrows.1 x hx
    rw [lcTurn_e]
    simp -implicitDefEqProofs [onePr]
  · have e1 : rows.filterMap (fun x => some (onePr (hereOf x))) = (rows.map hereOf).map onePr := by
      rw [filterMap_map rows _ (fun x => onePr (hereOf x)) (fun x _ => rfl), List.map_map]; rfl
    rw [e1]
    have hks : ∀ x ∈ dedup [] (rows.map hereOf), x < n := by
      intro x hx
      rw [dedup_mem] at hx
      rcases hx with hx | hx
      · cases hx
      · obtain ⟨r, hr, rfl⟩ := List.mem_map.mp hx
        obtain ⟨cost, row, here, rfl, hc, hh, hr⟩ := hrows.1 r hr
        simpa using hh
    have hkl : (dedup [] (rows.map hereOf)).length ≤ n := nodup_le (dedup_nodup _ _ (by simp)) hks
    have hkm : ∀ x ∈ dedup [] (rows.map hereOf), ∃ r ∈ rows, hereOf r = x := by
      intro x hx
      rw [dedup_mem] at hx
      rcases hx with hx | hx
      · cases hx
      · obtain ⟨r, hr, rfl⟩ := List.mem_map.mp hx
        exact ⟨r, hr, rfl⟩
    have hs1 := bDict_one (rows.map hereOf)
    generalize rows.map hereOf = hs at hks hkl hkm hs1 ⊢
    generalize dedup [] hs = ks at hks hkl hkm hs1
    have hs2 := bSorted_one ks (by omega)
    simp -implicitDefEqProofs [hs1, hs2]
    refine W_for (JA w g b tm (.ow (.list rows)) n) _ _ _ _ _ ⟨[], _, _, rfl, by simp, by simp⟩ ?_ ?_
    · rintro i x e hx ⟨found, s6, s7, rfl, hfo, hfl⟩
      obtain ⟨there, hth, rfl⟩ := mem_nsD (List.mem_of_getElem? hx)
      have hi : i < n := by
        have := (List.getElem?_eq_some_iff.mp hx).1
        rw [nsD_len, sortN_len] at this
        omega
      rw [sortN_mem] at hth
      have htn := hks there hth
      obtain ⟨r0, hr0, hr0h⟩ := hkm there hth
      obtain ⟨dn, hdn⟩ := ok.doneAt htn
      have happ : ∀ (gs : List Nat) (s7 : Slot), (∀ g ∈ gs, g < n) → gs.length ≤ n → W (sExpr (eAppend (eVar 5) (eTup [(eB1 "min" (eLc [8] (gNm 8) (itSeq (eVar 4)) [(eCmp .Eq (eIx (eVar 8) (eC (.int 2))) (eVar 6))] (eIx (eVar 8) (eC (.int 0))))), (eVar 7)])) (envA w g b tm (.ow (.list rows)) (.ow (.list found)) (.fz (nD there)) (.fz (.tuple (gs.map p0D))))) (fun p => p.1 = .nx ∧ JA w g b tm (.ow (.list rows)) n (i + 1) p.2) := by
        intro gs s7 hgs hgl
        unfold envA
        simp -implicitDefEqProofs
        refine ⟨by omega, ?_⟩
        refine W_lcF (fun x => if hereOf x = there then some (.int (costOf x)) else none) _ _ _ _ _ _ _ (fun x hx => ?_) ?_
        · obtain ⟨cost, row, here, rfl, hc, hh, hr⟩ := hrows.1 x hx
          rw [lcTurn_e]
          simp -implicitDefEqProofs
          by_cases h1 : here = there
          · simp -implicitDefEqProofs [h1]
          · simp -implicitDefEqProofs [h1]
        · obtain ⟨ns, hns, hnp⟩ := intsOf (ys := rows.filterMap (fun x => if hereOf x = there then some (.int (costOf x)) else none)) (by
            intro y hy
            obtain ⟨x, hx, hxy⟩ := List.mem_filterMap.mp hy
            obtain ⟨cost, row, here, rfl, hc, hh, hr⟩ := hrows.1 x hx
            by_cases h1 : here = there
            · simp [h1] at hxy
              exact ⟨cost, hc, hxy.symm⟩
            · simp [h1] at hxy)
          have hnn : ns ≠ [] := by
            rintro rfl
            have : PyData.int (costOf r0) ∈ rows.filterMap (fun x => if hereOf x = there then some (.int (costOf x)) else none) := List.mem_filterMap.mpr ⟨r0, hr0, by rw [if_pos hr0h]⟩
            rw [hns] at this
            cases this
          obtain ⟨v, hv, hvm, hmin⟩ := bMin_ge hnn hnp
          rw [hns]
          have hap : found.length < 16777216 := by omega
          simp -implicitDefEqProofs [hmin, apS_l _ _ _ _ hap]
          refine ⟨_, _, _, rfl, ?_, by simp; omega⟩
          intro x hx
          rcases List.mem_append.mp hx with hx | hx
          · exact hfo x hx
          · rw [List.mem_singleton.mp hx]
            exact ⟨v, gs, rfl, hv, hgs, hgl⟩
      unfold envA at happ ⊢
      cases dn with
      | true =>
        simp -implicitDefEqProofs [hdn, -W_sExpr]
        refine (happ [] .un (by simp) (by simp)).mono ?_
        rintro ⟨f, e⟩ ⟨h1, h2⟩
        cases h1
        exact h2
      | false =>
        simp -implicitDefEqProofs [hdn]
        refine (s_leave H k ok there htn tm).mono ?_
        rintro _ ⟨q, rfl⟩
        cases q with
        | false =>
          simp -implicitDefEqProofs
          exact ⟨_, _, _, rfl, hfo, by omega⟩
        | true =>
          simp -implicitDefEqProofs [hdn]
          refine (s_behind H (k + 1) ok there htn tm).mono ?_
          rintro _ ⟨gs, rfl, hgs, hgl, _⟩
          simp -implicitDefEqProofs
          refine ⟨by omega, ?_⟩
          refine W_lcF (fun x => some (.tuple [x, .int 0])) _ _ _ _ _ _ _ (fun x hx => ?_) ?_
          · rw [lcTurn_e]
            simp -implicitDefEqProofs
          · rw [map_nsD gs p0D _ (fun x => rfl)]
            simp -implicitDefEqProofs [-W_sExpr]
            refine (happ gs .un hgs hgl).mono ?_
            rintro ⟨f, e⟩ ⟨h1, h2⟩
            cases h1
            exact h2
    · rintro e ⟨found, s6, s7, rfl, hfo, hfl⟩
      rw [nsD_len, sortN_len] at hfl
      unfold envA
      simp -implicitDefEqProofs
      exact ⟨found, rfl, hfo, by omega⟩
end Mp.P

/-! Mw6: moves; places; rules. -/
namespace Mp.P
open PySem
variable {c : Nat → Call}
@[scoped simp] theorem add_nI (a : Nat) (j : Int) : binD .Add (nD a) (.int j) = some (.val (.int (a + j))) := rfl
@[scoped simp] theorem add_In (a : Nat) (j : Int) : binD .Add (.int j) (nD a) = some (.val (.int (j + a))) := rfl
@[scoped simp] theorem add_nn (a b : Nat) : binD .Add (nD a) (nD b) = some (.val (.int (a + b))) := rfl
@[scoped simp] theorem sub_nI (a : Nat) (j : Int) : binD .Sub (nD a) (.int j) = some (.val (.int (a - j))) := rfl
@[scoped simp] theorem min_nI (a : Nat) (j : Int) : bMin2 (nD a) (.int j) = some (.val (.int (if j < a then j else a))) := rfl
@[scoped simp] theorem min_In (a : Nat) (j : Int) : bMin2 (.int j) (nD a) = some (.val (.int (if (a : Int) < j then a else j))) := rfl
@[scoped simp] theorem gt_nI (a : Nat) (j : Int) : cmpD .Gt (nD a) (.int j) = some (decide (j < a)) := rfl
@[scoped simp] theorem gt_In (a : Nat) (j : Int) : cmpD .Gt (.int j) (nD a) = some (decide ((a : Int) < j)) := rfl
@[scoped simp] theorem lt_nI (a : Nat) (j : Int) : cmpD .Lt (nD a) (.int j) = some (decide ((a : Int) < j)) := rfl
@[scoped simp] theorem lt_In (a : Nat) (j : Int) : cmpD .Lt (.int j) (nD a) = some (decide (j < a)) := rfl
@[scoped simp] theorem lt_nn (a b : Nat) : cmpD .Lt (nD a) (nD b) = some (decide (a < b)) := by
  show some (decide ((a : Int) < (b : Int))) = _
  rw [decide_eq_decide.mpr Int.ofNat_lt]
/-! ### moves -/
def plD (p : Nat × Nat) : D := .tuple [nD p.1, nD p.2]
@[scoped simp] theorem pl_0 (p : Nat × Nat) : ixD (plD p) (.int 0) = some (nD p.1) := rfl
@[scoped simp] theorem pl_1 (p : Nat × Nat) : ixD (plD p) (.int 1) = some (nD p.2) := rfl
theorem minN (s st : Nat) : (PyData.int (if (s : Int) + 1 < (st : Int) then (s : Int) + 1 else (st : Int))) = nD (min st (s + 1)) := by
  unfold nD
  by_cases h : (s : Int) + 1 < (st : Int)
  · rw [if_pos h, Nat.min_eq_right (by omega)]; rfl
  · rw [if_neg h, Nat.min_eq_left (by omega)]
def Mv (n st : Nat) (d : D) : Prop := ∃ (cost : Int) (x : D) (ps : List (Nat × Nat)), d = .tuple [.int cost, x, .tuple (ps.map plD)] ∧ 0 ≤ cost ∧ ps ≠ [] ∧ (∀ p ∈ ps, p.1 < n ∧ p.2 ≤ st) ∧ ps.length ≤ 6
def okMoves (n st : Nat) (p : Bool × D × List D) : Prop := ∃ xs : List D, p = (true, .list xs, []) ∧ (∀ x ∈ xs, Mv n st x) ∧ xs.length ≤ 5
theorem s_moves (H : Draws c) (k : Nat) {w : Wd} {n m t : Nat} (ok : w.Ok n m t) (p : Nat × Nat) (hb : p.1 < n) (st : Nat) (hs : p.2 ≤ st) (tm : Option Int) : W (c (k + 3) "_law_moves" [w.d, nD st, tmD tm, plD p]) (okMoves n st) := by
  have hn1 := ok.n1
  have hm1 := ok.m1
  obtain ⟨r, hr, hrm, hrl⟩ := ok.ownAt hb
  rw [H.r_law_moves]
  unfold M_law_moves
  simp -implicitDefEqProofs [hr, enumGo_len]
  refine ⟨by omega, ?_⟩
  refine W_lcP (Mv n st) _ _ _ _ _ _ _ (fun x hx => ?_) fun ys hy hyl => ?_
  · obtain ⟨i, s, hs, hsm, hi, rfl⟩ := enum_own hx
    rw [lcTurn_e]
    cases s with
    | none => simp -implicitDefEqProofs
    | some s =>
      obtain ⟨h1, h2, h3⟩ := ok.owns r hrm s hsm
      simp -implicitDefEqProofs
      refine ⟨s.2, nD i, [(s.1, min st (p.2 + 1))], ?_, h2, by simp, ?_, by simp⟩
      · rw [minN]; rfl
      · intro q hq
        rw [List.mem_singleton.mp hq]
        exact ⟨h1, Nat.min_le_left _ _⟩
  · rw [enumGo_len, List.length_map, hrl] at hyl
    simp -implicitDefEqProofs
    refine (s_leave H k ok p.1 hb tm).mono ?_
    rintro _ ⟨q, rfl⟩
    cases q with
    | false =>
      simp -implicitDefEqProofs
      exact ⟨ys, rfl, hy, by omega⟩
    | true =>
      simp -implicitDefEqProofs
      refine (s_behind H (k + 1) ok p.1 hb tm).mono ?_
      rintro _ ⟨gs, rfl, hgs, hgl, hgne⟩
      simp -implicitDefEqProofs
      refine ⟨by omega, ?_⟩
      refine W_lcF (fun x => some (.tuple [x, .int 0])) _ _ _ _ _ _ _ (fun x hx => ?_) ?_
      · rw [lcTurn_e]
        simp -implicitDefEqProofs
      · rw [map_nsD gs p0D _ (fun x => rfl)]
        have hap : ys.length < 16777216 := by omega
        simp -implicitDefEqProofs [apS_l _ _ _ _ hap]
        refine ⟨_, rfl, ?_, by simp; omega⟩
        intro x hx
        rcases List.mem_append.mp hx with hx | hx
        · exact hy x hx
        · rw [List.mem_singleton.mp hx]
          refine ⟨0, .str "go", gs.map fun g => (g, 0), ?_, by omega, by simpa using hgne, ?_, by simp; omega⟩
          · rw [List.map_map]; rfl
          · intro q hq
            obtain ⟨g, hg, rfl⟩ := List.mem_map.mp hq
            exact ⟨hgs g hg, Nat.zero_le _⟩
/-! ### places -/
def plsN (n st : Nat) : List (Nat × Nat) := (List.range n).flatMap fun b => (List.range (st + 1)).map fun s => (b, s)
theorem plsN_s (n st : Nat) : plsN (n + 1) st = plsN n st ++ (List.range (st + 1)).map fun s => (n, s) := by
  unfold plsN
  rw [List.range_succ (n := n), List.flatMap_append]; simp
theorem plsN_mem (n st : Nat) (p : Nat × Nat) : p ∈ plsN n st ↔ p.1 < n ∧ p.2 ≤ st := by
  unfold plsN
  simp only [List.mem_flatMap, List.mem_range, List.mem_map]
  constructor
  · rintro ⟨b, hb, s, hs, rfl⟩
    exact ⟨hb, by simp; omega⟩
  · rintro ⟨h1, h2⟩
    exact ⟨p.1, h1, p.2, by omega, rfl⟩
theorem plsN_len (n st : Nat) : (plsN n st).length = n * (st + 1) := by
  induction n with
  | zero => simp [plsN]
  | succ n ih => rw [plsN_s, List.length_append, ih, List.length_map, List.length_range, Nat.succ_mul]
theorem plsN_nodup (n st : Nat) : (plsN n st).Nodup := by
  induction n with
  | zero => simp [plsN]
  | succ n ih =>
    rw [plsN_s]
    refine List.nodup_append.mpr ⟨ih, ?_, ?_⟩
    · refine List.Pairwise.map (fun s => (n, s)) (fun a b h e => h ?_) List.nodup_range
      injection e
    · intro a ha b hb e
      subst e
      rw [plsN_mem] at ha
      obtain ⟨s, _, rfl⟩ := List.mem_map.mp hb
      exact absurd ha.1 (Nat.lt_irrefl _)
theorem rangeD_ns (n : Nat) : rangeD 0 n = nsD (List.range n) := by
  unfold rangeD nsD
  refine List.map_congr_left fun i _ => ?_
  simp [nD]
@[scoped simp] theorem rng1_s (n : Nat) (h : n < 1000000) : rng1 (.int ((n : Int) + 1)) = some (rangeD 0 (n + 1)) := by
  have := rng1_i ((n : Int) + 1) (by omega) (by omega)
  rw [this]; rfl
def okPlaces (n st : Nat) (p : Bool × D × List D) : Prop := p = (true, .list ((plsN n st).map plD), [])
def JPl (w : Wd) (st : Nat) (i : Nat) (e : Env) : Prop := ∃ s3 : Slot, e = [.fz w.d, .fz (nD st), .ow (.list ((plsN i st).map plD)), s3, .un]
theorem s_places (H : Draws c) (k : Nat) {w : Wd} {n m t : Nat} (ok : w.Ok n m t) (st : Nat) (hst : st ≤ 3) : W (c (k + 1) "_law_places" [w.d, nD st]) (okPlaces n st) := by
  have hn1 := ok.n1
  rw [H.r_law_places]
  unfold M_law_places
  have hn : n < 1000000 := by omega
  have hs : st < 1000000 := by omega
  have hr : rng1 (.int n) = some (rangeD 0 n) := rng1_n n hn
  simp -implicitDefEqProofs [ok.own, hr]
  refine W_for (JPl w st) _ _ _ _ _ ⟨_, rfl⟩ ?_ ?_
  · rintro i x e hx ⟨s3, rfl⟩
    obtain ⟨hi, rfl⟩ := rangeD_at hx
    simp -implicitDefEqProofs [hs, rangeD_len]
    refine ⟨by omega, ?_⟩
    refine W_lcF (fun x => some (.tuple [nD i, x])) _ _ _ _ _ _ _ (fun x hx => ?_) ?_
    · rw [lcTurn_e]
      simp -implicitDefEqProofs
    · rw [rangeD_ns, map_nsD (List.range (st + 1)) (fun s => plD (i, s)) _ (fun x => rfl)]
      have hl := plsN_len i st
      have hl1 : i * (st + 1) ≤ 6 * 4 := Nat.mul_le_mul (by omega) (by omega)
      have hadd := binD_addL ((plsN i st).map plD) ((List.range (st + 1)).map fun s => plD (i, s)) (by simp; omega)
      simp -implicitDefEqProofs [hadd]
      refine ⟨.fz (nD i), ?_⟩
      rw [plsN_s, List.map_append, List.map_map]; rfl
  · rintro e ⟨s3, rfl⟩
    rw [rangeD_len]
    simp -implicitDefEqProofs
    rfl
/-! ### dicts by places -/
theorem eqv_pl (p q : Nat × Nat) : PyData.eqv (plD p) (plD q) = decide (p = q) := by
  have h : PyData.eqv (plD p) (plD q) = (PyData.eqv (nD p.1) (nD q.1) && (PyData.eqv (nD p.2) (nD q.2) && true)) := by
    show PyData.eqv (.tuple _) (.tuple _) = _
    simp only [PyData.eqv, PyData.eqvAll]
  rw [h, eqv_nD, eqv_nD, Bool.and_true, ← Bool.decide_and]
  exact decide_eq_decide.mpr ⟨fun h => Prod.ext h.1 h.2, fun h => by rw [h]; exact ⟨rfl, rfl⟩⟩
theorem tupK_pl (p : Nat × Nat) : tupK (plD p) = true := rfl
theorem kvOk_pl {kvs : List (D × D)} (h : ∀ kv ∈ kvs, tupK kv.1 = true) (p : Nat × Nat) : kvOk kvs (plD p) = true := by
  unfold kvOk
  rw [tupK_pl, List.all_eq_true.mpr h]
  simp
/-- a dict by places, in their order -/
def Kvs (P : Nat × Nat → D → Prop) : List (Nat × Nat) → List (D × D) → Prop := Two fun p kv => kv.1 = plD p ∧ P p kv.2
theorem Kvs.keys {P : Nat × Nat → D → Prop} {ps : List (Nat × Nat)} {kvs : List (D × D)} (h : Kvs P ps kvs) : kvs.map (·.1) = ps.map plD := by
  induction h with
  | nil => rfl
  | cons h t ih => simp [ih, h.1]
theorem Kvs.tup {P : Nat × Nat → D → Prop} {ps : List (Nat × Nat)} {kvs : List (D × D)} (h : Kvs P ps kvs) : ∀ kv ∈ kvs, tupK kv.1 = true := by
  intro kv hk
  obtain ⟨p, _, e, _⟩ := h.right kv hk
  rw [e]; exact tupK_pl p
theorem Kvs.get {P : Nat × Nat → D → Prop} {ps : List (Nat × Nat)} {kvs : List (D × D)} (h : Kvs P ps kvs) {p : Nat × Nat} (hp : p ∈ ps) : ∃ v, dGet kvs (plD p) = some v ∧ P p v := by
  induction h with
  | nil => cases hp
  | @cons q kv qs kvs h t ih =>
    unfold dGet
    rw [List.find?_cons, h.1, eqv_pl]
    by_cases e : q = p
    · subst e
      rw [decide_eq_true rfl]
      exact ⟨kv.2, rfl, h.2⟩
    · rw [decide_eq_false e]
      exact ih ((List.mem_cons.mp hp).resolve_left fun x => e x.symm)
theorem Kvs.has {P : Nat × Nat → D → Prop} {ps : List (Nat × Nat)} {kvs : List (D × D)} (h : Kvs P ps kvs) (p : Nat × Nat) : dHas kvs (plD p) = decide (p ∈ ps) := by
  induction h with
  | nil => rfl
  | @cons q kv qs kvs h t ih =>
    show (PyData.eqv kv.1 (plD p) || dHas kvs (plD p)) = _
    rw [h.1, eqv_pl, ih, ← Bool.decide_or]
    exact decide_eq_decide.mpr ⟨fun h => h.elim (fun e => e ▸ List.mem_cons_self) (List.mem_cons_of_mem _), fun h => (List.mem_cons.mp h).elim (fun e => .inl e.symm) .inr⟩
theorem Kvs.new {P : Nat × Nat → D → Prop} {ps : List (Nat × Nat)} {kvs : List (D × D)} (h : Kvs P ps kvs) {p : Nat × Nat} (hp : p ∉ ps) {v : D} (hv : P p v) : Kvs P (ps ++ [p]) (dPut kvs (plD p) v) := by
  unfold dPut
  rw [h.has, decide_eq_false hp, if_neg (fun z => nomatch z)]
  exact Two.snoc h ⟨rfl, hv⟩
theorem Kvs.at {P : Nat × Nat → D → Prop} {ps : List (Nat × Nat)} {kvs : List (D × D)} (h : Kvs P ps kvs) {p : Nat × Nat} (hp : p ∈ ps) : ∃ v, ixD (.dict kvs) (plD p) = some v ∧ P p v := by
  obtain ⟨v, hv, hP⟩ := h.get hp
  refine ⟨v, ?_, hP⟩
  show (if kvOk kvs (plD p) = true then dGet kvs (plD p) else none) = _
  rw [if_pos (kvOk_pl h.tup p), hv]
theorem sbPut_pl {P : Nat × Nat → D → Prop} {ps : List (Nat × Nat)} {kvs : List (D × D)} (h : Kvs P ps kvs) (hl : kvs.length < 16777216) (e : Env) (i : Nat) (v : D) (p : Nat × Nat) :
    sbPut e i v (.val (plD p)) (.dict kvs) = put e i (.dict (dPut kvs (plD p) v)) := by
  show ((take e (.val (plD p))).bind fun k => if (kvOk kvs k.1 && decide (kvs.length < 16777216)) = true then put k.2 i (.dict (dPut kvs k.1 v)) else none) = _
  rw [take_v, Option.bind_some, kvOk_pl h.tup p, decide_eq_true hl]; rfl
/-! ### rules -/
def Calls (n : Nat) (d : D) : Prop := d = .none ∨ ∃ ys : List D, d = .list ys ∧ (∀ y ∈ ys, Ans n y) ∧ ys.length ≤ n
def Rule (n st : Nat) (_ : Nat × Nat) (d : D) : Prop := ∃ (xs : List D) (cl : D), d = .tuple [.list xs, cl] ∧ (∀ x ∈ xs, Mv n st x) ∧ xs.length ≤ 5 ∧ Calls n cl
def okRules (n st : Nat) (p : Bool × D × List D) : Prop := ∃ (ps : List (Nat × Nat)) (kvs : List (D × D)), p = (true, .dict kvs, []) ∧ Kvs (Rule n st) ps kvs ∧ ps.Nodup ∧ (∀ q ∈ ps, q.1 < n ∧ q.2 ≤ st) ∧ ps.length ≤ 24
def envR (w : Wd) (g st : Nat) (tm : Option Int) (found s5 s6 : Slot) : Env := [.fz w.d, .fz (nD g), .fz (nD st), .fz (tmD tm), found, s5, s6]
def JR (w : Wd) (g st : Nat) (tm : Option Int) (n : Nat) (ps : List (Nat × Nat)) (i : Nat) (e : Env) : Prop := ∃ (kvs : List (D × D)) (s5 s6 : Slot), e = envR w g st tm (.ow (.dict kvs)) s5 s6 ∧ Kvs (Rule n st) (ps.take i) kvs
theorem filter_pls (ps : List (Nat × Nat)) (q : Nat × Nat → Bool) (F : D → Option D) (h : ∀ x ∈ ps, F (plD x) = if q x = true then some (plD x) else none) : (ps.map plD).filterMap F = (ps.filter q).map plD := by
  induction ps with
  | nil => rfl
  | cons x ps ih =>
    rw [List.map_cons, List.filterMap_cons, h x List.mem_cons_self, List.filter_cons, ih fun y hy => h y (List.mem_cons_of_mem _ hy)]
    cases q x <;> rfl
def plOf : D → Nat × Nat
  | .tuple [.int a, .int b] => (a.toNat, b.toNat)
  | _ => (0, 0)
theorem plOf_e (p : Nat × Nat) : plOf (plD p) = p := by
  rcases p with ⟨a, b⟩
  show ((a : Int).toNat, (b : Int).toNat) = _
  simp
theorem s_rules (H : Draws c) (k : Nat) {w : Wd} {n m t : Nat} (ok : w.Ok n m t) (g : Nat) (hg : g ≤ 3) (st : Nat) (hst : st ≤ 3) (tm : Option Int) : W (c (k + 4) "_law_rules_of" [w.d, nD g, nD st, tmD tm]) (okRules n st) := by
  have hn1 := ok.n1
  have hl24 : (plsN n st).length ≤ 24 := by
    rw [plsN_len]
    exact Nat.le_trans (Nat.mul_le_mul hn1 (Nat.succ_le_succ hst)) (by omega)
  rw [H.r_law_rules_of]
  unfold M_law_rules_of
  simp -implicitDefEqProofs
  refine (s_places H (k + 2) ok st hst).mono ?_
  rintro _ rfl
  simp -implicitDefEqProofs
  refine ⟨by omega, ?_⟩
  refine W_lcF (fun x => if (w.done[(plOf x).1]?).getD true = true then none else some x) _ _ _ _ _ _ _ (fun x hx => ?_) ?_
  · obtain ⟨p, hp, rfl⟩ := List.mem_map.mp hx
    rw [plsN_mem] at hp
    obtain ⟨dn, hdn⟩ := ok.doneAt hp.1
    rw [lcTurn_e, plOf_e]
    simp -implicitDefEqProofs [hdn]
    cases dn <;> simp -implicitDefEqProofs
  · rw [filter_pls (plsN n st) (fun p => !(w.done[p.1]?).getD true) _ (fun x hx => by
      rw [plOf_e]
      cases (w.done[x.1]?).getD true <;> rfl)]
    have hpm : ∀ q ∈ (plsN n st).filter (fun p => !(w.done[p.1]?).getD true), q.1 < n ∧ q.2 ≤ st := fun q hq => (plsN_mem n st q).mp (List.mem_filter.mp hq).1
    have hnd : ((plsN n st).filter (fun p => !(w.done[p.1]?).getD true)).Nodup := (plsN_nodup n st).filter _
    have hpl : ((plsN n st).filter (fun p => !(w.done[p.1]?).getD true)).length ≤ 24 := Nat.le_trans (List.length_filter_le _ _) hl24
    generalize (plsN n st).filter (fun p => !(w.done[p.1]?).getD true) = ps at hpm hnd hpl
    simp -implicitDefEqProofs
    refine W_for (JR w g st tm n ps) _ _ _ _ _ ⟨[], _, _, rfl, .nil⟩ ?_ ?_
    · rintro i x e hx ⟨kvs, s5, s6, rfl, hk⟩
      rw [List.getElem?_map] at hx
      cases hpi : ps[i]? with
      | none => rw [hpi] at hx; cases hx
      | some p =>
        rw [hpi] at hx
        cases hx
        obtain ⟨hb, hs⟩ := hpm p (List.mem_of_getElem? hpi)
        have hkl : kvs.length < 16777216 := by
          have := hk.len
          rw [List.length_take] at this
          omega
        have hi : i < ps.length := (List.getElem?_eq_some_iff.mp hpi).1
        have hnew : p ∉ ps.take i := by
          intro hm
          obtain ⟨j, hj⟩ := List.getElem?_of_mem hm
          rw [List.getElem?_take] at hj
          by_cases hji : j < i
          · rw [if_pos hji] at hj
            have e1 : ps[j]? = ps[i]? := by rw [hj, hpi]
            have := (List.getElem?_inj (by omega) hnd).mp e1
            omega
          · rw [if_neg hji] at hj
            cases hj
        have hgo : ∀ (cl : D) (s6 : Slot), Calls n cl → (s6 = .fz cl ∨ s6 = .ow cl) → W (sAsg (gSb (eVar 4) (eVar 5)) (eTup [(eCall (c (k + 3)) "_law_moves" [false, false, false, false] [(eVar 0), (eVar 2), (eVar 3), (eVar 5)]), (eVar 6)]) (envR w g st tm (.ow (.dict kvs)) (.fz (plD p)) s6)) (fun q => q.1 = .nx ∧ JR w g st tm n ps (i + 1) q.2) := by
          intro cl s6 hcl hs6
          have fin : ∀ (xs : List D), (∀ x ∈ xs, Mv n st x) → xs.length ≤ 5 → Kvs (Rule n st) (ps.take (i + 1)) (dPut kvs (plD p) (.tuple [.list xs, cl])) := by
            intro xs hx1 hx2
            rw [List.take_succ, hpi]
            exact hk.new hnew ⟨xs, cl, rfl, hx1, hx2, hcl⟩
          unfold envR
          rcases hs6 with rfl | rfl
          · simp -implicitDefEqProofs
            refine (s_moves H k ok p hb st hs tm).mono ?_
            rintro _ ⟨xs, rfl, hx1, hx2⟩
            simp -implicitDefEqProofs [sbPut_pl hk hkl]
            exact ⟨_, _, _, rfl, fin xs hx1 hx2⟩
          · simp -implicitDefEqProofs
            refine (s_moves H k ok p hb st hs tm).mono ?_
            rintro _ ⟨xs, rfl, hx1, hx2⟩
            simp -implicitDefEqProofs [sbPut_pl hk hkl]
            exact ⟨_, _, _, rfl, fin xs hx1 hx2⟩
        unfold envR at hgo ⊢
        simp -implicitDefEqProofs
        refine Br.mkd (fun h => ?_) (fun h => ?_)
        · simp -implicitDefEqProofs
          refine (s_answers H k ok p.1 hb g hg tm).mono ?_
          rintro _ ⟨ys, rfl, hy1, hy2⟩
          simp -implicitDefEqProofs [-W_sAsg]
          refine (hgo (.list ys) _ (.inr ⟨ys, rfl, hy1, hy2⟩) (.inr rfl)).mono ?_
          rintro ⟨f, e⟩ ⟨h1, h2⟩
          cases h1
          exact h2
        · have h2 := (hgo .none (.fz .none) (.inl rfl) (.inl rfl))
          simp -implicitDefEqProofs [-W_sAsg]
          refine h2.mono ?_
          rintro ⟨f, e⟩ ⟨h1, h2⟩
          cases h1
          exact h2
    · rintro e ⟨kvs, s5, s6, rfl, hk⟩
      rw [List.length_map, List.take_length] at hk
      unfold envR
      simp -implicitDefEqProofs
      exact ⟨ps, kvs, rfl, hk, hnd, hpm, hpl⟩
end Mp.P

/-! Mw7: worths. -/
namespace Mp.P
open PySem
variable {c : Nat → Call}
def plKv (V : Nat × Nat → Int) (p : Nat × Nat) : D × D := (plD p, .int (V p))
def plPr (V : Nat × Nat → Int) (p : Nat × Nat) : D := .tuple [plD p, .int (V p)]
/-- a number of nought or more -/
def TV (_ : Nat × Nat) (d : D) : Prop := ∃ v : Int, d = .int v ∧ 0 ≤ v
theorem Kvs.ofMap {V : Nat × Nat → Int} (hV : ∀ p, 0 ≤ V p) (ps : List (Nat × Nat)) : Kvs TV ps (ps.map (plKv V)) := by
  induction ps with
  | nil => exact .nil
  | cons p ps ih => exact .cons ⟨rfl, _, rfl, hV p⟩ ih
theorem pairs_pl (V : Nat × Nat → Int) (ps : List (Nat × Nat)) : pairsD (ps.map (plPr V)) = some (ps.map (plKv V)) := by
  induction ps with
  | nil => rfl
  | cons n ns ih => show (pairsD (ns.map (plPr V))).map _ = _; rw [ih]; rfl
theorem merge_pl {V : Nat × Nat → Int} (hV : ∀ p, 0 ≤ V p) (acc ps : List (Nat × Nat)) (h : (acc ++ ps).Nodup) : dMerge (acc.map (plKv V)) (ps.map (plKv V)) = (acc ++ ps).map (plKv V) := by
  induction ps generalizing acc with
  | nil => rw [List.append_nil]; rfl
  | cons p ps ih =>
    have hp : p ∉ acc := fun hm => (List.nodup_append.mp h).2.2 p hm p List.mem_cons_self rfl
    show dMerge (dPut (acc.map (plKv V)) (plD p) (.int (V p))) (ps.map (plKv V)) = _
    have e : dPut (acc.map (plKv V)) (plD p) (.int (V p)) = (acc ++ [p]).map (plKv V) := by
      unfold dPut
      rw [(Kvs.ofMap hV acc).has, decide_eq_false hp, if_neg (fun z => nomatch z), List.map_append]; rfl
    rw [e, ih (acc ++ [p]) (by rwa [List.append_assoc]), List.append_assoc]; rfl
theorem bDict_pl {V : Nat × Nat → Int} (hV : ∀ p, 0 ≤ V p) (ps : List (Nat × Nat)) (h : ps.Nodup) : bDict (.list (ps.map (plPr V))) = some (.new (.dict (ps.map (plKv V)))) := by
  show (pairsD (ps.map (plPr V))).bind _ = _
  rw [pairs_pl]
  have hk : keysOk (ps.map (plKv V)) = true := by
    unfold keysOk
    rw [show ((ps.map (plKv V)).all fun p => tupK p.1) = true from by rw [List.all_map]; exact List.all_eq_true.mpr fun _ _ => rfl, Bool.or_true]
  show (if keysOk (ps.map (plKv V)) = true then _ else none) = _
  rw [if_pos hk]
  have := merge_pl hV [] ps h
  rw [List.nil_append] at this
  exact congrArg (fun z => some (Res.new (.dict z))) this
/-! ### how much is told -/
def valN : D → Nat
  | .int i => i.toNat
  | _ => 0
def sumK : List (D × D) → Nat
  | [] => 0
  | kv :: r => valN kv.2 + sumK r
theorem sum_map (V : Nat × Nat → Int) (b : Nat) (h : ∀ p, (V p).toNat ≤ b) (ps : List (Nat × Nat)) : sumK (ps.map (plKv V)) ≤ ps.length * b := by
  induction ps with
  | nil => simp [sumK]
  | cons p ps ih =>
    show (V p).toNat + sumK (ps.map (plKv V)) ≤ (ps.length + 1) * b
    have := h p
    rw [Nat.succ_mul]; omega
def updK (kvs : List (D × D)) (k v : D) : List (D × D) := kvs.map fun p => if PyData.eqv p.1 k = true then (p.1, v) else p
theorem Kvs.put {P : Nat × Nat → D → Prop} {ps : List (Nat × Nat)} {kvs : List (D × D)} (h : Kvs P ps kvs) {p : Nat × Nat} (hp : p ∈ ps) (v : D) : dPut kvs (plD p) v = updK kvs (plD p) v := by
  unfold dPut
  rw [h.has, decide_eq_true hp, if_pos rfl]; rfl
theorem Kvs.upd {P : Nat × Nat → D → Prop} {ps : List (Nat × Nat)} {kvs : List (D × D)} (h : Kvs P ps kvs) {p : Nat × Nat} {v : D} (hv : P p v) : Kvs P ps (updK kvs (plD p) v) := by
  induction h with
  | nil => exact .nil
  | @cons q kv qs kvs h t ih =>
    refine Two.cons ?_ ih
    show (if PyData.eqv kv.1 (plD p) = true then (kv.1, v) else kv).1 = plD q ∧ P q (if PyData.eqv kv.1 (plD p) = true then (kv.1, v) else kv).2
    rw [h.1, eqv_pl]
    by_cases e : q = p
    · subst e
      rw [decide_eq_true rfl, if_pos rfl]
      exact ⟨rfl, hv⟩
    · rw [decide_eq_false e, if_neg (fun z => nomatch z)]
      exact ⟨h.1, h.2⟩
theorem Kvs.updN {P : Nat × Nat → D → Prop} {ps : List (Nat × Nat)} {kvs : List (D × D)} (h : Kvs P ps kvs) {p : Nat × Nat} (hp : p ∉ ps) (v : D) : updK kvs (plD p) v = kvs := by
  induction h with
  | nil => rfl
  | @cons q kv qs kvs h t ih =>
    show (if PyData.eqv kv.1 (plD p) = true then (kv.1, v) else kv) :: updK kvs (plD p) v = _
    rw [ih (fun x => hp (List.mem_cons_of_mem _ x)), h.1, eqv_pl, decide_eq_false (fun e : q = p => hp (e ▸ List.mem_cons_self)), if_neg (fun z => nomatch z)]
theorem Kvs.sum {P : Nat × Nat → D → Prop} {ps : List (Nat × Nat)} {kvs : List (D × D)} (h : Kvs P ps kvs) (hd : ps.Nodup) {p : Nat × Nat} {u v : Int} (hg : dGet kvs (plD p) = some (.int u)) (h0 : 0 ≤ v) (hv : v < u) (hp : p ∈ ps) : sumK (updK kvs (plD p) (.int v)) < sumK kvs := by
  induction h with
  | nil => cases hp
  | @cons q kv qs kvs h t ih =>
    have hd2 := List.nodup_cons.mp hd
    show valN (if PyData.eqv kv.1 (plD p) = true then (kv.1, PyData.int v) else kv).2 + sumK (updK kvs (plD p) (.int v)) < valN kv.2 + sumK kvs
    unfold dGet at hg
    rw [List.find?_cons, h.1, eqv_pl] at hg
    rw [h.1, eqv_pl]
    by_cases e : q = p
    · subst e
      rw [decide_eq_true rfl] at hg ⊢
      rw [if_pos rfl, Kvs.updN t hd2.1]
      have : kv.2 = .int u := by simpa using hg
      rw [this]
      show v.toNat + _ < u.toNat + _
      omega
    · rw [decide_eq_false e] at hg ⊢
      rw [if_neg (fun z => nomatch z)]
      have := ih hd2.2 hg ((List.mem_cons.mp hp).resolve_left fun x => e x.symm)
      omega
theorem Kvs.atV {ps : List (Nat × Nat)} {kvs : List (D × D)} (h : Kvs TV ps kvs) {p : Nat × Nat} (hp : p ∈ ps) : ∃ v : Int, ixD (.dict kvs) (plD p) = some (.int v) ∧ dGet kvs (plD p) = some (.int v) ∧ 0 ≤ v := by
  obtain ⟨d, hg, v, rfl, h0⟩ := h.get hp
  refine ⟨v, ?_, hg, h0⟩
  show (if kvOk kvs (plD p) = true then dGet kvs (plD p) else none) = _
  rw [if_pos (kvOk_pl h.tup p), hg]
/-! ### the walk -/
def nn (d : D) : Prop := ∃ v : Int, 0 ≤ v ∧ d = .int v
@[scoped simp] theorem nn_i (v : Int) : nn (.int v) ↔ 0 ≤ v := ⟨fun ⟨u, h, e⟩ => by cases e; exact h, fun h => ⟨v, h, rfl⟩⟩
def Told (n st : Nat) (d : D) : Prop := ∃ kvs : List (D × D), d = .dict kvs ∧ Kvs TV (plsN n st) kvs
def okWorth (n st br : Nat) (p : Bool × D × List D) : Prop := ∃ ds : List D, p = (true, .list ds, []) ∧ ds.length = br + 1 ∧ ∀ d ∈ ds, Told n st d
def envW (w : Wd) (g st : Nat) (tm : Option Int) (br cap : Nat) (rules found s8 s9 s10 s11 s12 s13 s14 s15 : Slot) : Env :=
  [.fz w.d, .fz (nD g), .fz (nD st), .fz (tmD tm), .fz (nD br), .fz (nD cap), rules, found, s8, s9, s10, s11, s12, s13, s14, s15, .un, .un, .un, .un]
def JW (w : Wd) (g st : Nat) (tm : Option Int) (br cap : Nat) (rules : Slot) (n : Nat) (i : Nat) (e : Env) : Prop := ∃ (ds : List D) (s8 s9 s10 s11 s12 s13 s14 s15 : Slot),
  e = envW w g st tm br cap rules (.ow (.list ds)) s8 s9 s10 s11 s12 s13 s14 s15 ∧ freS s9 = true ∧ ds.length = i ∧ ∀ d ∈ ds, Told n st d
/-- the called ones -/
def JC (w : Wd) (g st : Nat) (tm : Option Int) (br cap : Nat) (rules found s8 s10 : Slot) (ps : List (Nat × Nat)) (i : Nat) (e : Env) : Prop := ∃ (kvs : List (D × D)) (s9 s12 s13 s14 s15 : Slot),
  e = envW w g st tm br cap rules found s8 s9 s10 (.ow (.dict kvs)) s12 s13 s14 s15 ∧ freS s9 = true ∧ Kvs TV (ps.take i) kvs
/-- the sweeps -/
def JS (w : Wd) (g st : Nat) (tm : Option Int) (br cap : Nat) (rules found s8 s11 : Slot) (n : Nat) (mm : Nat) (e : Env) : Prop := ∃ (kvs : List (D × D)) (ch : Bool) (s9 s12 s13 s15 : Slot),
  e = envW w g st tm br cap rules found s8 s9 (.ow (.dict kvs)) s11 s12 s13 (.fz (.bool ch)) s15 ∧ freS s9 = true ∧ Kvs TV (plsN n st) kvs ∧ mm = sumK kvs + (if ch = true then 1 else 0)
def JT (w : Wd) (g st : Nat) (tm : Option Int) (br cap : Nat) (rules found s8 s11 : Slot) (n : Nat) (s0 : Nat) (e : Env) : Prop := ∃ (kvs : List (D × D)) (ch : Bool) (s9 s12 s13 s15 : Slot),
  e = envW w g st tm br cap rules found s8 s9 (.ow (.dict kvs)) s11 s12 s13 (.fz (.bool ch)) s15 ∧ freS s9 = true ∧ Kvs TV (plsN n st) kvs ∧ sumK kvs + (if ch = true then 1 else 0) ≤ s0
@[scoped simp] theorem sub_n1 (j : Nat) : binD .Sub (nD (j + 1)) (.int 1) = some (.val (nD j)) := by
  show some (Res.val (.int (((j + 1 : Nat) : Int) - 1))) = _
  rw [show ((j + 1 : Nat) : Int) - 1 = (j : Int) by omega]; rfl
theorem take_new {α : Type} {ps : List α} (hnd : ps.Nodup) {i : Nat} {p : α} (hpi : ps[i]? = some p) : p ∉ ps.take i := by
  intro hm
  have hi : i < ps.length := (List.getElem?_eq_some_iff.mp hpi).1
  obtain ⟨j, hj⟩ := List.getElem?_of_mem hm
  rw [List.getElem?_take] at hj
  by_cases hji : j < i
  · rw [if_pos hji] at hj
    have e1 : ps[j]? = ps[i]? := by rw [hj, hpi]
    have := (List.getElem?_inj (by omega) hnd).mp e1
    omega
  · rw [if_neg hji] at hj
    cases hj
theorem pl_at {ps : List (Nat × Nat)} {i : Nat} {x : D} (hx : (ps.map plD)[i]? = some x) : ∃ p, ps[i]? = some p ∧ x = plD p := by
  rw [List.getElem?_map] at hx
  cases hpi : ps[i]? with
  | none => rw [hpi] at hx; cases hx
  | some p => rw [hpi] at hx; cases hx; exact ⟨p, rfl, rfl⟩
theorem min_cap {ys : List D} (h : ∀ y ∈ ys, nn y) (cap : Nat) : ∃ v : Int, 0 ≤ v ∧ bMin (.list (ys ++ [.int ((cap : Int) + 1)])) = some (.val (.int v)) := by
  have h2 : ∀ y ∈ ys ++ [PyData.int ((cap : Int) + 1)], ∃ i : Int, 0 ≤ i ∧ y = .int i := by
    intro y hy
    rcases List.mem_append.mp hy with hy | hy
    · exact h y hy
    · rw [List.mem_singleton.mp hy]
      exact ⟨_, by omega, rfl⟩
  obtain ⟨ns, e, hn⟩ := intsOf h2
  have hne : ns ≠ [] := by
    rintro rfl
    simp at e
  obtain ⟨v, h0, _, hm⟩ := bMin_ge hne hn
  exact ⟨v, h0, by rw [e]; exact hm⟩
theorem max_nn {ys : List D} (h : ∀ y ∈ ys, nn y) (hne : ys ≠ []) : ∃ v : Int, 0 ≤ v ∧ bMax (.list ys) = some (.val (.int v)) := by
  obtain ⟨ns, rfl, hn⟩ := intsOf h
  obtain ⟨v, h0, _, hm⟩ := bMax_ge (ns := ns) (by rintro rfl; exact hne rfl) hn
  exact ⟨v, h0, hm⟩
theorem Two.all {P : D → D → Prop} {R : D → Prop} {xs ys : List D} (t : Two P xs ys) (h : ∀ x y, P x y → R y) : ∀ y ∈ ys, R y := fun y hy => by
  obtain ⟨x, _, hp⟩ := t.right y hy
  exact h x y hp
theorem getD_nn (b : Bool) (cap : Nat) : (0 : Int) ≤ (if b = true then 0 else (cap : Int) + 1) := by cases b <;> simp; omega
theorem s_worth (H : Draws c) (k : Nat) {w : Wd} {n m t : Nat} (ok : w.Ok n m t) (g : Nat) (hg : g ≤ 3) (st : Nat) (hst : st ≤ 3) (tm : Option Int) (br : Nat) (hbr : br ≤ 3) (cap : Nat) (hcap : cap ≤ 100) :
    W (c (k + 5) "_law_worth_rows" [w.d, nD g, nD st, tmD tm, nD br, nD cap]) (okWorth n st br) := by
  have hn1 := ok.n1
  have hl24 : (plsN n st).length ≤ 24 := by
    rw [plsN_len]
    exact Nat.le_trans (Nat.mul_le_mul hn1 (Nat.succ_le_succ hst)) (by omega)
  rw [H.r_law_worth_rows]
  unfold M_law_worth_rows
  simp -implicitDefEqProofs
  refine (s_rules H k ok g hg st hst tm).mono ?_
  rintro _ ⟨ps, rkv, rfl, hrk, hnd, hpm, hpl⟩
  have hkeys := hrk.keys
  have hrkl := hrk.len
  have hbr2 : br < 1000000 := by omega
  simp -implicitDefEqProofs [hbr2]
  refine W_for (JW w g st tm br cap (.ow (.dict rkv)) n) _ _ _ _ _ ⟨[], _, _, _, _, _, _, _, _, rfl, rfl, rfl, by simp⟩ ?_ ?_
  · rintro i x e hx ⟨ds, s8, s9, s10, s11, s12, s13, s14, s15, rfl, hs9, hdl, hds⟩
    obtain ⟨hi, rfl⟩ := rangeD_at hx
    unfold envW
    simp -implicitDefEqProofs
    refine (s_places H (k + 3) ok st hst).mono ?_
    rintro _ rfl
    simp -implicitDefEqProofs [hs9]
    refine ⟨by omega, ?_⟩
    obtain ⟨V, hVe⟩ : ∃ V : Nat × Nat → Int, V = fun p => if (w.done[p.1]?).getD true = true then 0 else (cap : Int) + 1 := ⟨_, rfl⟩
    refine W_lcF (fun x => some (plPr V (plOf x))) _ _ _ _ _ _ _ (fun x hx => ?_) ?_
    · obtain ⟨p, hp, rfl⟩ := List.mem_map.mp hx
      rw [plsN_mem] at hp
      obtain ⟨dn, hdn⟩ := ok.doneAt hp.1
      rw [lcTurn_e, plOf_e]
      unfold plPr
      rw [hVe]
      cases dn with
      | true => simp -implicitDefEqProofs [hdn]
      | false => simp -implicitDefEqProofs [hdn]
    · have e1 : ((plsN n st).map plD).filterMap (fun x => some (plPr V (plOf x))) = (plsN n st).map (plPr V) := by
        rw [filterMap_map _ _ (fun x => plPr V (plOf x)) (fun x _ => rfl), List.map_map]
        refine List.map_congr_left fun p _ => ?_
        show plPr V (plOf (plD p)) = _
        rw [plOf_e]
      rw [e1]
      have hV : ∀ p : Nat × Nat, (0 : Int) ≤ V p := fun p => by rw [hVe]; exact getD_nn _ cap
      have hd1 := bDict_pl hV (plsN n st) (plsN_nodup n st)
      have htk := Kvs.ofMap hV (plsN n st)
      have hsum := sum_map V (cap + 1) (fun p => by rw [hVe]; show (if (w.done[p.1]?).getD true = true then 0 else (cap : Int) + 1).toNat ≤ cap + 1; cases (w.done[p.1]?).getD true <;> simp) (plsN n st)
      have hsum2 : sumK ((plsN n st).map (plKv V)) ≤ 24 * 101 := Nat.le_trans hsum (Nat.mul_le_mul hl24 (by omega))
      generalize (plsN n st).map (plPr V) = prs at hd1 ⊢
      generalize (plsN n st).map (plKv V) = tkv at hd1 htk hsum2
      simp -implicitDefEqProofs [hd1, hkeys]
      refine W_for (JC w g st tm br cap (.lk (.dict rkv)) (.ow (.list ds)) (.fz (nD i)) (.ow (.dict tkv)) ps) _ _ _ _ _ ⟨[], _, _, _, _, _, rfl, hs9, .nil⟩ ?_ ?_
      · rintro i2 x e hx ⟨ckv, s9, s12, s13, s14, s15, rfl, hs9, hck⟩
        obtain ⟨p, hpi, rfl⟩ := pl_at hx
        have hpm2 := hpm p (List.mem_of_getElem? hpi)
        obtain ⟨v, hv, xs, cl, rfl, hxs, hxl, hcl⟩ := hrk.at (List.mem_of_getElem? hpi)
        have hnew := take_new hnd hpi
        have hckl : ckv.length < 16777216 := by
          have := hck.len
          rw [List.length_take] at this
          omega
        have hput : ∀ (u : Int), 0 ≤ u → Kvs TV (ps.take (i2 + 1)) (dPut ckv (plD p) (.int u)) := by
          intro u hu
          rw [List.take_succ, hpi]
          exact hck.new hnew ⟨u, rfl, hu⟩
        unfold envW
        cases i with
        | zero =>
          simp -implicitDefEqProofs [nD, sbPut_pl hck hckl]
          exact ⟨_, _, _, _, _, _, rfl, rfl, hput 0 (by omega)⟩
        | succ j =>
          have hj : j < ds.length := by omega
          obtain ⟨tk, htd, htk2⟩ := hds _ (List.getElem_mem hj)
          have hdj : ds[j]? = some (.dict tk) := by rw [List.getElem?_eq_getElem hj, htd]
          have hgt : decide ((0 : Int) < ((j + 1 : Nat) : Int)) = true := decide_eq_true (by omega)
          rcases hcl with rfl | ⟨ys, rfl, hys, hyl⟩
          · simp -implicitDefEqProofs [gt_nI, hgt, hv, sbPut_pl hck hckl]
            exact ⟨_, _, _, _, _, _, rfl, rfl, hput 0 (by omega)⟩
          · simp -implicitDefEqProofs [gt_nI, hgt, hv]
            refine ⟨by omega, ?_⟩
            refine W_lcA (fun _ => nn) _ _ _ _ _ _ _ (fun y hy => ?_) fun zs hz => ?_
            · obtain ⟨cost, gs, rfl, hc, hgs, hgl⟩ := hys y hy
              rw [lcTurn_e]
              simp -implicitDefEqProofs
              refine ⟨by omega, ?_⟩
              refine W_lcA (fun _ => nn) _ _ _ _ _ _ _ (fun z hz => ?_) fun zs hz => ?_
              · obtain ⟨gg, hgg, rfl⟩ := List.mem_map.mp hz
                obtain ⟨u, hu, _, hu0⟩ := htk2.atV (p := (gg, 0)) ((plsN_mem n st _).mpr ⟨hgs gg hgg, Nat.zero_le _⟩)
                have hu' : ixD (.dict tk) (p0D gg) = some (.int u) := hu
                rw [lcTurn_e]
                simp -implicitDefEqProofs [hdj, hu']
                exact hu0
              · have hzn := hz.all (R := nn) fun _ _ h => h
                have hzl := hz.len
                rw [List.length_map] at hzl
                have hadd := binD_addL [.int 0] zs (by simp; omega)
                obtain ⟨u, hu0, hu⟩ := max_nn (ys := [.int 0] ++ zs) (fun y hy => by
                  rcases List.mem_append.mp hy with hy | hy
                  · rw [List.mem_singleton.mp hy]; exact ⟨0, by omega, rfl⟩
                  · exact hzn y hy) (by simp)
                simp only [List.singleton_append] at hu hadd
                simp -implicitDefEqProofs [hadd, hu]
                omega
            · have hzn := hz.all (R := nn) fun _ _ h => h
              have hzl := hz.len
              obtain ⟨u, hu0, hu⟩ := min_cap hzn cap
              have hadd := binD_addL zs [.int ((cap : Int) + 1)] (by simp; omega)
              simp -implicitDefEqProofs [hadd, hu, sbPut_pl hck hckl]
              exact ⟨_, _, _, _, _, _, rfl, rfl, hput u hu0⟩
      · rintro e ⟨ckv, s9, s12, s13, s14, s15, rfl, hs9, hck⟩
        rw [List.length_map, List.take_length] at hck
        unfold envW
        simp -implicitDefEqProofs
        refine W_while (JS w g st tm br cap (.ow (.dict rkv)) (.ow (.list ds)) (.fz (nD i)) (.ow (.dict ckv)) n) _ _ _ 10000 (sumK tkv + 1) _ ⟨tkv, true, _, _, _, _, rfl, hs9, htk, rfl⟩ (by omega) ?_
        rintro mm e ⟨kvs, ch, s9, s12, s13, s15, rfl, hs9, hk, hmm⟩
        unfold envW
        cases ch with
        | false =>
          have hap : ds.length < 16777216 := by omega
          simp -implicitDefEqProofs [apS_l _ _ _ _ hap]
          refine ⟨_, _, _, _, _, _, _, _, _, rfl, hs9, by simp [hdl], fun d hd => ?_⟩
          rcases List.mem_append.mp hd with hd | hd
          · exact hds d hd
          · rw [List.mem_singleton.mp hd]
            exact ⟨kvs, rfl, hk⟩
        | true =>
          rw [if_pos rfl] at hmm
          simp -implicitDefEqProofs [hkeys]
          refine W_forJ (JT w g st tm br cap (.lk (.dict rkv)) (.ow (.list ds)) (.fz (nD i)) (.ow (.dict ckv)) n (sumK kvs)) _ _ _ _ _ ⟨kvs, false, _, _, _, _, rfl, hs9, hk, by simp⟩ ?_ ?_
          · rintro x e hx ⟨kv2, ch, s9, s12, s13, s15, rfl, hs9, hk2, hsm⟩
            obtain ⟨p, hp, rfl⟩ := List.mem_map.mp hx
            have hpm2 := hpm p hp
            obtain ⟨v, hv, xs, cl, rfl, hxs, hxl, hcl⟩ := hrk.at hp
            obtain ⟨cv, hcv, _, hcv0⟩ := hck.atV hp
            have hpn : p ∈ plsN n st := (plsN_mem n st p).mpr hpm2
            obtain ⟨tv, htv, htg, htv0⟩ := hk2.atV hpn
            have hk2l : kv2.length < 16777216 := by
              have := hk2.len
              omega
            unfold envW
            simp -implicitDefEqProofs [hv]
            refine ⟨by omega, ?_⟩
            refine W_lcA (fun _ => nn) _ _ _ _ _ _ _ (fun y hy => ?_) fun zs hz => ?_
            · obtain ⟨cost, mv, qs, rfl, hc, hqne, hqs, hql⟩ := hxs y hy
              rw [lcTurn_e]
              simp -implicitDefEqProofs
              refine ⟨by omega, ?_⟩
              refine W_lcA (fun _ => nn) _ _ _ _ _ _ _ (fun z hz => ?_) fun zs hz => ?_
              · obtain ⟨q, hq, rfl⟩ := List.mem_map.mp hz
                obtain ⟨u, hu, _, hu0⟩ := hk2.atV (p := q) ((plsN_mem n st _).mpr (hqs q hq))
                rw [lcTurn_e]
                simp -implicitDefEqProofs [hu]
                exact hu0
              · have hzn := hz.all (R := nn) fun _ _ h => h
                have hzl := hz.len
                rw [List.length_map] at hzl
                obtain ⟨u, hu0, hu⟩ := max_nn hzn (by
                  rintro rfl
                  simp at hzl
                  exact hqne (List.length_eq_zero_iff.mp hzl.symm))
                simp -implicitDefEqProofs [hu]
                omega
            · have hzn := hz.all (R := nn) fun _ _ h => h
              have hzl := hz.len
              obtain ⟨u, hu0, hu⟩ := min_cap hzn cap
              have hadd := binD_addL zs [.int ((cap : Int) + 1)] (by simp; omega)
              simp -implicitDefEqProofs [hadd, hu, hcv, htv]
              have hw0 : (0 : Int) ≤ (if (if cv < u then u else cv) < (cap : Int) + 1 then (if cv < u then u else cv) else (cap : Int) + 1) := by
                split <;> split <;> omega
              generalize (if (if cv < u then u else cv) < (cap : Int) + 1 then (if cv < u then u else cv) else (cap : Int) + 1) = wv at hw0 ⊢
              refine Br.mkd (fun h => ?_) (fun h => ?_)
              · simp -implicitDefEqProofs [sbPut_pl hk2 hk2l]
                refine ⟨_, _, _, _, _, _, rfl, rfl, ?_, ?_⟩
                · rw [hk2.put hpn]; exact hk2.upd ⟨wv, rfl, hw0⟩
                · rw [hk2.put hpn, if_pos rfl]
                  have := hk2.sum (plsN_nodup n st) htg hw0 h hpn
                  omega
              · simp -implicitDefEqProofs
                exact ⟨_, _, _, _, _, _, rfl, rfl, hk2, hsm⟩
          · rintro e ⟨kv2, ch, s9, s12, s13, s15, rfl, hs9, hk2, hsm⟩
            unfold envW
            simp -implicitDefEqProofs
            exact ⟨_, by omega, kv2, ch, _, _, _, _, rfl, hs9, hk2, rfl⟩
  · rintro e ⟨ds, s8, s9, s10, s11, s12, s13, s14, s15, rfl, hs9, hdl, hds⟩
    rw [rangeD_len] at hdl
    unfold envW
    simp -implicitDefEqProofs
    exact ⟨ds, rfl, hdl, hds⟩
end Mp.P

/-! Mw8: the least world. -/
namespace Mp.P
open PySem
variable {c : Nat → Call}
/-! ### keys -/
def NK (n : Nat) (d : D) : Prop := nestK d = true ∧ d.depth ≤ n
theorem nestKs_of (xs : List D) (h : ∀ x ∈ xs, nestK x = true) : nestKs xs = true := by
  induction xs with
  | nil => rfl
  | cons x xs ih =>
    show (nestK x && nestKs xs) = true
    rw [h x List.mem_cons_self, ih fun y hy => h y (List.mem_cons_of_mem _ hy)]; rfl
theorem NK.tup {n : Nat} {xs : List D} (h : ∀ x ∈ xs, NK n x) : NK (n + 1) (.tuple xs) :=
  ⟨by show nestKs xs = true; exact nestKs_of xs fun x hx => (h x hx).1, by simp only [PyData.depth]; exact Nat.succ_le_succ (depthAll_of _ xs fun x hx => (h x hx).2)⟩
theorem NK.key {n : Nat} {xs : List D} (h : NK n (.tuple xs)) (hn : n ≤ 8) : tupK (.tuple xs) = true := by
  show (nestKs xs && decide (PyData.depth (.tuple xs) ≤ 8)) = true
  rw [show nestKs xs = true from h.1, decide_eq_true (Nat.le_trans h.2 hn)]; rfl
theorem NK.mono {n m : Nat} {d : D} (h : NK n d) (hn : n ≤ m) : NK m d := ⟨h.1, Nat.le_trans h.2 hn⟩
theorem NK.int (n : Nat) (i : Int) : NK n (.int i) := ⟨rfl, Nat.zero_le _⟩
theorem NK.non (n : Nat) : NK n .none := ⟨rfl, Nat.zero_le _⟩
theorem NK.bool (n : Nat) (b : Bool) : NK n (.bool b) := ⟨rfl, Nat.zero_le _⟩
theorem NK.nD (n : Nat) (b : Nat) : NK n (nD b) := ⟨rfl, Nat.zero_le _⟩
/-! ### kinds -/
def Kd (d : D) : Prop := (∃ a b : Bool, d = .tuple [.bool a, .bool b]) ∨ ∃ i : Nat, d = nD i
theorem Kd.nk {d : D} (h : Kd d) : NK 1 d := by
  rcases h with ⟨a, b, rfl⟩ | ⟨i, rfl⟩
  · refine NK.tup fun x hx => ?_
    rcases List.mem_cons.mp hx with rfl | hx
    · exact NK.bool 0 a
    · rw [List.mem_singleton.mp hx]; exact NK.bool 0 b
  · exact NK.nD 1 i
theorem Kd.nD (i : Nat) : Kd (nD i) := .inr ⟨i, rfl⟩
def Names (kvs : List (D × D)) : Prop := ∀ kv ∈ kvs, tupK kv.1 = true ∧ ∃ j : Nat, kv.2 = nD j
theorem sd_ok {kvs : List (D × D)} (h : Names kvs) (hl : kvs.length < 16777216) {k : D} (hk : tupK k = true) (v : Nat) :
    (∃ j : Nat, ∀ (e : Env) (i : Nat), sdS e i k (.int v) (.dict kvs) = some (.val (nD j), e)) ∨ (∃ kvs', Names kvs' ∧ kvs'.length ≤ kvs.length + 1 ∧ ∀ (e : Env) (i : Nat), sdS e i k (.int v) (.dict kvs) = (put e i (.dict kvs')).map fun e => (.val (nD v), e)) := by
  have hall : (kvs.all fun p => tupK p.1) = true := List.all_eq_true.mpr fun kv hk => (h kv hk).1
  have e1 : ∀ (e : Env) (i : Nat), sdS e i k (.int v) (.dict kvs) = (match dGet kvs k with
        | some x => some (.val x, e)
        | none => (put e i (.dict (dPut kvs k (nD v)))).map fun e => (.val (nD v), e)) := by
    intro e i
    show (if (tupK k && (kvs.all fun p => tupK p.1) && decide (kvs.length < 16777216)) = true then _ else none) = _
    rw [if_pos (by rw [hk, hall, decide_eq_true hl]; rfl)]; rfl
  simp only [e1]
  cases hg : dGet kvs k with
  | some x =>
    left
    obtain ⟨kv, hkv, rfl⟩ : ∃ kv, kvs.find? (fun p => PyData.eqv p.1 k) = some kv ∧ kv.2 = x := by
      unfold dGet at hg
      cases hf : kvs.find? (fun p => PyData.eqv p.1 k) with
      | none => rw [hf] at hg; cases hg
      | some kv => rw [hf] at hg; cases hg; exact ⟨kv, rfl, rfl⟩
    obtain ⟨_, j, hj⟩ := h kv (List.mem_of_find?_eq_some hkv)
    exact ⟨j, fun e i => by rw [hj]⟩
  | none =>
    right
    refine ⟨_, ?_, ?_, fun e i => rfl⟩
    · intro kv hkv
      unfold dPut at hkv
      split at hkv
      · obtain ⟨kw, hkw, rfl⟩ := List.mem_map.mp hkv
        split
        · exact ⟨(h kw hkw).1, v, rfl⟩
        · exact h kw hkw
      · rcases List.mem_append.mp hkv with hkv | hkv
        · exact h kv hkv
        · rw [List.mem_singleton.mp hkv]; exact ⟨hk, v, rfl⟩
    · unfold dPut
      split <;> simp
/-! ### spots -/
def Sp (kd : Nat → Nat) (L : Nat) : List Nat → List (D × D) → Prop := Two fun o kv => kv.1 = nD (kd o) ∧ ∃ i : Nat, kv.2 = nD i ∧ i < L
theorem Two.imp {α β : Type} {P R : α → β → Prop} {xs : List α} {ys : List β} (t : Two P xs ys) (h : ∀ x y, P x y → R x y) : Two R xs ys := by
  induction t with
  | nil => exact .nil
  | cons p t ih => exact .cons (h _ _ p) ih
theorem Sp.mono {kd : Nat → Nat} {L L' : Nat} {os : List Nat} {kvs : List (D × D)} (h : Sp kd L os kvs) (hl : L ≤ L') : Sp kd L' os kvs := Two.imp h fun o kv ⟨a, i, b, c⟩ => ⟨a, i, b, Nat.lt_of_lt_of_le c hl⟩
theorem Sp.scal {kd : Nat → Nat} {L : Nat} {os : List Nat} {kvs : List (D × D)} (h : Sp kd L os kvs) (k : Nat) : kvOk kvs (nD k) = true := by
  have : (kvs.all fun p => scalK p.1) = true := List.all_eq_true.mpr fun kv hk => by
    obtain ⟨o, _, e, _⟩ := h.right kv hk
    rw [e]; rfl
  unfold kvOk
  rw [this]; rfl
theorem Sp.has {kd : Nat → Nat} {L : Nat} {os : List Nat} {kvs : List (D × D)} (h : Sp kd L os kvs) (x : Nat) : dHas kvs (nD x) = decide (x ∈ os.map kd) := by
  induction h with
  | nil => rfl
  | @cons q kv qs kvs h t ih =>
    show (PyData.eqv kv.1 (nD x) || dHas kvs (nD x)) = _
    rw [h.1, eqv_nD, ih, ← Bool.decide_or]
    exact decide_eq_decide.mpr ⟨fun h => h.elim (fun e => e ▸ List.mem_cons_self) (List.mem_cons_of_mem _), fun h => (List.mem_cons.mp h).elim (fun e => .inl e.symm) .inr⟩
theorem Sp.get {kd : Nat → Nat} {L : Nat} {os : List Nat} {kvs : List (D × D)} (h : Sp kd L os kvs) {x : Nat} (hx : x ∈ os.map kd) : ∃ i, i < L ∧ dGet kvs (nD x) = some (nD i) := by
  induction h with
  | nil => cases hx
  | @cons q kv qs kvs h t ih =>
    unfold dGet
    rw [List.find?_cons, h.1, eqv_nD]
    by_cases e : kd q = x
    · obtain ⟨_, i, hi, hl⟩ := h
      rw [decide_eq_true e]
      exact ⟨i, hl, by rw [← hi]; rfl⟩
    · rw [decide_eq_false e]
      exact ih ((List.mem_cons.mp hx).resolve_left fun y => e y.symm)
theorem Sp.at {kd : Nat → Nat} {L : Nat} {os : List Nat} {kvs : List (D × D)} (h : Sp kd L os kvs) {x : Nat} (hx : x ∈ os.map kd) : ∃ i, i < L ∧ ixD (.dict kvs) (nD x) = some (nD i) := by
  obtain ⟨i, hi, hg⟩ := h.get hx
  refine ⟨i, hi, ?_⟩
  show (if kvOk kvs (nD x) = true then dGet kvs (nD x) else none) = _
  rw [if_pos (h.scal x), hg]
theorem Sp.new {kd : Nat → Nat} {L : Nat} {os : List Nat} {kvs : List (D × D)} (h : Sp kd L os kvs) {o : Nat} (ho : kd o ∉ os.map kd) {i : Nat} (hi : i < L) : Sp kd L (os ++ [o]) (dPut kvs (nD (kd o)) (nD i)) := by
  unfold dPut
  rw [h.has, decide_eq_false ho, if_neg (fun z => nomatch z)]
  exact Two.snoc h ⟨rfl, i, rfl, hi⟩
theorem Sp.nin {kd : Nat → Nat} {L : Nat} {os : List Nat} {kvs : List (D × D)} (h : Sp kd L os kvs) (x : Nat) : cmpD .NotIn (nD x) (.dict kvs) = some (!decide (x ∈ os.map kd)) := by
  show (if kvOk kvs (nD x) = true then some (!dHas kvs (nD x)) else none) = _
  rw [if_pos (h.scal x), h.has]
theorem Sp.put {kd : Nat → Nat} {L : Nat} {os : List Nat} {kvs : List (D × D)} (h : Sp kd L os kvs) (hl : kvs.length < 16777216) (e : Env) (i : Nat) (v : D) (x : Nat) :
    sbPut e i v (.val (nD x)) (.dict kvs) = Mp.put e i (.dict (dPut kvs (nD x) v)) := by
  show ((Mp.take e (.val (nD x))).bind fun k => if (kvOk kvs k.1 && decide (kvs.length < 16777216)) = true then Mp.put k.2 i (.dict (dPut kvs k.1 v)) else none) = _
  rw [take_v, Option.bind_some, h.scal x, decide_eq_true hl]; rfl
theorem nodup_map {kd : Nat → Nat} {os : List Nat} (h : (os.map kd).Nodup) : os.Nodup := by
  induction os with
  | nil => exact .nil
  | cons o os ih =>
    rw [List.map_cons, List.nodup_cons] at h
    exact List.nodup_cons.mpr ⟨fun hm => h.1 (List.mem_map.mpr ⟨o, hm, rfl⟩), ih h.2⟩
theorem ofAll {α : Type} {f : α → D} {Q : α → Prop} {ys : List D} (h : ∀ y ∈ ys, ∃ s, y = f s ∧ Q s) : ∃ r : List α, ys = r.map f ∧ ∀ s ∈ r, Q s := by
  induction ys with
  | nil => exact ⟨[], rfl, by simp⟩
  | cons y ys ih =>
    obtain ⟨s, rfl, hs⟩ := h y List.mem_cons_self
    obtain ⟨r, rfl, hr⟩ := ih fun z hz => h z (List.mem_cons_of_mem _ hz)
    exact ⟨s :: r, rfl, fun x hx => (List.mem_cons.mp hx).elim (fun e => e ▸ hs) (hr x)⟩
@[scoped simp] theorem scalK_nD (b : Nat) : scalK (nD b) = true := rfl
theorem flat_step (r : List (Option (Nat × Int))) : (r.map stepD).filterMap (fun x => match x with | .tuple [a, _] => some a | _ => none) = nsD (r.filterMap (Option.map (·.1))) := by
  induction r with
  | nil => rfl
  | cons o r ih =>
    cases o with
    | none => exact ih
    | some b =>
      show nD b.1 :: (r.map stepD).filterMap _ = nD b.1 :: nsD (r.filterMap (Option.map (·.1)))
      rw [ih]
/-! ### the walk -/
def lstArgs (w : Wd) : List D := [.list (w.own.map ownD), .list (w.quick.map .bool), .list (w.whose.map .int), .list (w.others.map othD), .list (w.never.map .bool), .list (w.done.map .bool), .int w.people]
def envL (w : Wd) (s7 s8 s9 s10 s11 s12 s13 s14 s15 s16 s17 s18 : Slot) : Env :=
  [.fz (.list (w.own.map ownD)), .fz (.list (w.quick.map .bool)), .fz (.list (w.whose.map .int)), .fz (.list (w.others.map othD)), .fz (.list (w.never.map .bool)), .fz (.list (w.done.map .bool)), .fz (.int w.people), s7, s8, s9, s10, s11, s12, s13, s14, s15, s16, s17, s18, .un, .un]
def okLeast (m t : Nat) (p : Bool × D × List D) : Prop := ∃ (w : Wd) (n : Nat), w.Ok n m t ∧ p = (false, w.d, [])
/-- the kinds, and where they are kept -/
def Kinds (n : Nat) (i : Nat) (s8 : Slot) : Prop := ∃ ks : List D, ((i = 0 ∧ s8 = .ow (.list ks)) ∨ (s8 = .fz (.list ks) ∧ ∃ js : List Nat, ks = nsD js)) ∧ ks.length = n ∧ ∀ k ∈ ks, Kd k
def JL1 (w : Wd) (n : Nat) (i : Nat) (e : Env) : Prop := ∃ (s7 s8 s9 s10 s11 s12 : Slot), e = envL w s7 s8 s9 s10 s11 s12 .un .un .un .un .un .un ∧ freS s7 = true ∧ Kinds n i s8
def JL2 (w : Wd) (n : Nat) (s8 s9 : Slot) (i : Nat) (e : Env) : Prop := ∃ (s7 s12 : Slot) (nkv : List (D × D)) (ls : List Nat), e = envL w s7 s8 s9 (.ow (.dict nkv)) (.ow (.list (nsD ls))) s12 .un .un .un .un .un .un ∧ freS s7 = true ∧ Names nkv ∧ nkv.length ≤ i ∧ ls.length = i
def OkS (L : Nat) (s : Option (Nat × Int)) : Prop := ∀ q, s = some q → q.1 < L ∧ 0 ≤ q.2 ∧ q.2 ≤ 9
def OkT (L : Nat) (s : Option Nat) : Prop := ∀ q, s = some q → q < L
def JL3 (w : Wd) (n m t : Nat) (kd : Nat → Nat) (s8 s9 s10 s11 s12 : Slot) (mm : Nat) (e : Env) : Prop := ∃ (os : List Nat) (skv : List (D × D)) (rws : List (List (Option (Nat × Int)))) (ths : List (List (Option Nat))) (s7 s13 s18 : Slot),
  e = envL w s7 s8 s9 s10 s11 s12 s13 (.ow (.list (nsD os))) (.ow (.dict skv)) (.ow (.list (rws.map ownD))) (.ow (.list (ths.map othD))) s18 ∧ freS s7 = true ∧ freS s13 = true ∧
  (os.map kd).Nodup ∧ (∀ o ∈ os, o < n) ∧ Sp kd os.length os skv ∧ os ≠ [] ∧ rws.length ≤ os.length ∧ ths.length = rws.length ∧
  (∀ r ∈ rws, r.length = m ∧ ∀ s ∈ r, OkS os.length s) ∧ (∀ r ∈ ths, r.length = t ∧ ∀ s ∈ r, OkT os.length s) ∧ mm = n - rws.length
def JL4 (w : Wd) (n : Nat) (kd : Nat → Nat) (s7 s8 s9 s10 s11 s12 s16 s17 s18 : Slot) (os0 : Nat) (ts : List Nat) (i : Nat) (e : Env) : Prop := ∃ (os : List Nat) (skv : List (D × D)) (s13 : Slot),
  e = envL w s7 s8 s9 s10 s11 s12 s13 (.ow (.list (nsD os))) (.ow (.dict skv)) s16 s17 s18 ∧ freS s13 = true ∧
  (os.map kd).Nodup ∧ (∀ o ∈ os, o < n) ∧ Sp kd os.length os skv ∧ os0 ≤ os.length ∧ ∀ x ∈ ts.take i, kd x ∈ os.map kd
theorem OkS.mono {L L' : Nat} {s : Option (Nat × Int)} (h : OkS L s) (hl : L ≤ L') : OkS L' s := fun q e => ⟨Nat.lt_of_lt_of_le (h q e).1 hl, (h q e).2⟩
theorem OkT.mono {L L' : Nat} {s : Option Nat} (h : OkT L s) (hl : L ≤ L') : OkT L' s := fun q e => Nat.lt_of_lt_of_le (h q e) hl
theorem s_least (H : Draws c) (k : Nat) {w : Wd} {n m t : Nat} (ok : w.Ok n m t) : W (c (k + 1) "_law_least" (lstArgs w)) (okLeast m t) := by
  have hn1 := ok.n1
  have hm1 := ok.m1
  have ht1 := ok.t1
  have hn := ok.own
  have hn6 : n < 1000000 := by omega
  have hr : rng1 (.int n) = some (rangeD 0 n) := rng1_n n hn6
  unfold lstArgs
  rw [H.r_law_least]
  unfold M_law_least
  simp -implicitDefEqProofs [hn, hr, rangeD_len]
  refine ⟨by omega, ?_⟩
  refine W_lcA (fun _ => Kd) _ _ _ _ _ _ _ (fun x hx => ?_) fun ks0 hks0 => ?_
  · obtain ⟨b, hb, rfl⟩ := rangeD_mem hx
    obtain ⟨a, ha⟩ := ok.neverAt hb
    obtain ⟨d, hd⟩ := ok.doneAt hb
    rw [lcTurn_e]
    simp -implicitDefEqProofs [ha, hd]
    exact .inl ⟨a, d, rfl⟩
  · have hkl := hks0.len
    rw [rangeD_len] at hkl
    have hka := hks0.all (R := Kd) fun _ _ h => h
    simp -implicitDefEqProofs [hn, hn6]
    refine W_for (JL1 w n) _ _ _ _ _ ⟨_, _, _, _, _, _, rfl, rfl, ks0, .inl ⟨rfl, rfl⟩, hkl, hka⟩ ?_ ?_
    · rintro i x e hx ⟨s7, s8, s9, s10, s11, s12, rfl, hs7, ks, hs8, hkl, hka⟩
      obtain ⟨hi, rfl⟩ := rangeD_at hx
      unfold envL
      simp -implicitDefEqProofs [hn, hr]
      refine W_for (JL2 w n s8 (.fz (nD i))) _ _ _ _ _ ⟨_, _, [], [], rfl, hs7, by simp [Names], by simp, by simp⟩ ?_ ?_
      · rintro j x e hx ⟨s7, s12, nkv, ls, rfl, hs7, hnm, hnl, hll⟩
        obtain ⟨hj, rfl⟩ := rangeD_at hx
        obtain ⟨r, hr, hrm, hrl⟩ := ok.ownAt hj
        obtain ⟨o, ho, hom, hol⟩ := ok.othAt hj
        have hkj : j < ks.length := by omega
        have hkd := hka _ (List.getElem_mem hkj)
        have hkj2 : ks[j]? = some ks[j] := List.getElem?_eq_getElem hkj
        unfold envL
        have hs8' : s8 = .ow (.list ks) ∨ s8 = .fz (.list ks) := hs8.elim (fun h => .inl h.2) (fun h => .inr h.1)
        rcases hs8' with rfl | rfl
        all_goals
          simp -implicitDefEqProofs [hr]
          refine ⟨by omega, ?_⟩
          refine W_lcA (fun _ => NK 2) _ _ _ _ _ _ _ (fun x hx => ?_) fun ms hms => ?_
          · obtain ⟨s, hs, rfl⟩ := List.mem_map.mp hx
            rw [lcTurn_e]
            cases s with
            | none => simp -implicitDefEqProofs [stepD]; exact NK.non 2
            | some s =>
              obtain ⟨h1, h2, h3⟩ := ok.owns r hrm s hs
              have hk1 : s.1 < ks.length := by omega
              have hkd1 := hka _ (List.getElem_mem hk1)
              simp -implicitDefEqProofs [List.getElem?_eq_getElem hk1]
              refine NK.tup fun x hx => ?_
              rcases List.mem_cons.mp hx with rfl | hx
              · exact hkd1.nk
              · rw [List.mem_singleton.mp hx]; exact NK.int 1 _
          · have hma := hms.all (R := NK 2) fun _ _ h => h
            simp -implicitDefEqProofs [ho, hkj2]
            refine ⟨by omega, ?_⟩
            refine W_lcA (fun _ => NK 1) _ _ _ _ _ _ _ (fun x hx => ?_) fun ts hts => ?_
            · obtain ⟨s, hs, rfl⟩ := List.mem_map.mp hx
              rw [lcTurn_e]
              cases s with
              | none => simp -implicitDefEqProofs [thrD]; exact NK.non 1
              | some s =>
                have h1 := ok.oths o hom s hs
                have hk1 : s < ks.length := by omega
                have hkd1 := hka _ (List.getElem_mem hk1)
                simp -implicitDefEqProofs [thrD, List.getElem?_eq_getElem hk1]
                exact hkd1.nk
            · have hta := hts.all (R := NK 1) fun _ _ h => h
              have hkey : tupK (.tuple [ks[j], .tuple ms, .tuple ts]) = true := by
                refine NK.key (n := 4) (NK.tup fun x hx => ?_) (by omega)
                rcases List.mem_cons.mp hx with rfl | hx
                · exact hkd.nk.mono (by omega)
                · rcases List.mem_cons.mp hx with rfl | hx
                  · exact NK.tup hma
                  · rw [List.mem_singleton.mp hx]
                    exact (NK.tup hta).mono (by omega)
              have hap : (nsD ls).length < 16777216 := by rw [nsD_len]; omega
              rcases sd_ok hnm (by omega) hkey nkv.length with ⟨v, h1⟩ | ⟨nkv', hn1', hn2', h1⟩
              · simp -implicitDefEqProofs [h1, apS_l _ _ _ _ hap]
                exact ⟨_, _, nkv, ls ++ [v], by rw [← nsD_app]; rfl, rfl, hnm, by omega, by simp [hll]⟩
              · simp -implicitDefEqProofs [h1, apS_l _ _ _ _ hap]
                exact ⟨_, _, nkv', ls ++ [nkv.length], by rw [← nsD_app]; rfl, rfl, hn1', by omega, by simp [hll]⟩
      · rintro e ⟨s7, s12, nkv, ls, rfl, hs7, hnm, hnl, hll⟩
        rw [rangeD_len] at hll
        unfold envL
        simp -implicitDefEqProofs
        refine ⟨_, _, _, _, _, _, rfl, hs7, nsD ls, .inr ⟨rfl, ls, rfl⟩, by simpa using hll, fun k hk => ?_⟩
        obtain ⟨b, _, rfl⟩ := mem_nsD hk
        exact Kd.nD b
    · rintro e ⟨s7, s8, s9, s10, s11, s12, rfl, hs7, ks, hs8, hkl, hka⟩
      rw [rangeD_len] at hs8
      obtain ⟨h, _⟩ | ⟨rfl, js, rfl⟩ := hs8
      · omega
      rw [nsD_len] at hkl
      obtain ⟨kd, hkde⟩ : ∃ kd : Nat → Nat, kd = fun b => js.getD b 0 := ⟨_, rfl⟩
      have hkd : ∀ b, b < n → (nsD js)[b]? = some (nD (kd b)) := by
        intro b hb
        have : b < js.length := by omega
        rw [nsD_at, hkde, List.getElem?_eq_getElem this]
        simp [List.getD, List.getElem?_eq_getElem this]
      have hn0 := ok.n0
      unfold envL
      simp -implicitDefEqProofs [hkd 0 hn0]
      refine W_while (JL3 w n m t kd (.fz (.list (nsD js))) s9 s10 s11 s12) _ _ _ 10000 n _ ⟨[0], _, [], [], _, _, _, rfl, hs7, rfl, by simp, by simpa using hn0, .cons ⟨rfl, 0, rfl, by simp⟩ .nil, by simp, by simp, rfl, by simp, by simp, rfl⟩ (by omega) ?_
      rintro mm e ⟨os, skv, rws, ths, s7, s13, s18, rfl, hs7, hs13, hnd, hos, hsp, hne, hrl, htl, hrws, hths, hmm⟩
      have hosn := nodup_le (nodup_map hnd) hos
      unfold envL
      simp -implicitDefEqProofs
      refine Br.mkd (fun h => ?_) (fun h => ?_)
      · have hoat : os[rws.length]? = some os[rws.length] := List.getElem?_eq_getElem h
        have ho := hos _ (List.getElem_mem h)
        generalize os[rws.length] = here at hoat ho
        obtain ⟨r, hr, hrm, hrl2⟩ := ok.ownAt ho
        obtain ⟨o, hot, hotm, hotl⟩ := ok.othAt ho
        simp -implicitDefEqProofs [nsD_at, hoat, hr, hot]
        refine ⟨by omega, ?_⟩
        refine W_lcF (fun x => match x with | .tuple [a, _] => some a | _ => none) _ _ _ _ _ _ _ (fun x hx => ?_) ?_
        · obtain ⟨s, hs, rfl⟩ := List.mem_map.mp hx
          rw [lcTurn_e]
          cases s with
          | none => simp -implicitDefEqProofs; rfl
          | some s => simp -implicitDefEqProofs; rfl
        · rw [flat_step]
          simp -implicitDefEqProofs [hot]
          refine ⟨by omega, ?_⟩
          refine W_lcF (fun x => if isNoneD x then none else some x) _ _ _ _ _ _ _ (fun x hx => ?_) ?_
          · obtain ⟨s, hs, rfl⟩ := List.mem_map.mp hx
            rw [lcTurn_e]
            cases s with
            | none => simp -implicitDefEqProofs
            | some s => simp -implicitDefEqProofs
          · rw [flatMap_thr]
            have hl1 : (r.filterMap (Option.map (·.1))).length ≤ 4 := Nat.le_trans (List.length_filterMap_le _ _) (by omega)
            have hl2 : (o.filterMap id).length ≤ 2 := Nat.le_trans (List.length_filterMap_le _ _) (by omega)
            have hadd := binD_addL (nsD (r.filterMap (Option.map (·.1)))) (nsD (o.filterMap id)) (by simp; omega)
            rw [nsD_app] at hadd
            have hts : ∀ x ∈ r.filterMap (Option.map (·.1)) ++ o.filterMap id, x < n := by
              intro x hx
              rcases List.mem_append.mp hx with hx | hx
              · obtain ⟨s, hs, hsx⟩ := List.mem_filterMap.mp hx
                cases s with
                | none => cases hsx
                | some s => cases hsx; exact (ok.owns r hrm s hs).1
              · obtain ⟨s, hs, hsx⟩ := List.mem_filterMap.mp hx
                cases s with
                | none => cases hsx
                | some s => cases hsx; exact ok.oths o hotm _ hs
            have hts1 : ∀ s, some s ∈ r → s.1 ∈ r.filterMap (Option.map (·.1)) ++ o.filterMap id := fun s hs => List.mem_append_left _ (List.mem_filterMap.mpr ⟨some s, hs, rfl⟩)
            have hts2 : ∀ s, some s ∈ o → s ∈ r.filterMap (Option.map (·.1)) ++ o.filterMap id := fun s hs => List.mem_append_right _ (List.mem_filterMap.mpr ⟨some s, hs, rfl⟩)
            simp -implicitDefEqProofs [hadd]
            generalize r.filterMap (Option.map (·.1)) ++ o.filterMap id = ts at hts hts1 hts2 ⊢
            refine W_for (JL4 w n kd s7 (.fz (.list (nsD js))) s9 s10 s11 s12 (.ow (.list (rws.map ownD))) (.ow (.list (ths.map othD))) (.fz (nD here)) os.length ts) _ _ _ _ _ ⟨os, skv, _, rfl, hs13, hnd, hos, hsp, Nat.le_refl _, by simp⟩ ?_ ?_
            · rintro i x e hx ⟨os2, skv2, s13, rfl, hs13, hnd2, hos2, hsp2, hle, htk⟩
              rw [nsD_at] at hx
              cases hti : ts[i]? with
              | none => rw [hti] at hx; cases hx
              | some b =>
                rw [hti] at hx
                cases hx
                have hb := hts b (List.mem_of_getElem? hti)
                have hos2n := nodup_le (nodup_map hnd2) hos2
                have hsl := hsp2.len
                unfold envL
                have hnin := hsp2.nin (kd b)
                by_cases hin : kd b ∈ os2.map kd
                · rw [decide_eq_true hin] at hnin
                  simp -implicitDefEqProofs [hkd b hb, hnin]
                  refine ⟨os2, skv2, _, rfl, rfl, hnd2, hos2, hsp2, hle, ?_⟩
                  intro x hx
                  rw [List.take_succ, hti] at hx
                  rcases List.mem_append.mp hx with hx | hx
                  · exact htk x hx
                  · rw [List.mem_singleton.mp hx]; exact hin
                · have hap : (nsD os2).length < 16777216 := by rw [nsD_len]; omega
                  rw [decide_eq_false hin] at hnin
                  simp -implicitDefEqProofs [hnin, hkd b hb, hsp2.put (by omega), apS_l _ _ _ _ hap]
                  have hnd3 : ((os2 ++ [b]).map kd).Nodup := by
                    rw [List.map_append]
                    exact List.nodup_append.mpr ⟨hnd2, by simp, fun a ha c hc e => hin (by rw [List.mem_singleton.mp hc] at e; exact e ▸ ha)⟩
                  refine ⟨os2 ++ [b], _, _, by rw [← nsD_app]; rfl, rfl, hnd3, ?_, (hsp2.mono (by simp)).new hin (by simp), by simp; omega, ?_⟩
                  · intro x hx
                    rcases List.mem_append.mp hx with hx | hx
                    · exact hos2 x hx
                    · rw [List.mem_singleton.mp hx]; exact hb
                  · intro x hx
                    rw [List.take_succ, hti] at hx
                    rw [List.map_append]
                    rcases List.mem_append.mp hx with hx | hx
                    · exact List.mem_append_left _ (htk x hx)
                    · rw [List.mem_singleton.mp hx]
                      exact List.mem_append_right _ (List.mem_singleton.mpr rfl)
            · rintro e ⟨os2, skv2, s13, rfl, hs13, hnd2, hos2, hsp2, hle, htk⟩
              rw [nsD_len, List.take_length] at htk
              have hos2n := nodup_le (nodup_map hnd2) hos2
              unfold envL
              simp -implicitDefEqProofs [hr]
              refine ⟨by omega, ?_⟩
              refine W_lcA (fun _ y => ∃ s, y = stepD s ∧ OkS os2.length s) _ _ _ _ _ _ _ (fun x hx => ?_) fun ys hys => ?_
              · obtain ⟨s, hs, rfl⟩ := List.mem_map.mp hx
                rw [lcTurn_e]
                cases s with
                | none => simp -implicitDefEqProofs [stepD]; exact ⟨none, rfl, fun q e => nomatch e⟩
                | some s =>
                  obtain ⟨h1, h2, h3⟩ := ok.owns r hrm s hs
                  obtain ⟨i, hi, hat⟩ := hsp2.at (htk _ (hts1 s hs))
                  simp -implicitDefEqProofs [hkd _ h1, hat]
                  exact ⟨some (i, s.2), rfl, fun q e => by cases e; exact ⟨hi, h2, h3⟩⟩
              · obtain ⟨r', rfl, hr'⟩ := ofAll (hys.all fun _ _ h => h)
                have hrl' := hys.len
                rw [List.length_map, List.length_map] at hrl'
                have hap : (rws.map ownD).length < 16777216 := by rw [List.length_map]; omega
                simp -implicitDefEqProofs [apS_l _ _ _ _ hap, hot, hs13]
                refine ⟨by omega, ?_⟩
                refine W_lcA (fun _ y => ∃ s, y = thrD s ∧ OkT os2.length s) _ _ _ _ _ _ _ (fun x hx => ?_) fun ys hys => ?_
                · obtain ⟨s, hs, rfl⟩ := List.mem_map.mp hx
                  rw [lcTurn_e]
                  cases s with
                  | none => simp -implicitDefEqProofs [thrD]; exact ⟨none, rfl, fun q e => nomatch e⟩
                  | some s =>
                    have h1 := ok.oths o hotm s hs
                    obtain ⟨i, hi, hat⟩ := hsp2.at (htk _ (hts2 s hs))
                    simp -implicitDefEqProofs [thrD, hkd _ h1, hat]
                    exact ⟨some i, rfl, fun q e => by cases e; exact hi⟩
                · obtain ⟨t', rfl, ht'⟩ := ofAll (hys.all fun _ _ h => h)
                  have htl' := hys.len
                  rw [List.length_map, List.length_map] at htl'
                  have hap : (ths.map othD).length < 16777216 := by rw [List.length_map]; omega
                  simp -implicitDefEqProofs [apS_l _ _ _ _ hap]
                  refine ⟨n - (rws ++ [r']).length, by rw [List.length_append, List.length_singleton]; omega, os2, skv2, rws ++ [r'], ths ++ [t'], _, _, _, by rw [List.map_append, List.map_append]; rfl, hs7, hs13, hnd2, hos2, hsp2, ?_, ?_, ?_, ?_, ?_, rfl⟩
                  · rintro rfl
                    simp at hle
                    exact hne hle
                  · simp; omega
                  · simp [htl]
                  · intro x hx
                    rcases List.mem_append.mp hx with hx | hx
                    · exact ⟨(hrws x hx).1, fun s hs => ((hrws x hx).2 s hs).mono hle⟩
                    · rw [List.mem_singleton.mp hx]
                      exact ⟨by omega, hr'⟩
                  · intro x hx
                    rcases List.mem_append.mp hx with hx | hx
                    · exact ⟨(hths x hx).1, fun s hs => ((hths x hx).2 s hs).mono hle⟩
                    · rw [List.mem_singleton.mp hx]
                      exact ⟨by omega, ht'⟩
      · have hrl3 : rws.length = os.length := by omega
        simp -implicitDefEqProofs [hs7]
        refine ⟨by omega, ?_⟩
        refine W_lcA (fun _ y => ∃ b : Bool, y = .bool b ∧ True) _ _ _ _ _ _ _ (fun x hx => ?_) fun ys hys => ?_
        · obtain ⟨b, hb, rfl⟩ := mem_nsD hx
          obtain ⟨q, hq⟩ := ok.neverAt (hos b hb)
          rw [lcTurn_e]
          simp -implicitDefEqProofs [hq]
        · obtain ⟨nv, rfl, _⟩ := ofAll (hys.all fun _ _ h => h)
          have hnvl := hys.len
          rw [List.length_map, nsD_len] at hnvl
          simp -implicitDefEqProofs [hs7]
          refine ⟨by omega, ?_⟩
          refine W_lcA (fun _ y => ∃ b : Bool, y = .bool b ∧ True) _ _ _ _ _ _ _ (fun x hx => ?_) fun ys hys => ?_
          · obtain ⟨b, hb, rfl⟩ := mem_nsD hx
            obtain ⟨q, hq⟩ := ok.doneAt (hos b hb)
            rw [lcTurn_e]
            simp -implicitDefEqProofs [hq]
          · obtain ⟨dn, rfl, _⟩ := ofAll (hys.all fun _ _ h => h)
            have hdnl := hys.len
            rw [List.length_map, nsD_len] at hdnl
            simp -implicitDefEqProofs
            refine ⟨⟨rws, w.quick, w.whose, ths, nv, dn, w.people⟩, os.length, ⟨hrl3, fun r hr => (hrws r hr).1, fun r hr s hs => (hrws r hr).2 _ hs s rfl, ok.quick, ok.whose, by rw [htl]; exact hrl3, fun r hr => (hths r hr).1, fun r hr s hs => (hths r hr).2 _ hs s rfl, hnvl, hdnl, List.length_pos_iff.mpr hne, by omega, ok.m0, ok.m1, ok.t0, ok.t1, ok.p0, ok.p1⟩, rfl⟩
end Mp.P

/-! Mw9: drawn worlds. -/
namespace Mp.P
open PySem
variable {c : Nat → Call}
/-! ### worlds written down -/
def noneR (n : Nat) : List (Option (Nat × Int)) := List.replicate n none
def payW : Wd := ⟨[[some (1, 2), none, some (2, 6)], [none, some (2, 1), none], noneR 3], [false, false, false], [0, 0, 0], [[none], [some 0], [none]], [false, false, false], [false, false, true], 1⟩
def asideW : Wd := ⟨[[none, none, some (1, 1), some (3, 9)], [some (2, 1), none, none, none], [none, some (3, 1), none, none], noneR 4], [false, false, false, false], [0, 0, 0, 0], [[none], [none], [some 1], [none]], [false, false, false, false], [false, false, false, true], 1⟩
def undoneW : Wd := ⟨[[some (1, 0), none], [none, some (2, 0)], noneR 2], [false, false], [0, 0], [[none], [some 0], [none]], [false, false, false], [false, false, true], 1⟩
def milkW : Wd := ⟨[[some (1, 0), some (3, 1), none], [none, none, some (0, 0)], noneR 3, noneR 3], [true, false, false], [0, 0, 0], [[some 2], [none], [none], [none]], [false, false, true, false], [false, false, false, true], 1⟩
theorem ok_of {w : Wd} {n m t : Nat} (h : (decide (w.own.length = n) && w.own.all (fun r => decide (r.length = m) && r.all fun s => match s with | none => true | some q => decide (q.1 < n) && decide (0 ≤ q.2) && decide (q.2 ≤ 9)) && decide (w.quick.length = m) && decide (w.whose.length = m) &&
    decide (w.others.length = n) && w.others.all (fun r => decide (r.length = t) && r.all fun s => match s with | none => true | some q => decide (q < n)) && decide (w.never.length = n) && decide (w.done.length = n) && decide (0 < n) && decide (n ≤ 6) && decide (0 < m) && decide (m ≤ 4) && decide (0 < t) && decide (t ≤ 2) && decide (1 ≤ w.people) && decide (w.people ≤ 2)) = true) : w.Ok n m t := by
  simp only [Bool.and_eq_true, decide_eq_true_eq, List.all_eq_true] at h
  obtain ⟨⟨⟨⟨⟨⟨⟨⟨⟨⟨⟨⟨⟨⟨⟨h1, h2⟩, h3⟩, h4⟩, h5⟩, h6⟩, h7⟩, h8⟩, h9⟩, h10⟩, h11⟩, h12⟩, h13⟩, h14⟩, h15⟩, h16⟩ := h
  refine ⟨h1, fun r hr => (h2 r hr).1, fun r hr s hs => ?_, h3, h4, h5, fun r hr => (h6 r hr).1, fun r hr b hb => ?_, h7, h8, h9, h10, h11, h12, h13, h14, h15, h16⟩
  · have := (h2 r hr).2 _ hs
    simp only [Bool.and_eq_true, decide_eq_true_eq] at this
    exact ⟨this.1.1, this.1.2, this.2⟩
  · have := (h6 r hr).2 _ hb
    simpa using this
theorem pay_ok : payW.Ok 3 3 1 := ok_of (by decide)
theorem aside_ok : asideW.Ok 4 4 1 := ok_of (by decide)
theorem undone_ok : undoneW.Ok 3 2 1 := ok_of (by decide)
theorem milk_ok : milkW.Ok 4 3 1 := ok_of (by decide)
theorem s_pay (H : Draws c) (k : Nat) : c (k + 1) "_law_pay" [] = some (false, payW.d, []) := by rw [H.r_law_pay]; rfl
theorem s_aside (H : Draws c) (k : Nat) : c (k + 1) "_law_aside" [] = some (false, asideW.d, []) := by rw [H.r_law_aside]; rfl
theorem s_undone (H : Draws c) (k : Nat) : c (k + 1) "_law_undone" [] = some (false, undoneW.d, []) := by rw [H.r_law_undone]; rfl
theorem s_milk (H : Draws c) (k : Nat) : c (k + 1) "_law_milk" [] = some (false, milkW.d, []) := by rw [H.r_law_milk]; rfl
/-! ### what holds no list -/
theorem pureL_of (xs : List D) (h : ∀ x ∈ xs, pureD x = true) : pureL xs = true := by
  induction xs with
  | nil => rfl
  | cons x xs ih =>
    show (pureD x && pureL xs) = true
    rw [h x List.mem_cons_self, ih fun y hy => h y (List.mem_cons_of_mem _ hy)]; rfl
theorem pure_step (s : Option (Nat × Int)) : pureD (stepD s) = true := by cases s <;> rfl
theorem pure_thr (s : Option Nat) : pureD (thrD s) = true := by cases s <;> rfl
theorem pure_own (r : List (Option (Nat × Int))) : pureD (ownD r) = true := pureL_of _ fun x hx => by
  obtain ⟨s, _, rfl⟩ := List.mem_map.mp hx; exact pure_step s
theorem pure_oth (r : List (Option Nat)) : pureD (othD r) = true := pureL_of _ fun x hx => by
  obtain ⟨s, _, rfl⟩ := List.mem_map.mp hx; exact pure_thr s
theorem pure_tm {α : Type} (f : α → D) (h : ∀ a, pureD (f a) = true) (xs : List α) : pureD (.tuple (xs.map f)) = true := pureL_of _ fun x hx => by
  obtain ⟨s, _, rfl⟩ := List.mem_map.mp hx; exact h s
theorem pure_wd (w : Wd) : pureD w.d = true := by
  unfold Wd.d
  show (pureD _ && (pureD _ && (pureD _ && (pureD _ && (pureD _ && (pureD _ && (pureD _ && true))))))) = true
  rw [pure_tm ownD pure_own, pure_tm PyData.bool (fun _ => rfl), pure_tm PyData.int (fun _ => rfl), pure_tm othD pure_oth, pure_tm PyData.bool (fun _ => rfl), pure_tm PyData.bool (fun _ => rfl)]; rfl
@[scoped simp] theorem flat_wd (w : Wd) : flatR false w.d [] = true := by
  show (pureD w.d && true) = true
  rw [pure_wd]; rfl
/-! ### blocks that draw -/
def isBox (d : D) : Prop := ∃ a b : Int, d = boxD a b
theorem isBox_i (a b : Int) : isBox (boxD a b) := ⟨a, b, rfl⟩
def tB (E : D → Env) (P : D → Prop) (p : Option D × Env) : Prop := ∃ d bx, p = (some d, E bx) ∧ isBox bx ∧ P d
theorem W_lcB (E : D → Env) (P : D → D → Prop) (own : List Nat) (tg : TgF) (ifs : List EvF) (elt : EvF) (Q) (xs : List D) (b0 : D) (h0 : isBox b0)
    (hs : ∀ x bx, x ∈ xs → isBox bx → lcTurn own tg ifs elt x (E bx) (tB E (P x))) (hq : ∀ ys bx, isBox bx → Two P xs ys → Q (ys, E bx)) : W (lcGo own tg ifs elt xs (E b0)) Q := by
  refine W_lc (fun i acc e => ∃ bx, e = E bx ∧ isBox bx ∧ Two P (xs.take i) acc) own tg ifs elt Q xs (E b0) ⟨b0, rfl, h0, .nil⟩ (fun i x acc e hx hj => ?_) fun ys e hj => ?_
  · obtain ⟨bx, rfl, hb, h1⟩ := hj
    refine lcTurn_mono (hs x bx (List.mem_of_getElem? hx) hb) ?_
    rintro _ ⟨d, bx2, rfl, hb2, hp⟩
    refine ⟨bx2, rfl, hb2, ?_⟩
    rw [List.take_succ, hx]
    exact h1.snoc hp
  · obtain ⟨bx, rfl, hb, h1⟩ := hj
    rw [List.take_length] at h1
    exact hq ys bx hb h1
theorem s_takeB (H : Draws c) (k : Nat) {bx : D} (hb : isBox bx) (m : Int) (h0 : 0 < m) (h1 : m < 1073741824) : W (c (k + 1) "_law_take" [bx, .int m]) (fun p => ∃ (r : Nat) (bx : D), isBox bx ∧ (r : Int) < m ∧ p = (false, .int r, [bx])) := by
  obtain ⟨a, b, rfl⟩ := hb
  refine (s_take H k a b m h0 h1).mono ?_
  rintro _ ⟨r, a, b, hr, rfl⟩
  exact ⟨r, _, isBox_i a b, hr, rfl⟩
theorem s_pickB (H : Draws c) (k : Nat) {bx : D} (hb : isBox bx) (xs : List D) (h0 : 0 < xs.length) (h1 : xs.length < 1073741824) : W (c (k + 2) "_law_pick" [bx, .list xs]) (fun p => ∃ (x bx : D), isBox bx ∧ x ∈ xs ∧ p = (false, x, [bx])) := by
  obtain ⟨a, b, rfl⟩ := hb
  refine (s_pick H k a b xs h0 h1).mono ?_
  rintro _ ⟨x, a, b, hx, rfl⟩
  exact ⟨x, _, isBox_i a b, hx, rfl⟩
end Mp.P

/-! Mwa: any world. -/
namespace Mp.P
open PySem
variable {c : Nat → Call}
def okAny (p : Bool × D × List D) : Prop := ∃ (w : Wd) (n m t : Nat) (bx : D), w.Ok n m t ∧ isBox bx ∧ p = (false, w.d, [bx])
def envY (bx : D) (bo n m t : Nat) (pe : Int) (s6 s7 s8 s9 s10 s11 s12 s13 s14 s15 : Slot) : Env := [.rf bx, .fz (nD bo), .fz (nD n), .fz (nD m), .fz (nD t), .fz (.int pe), s6, s7, s8, s9, s10, s11, s12, s13, s14, s15]
def JY (bo n m t : Nat) (pe : Int) (i : Nat) (e : Env) : Prop := ∃ (bx : D) (rws : List (List (Option (Nat × Int)))) (ths : List (List (Option Nat))) (s8 s9 s10 s11 : Slot), e = envY bx bo n m t pe (.ow (.list (rws.map ownD))) (.ow (.list (ths.map othD))) s8 s9 s10 s11 .un .un .un .un ∧ isBox bx ∧ freS s8 = true ∧ freS s10 = true ∧
  rws.length = i ∧ ths.length = i ∧ (∀ r ∈ rws, r.length = m ∧ ∀ s ∈ r, OkS n s) ∧ (∀ r ∈ ths, r.length = t ∧ ∀ s ∈ r, OkT n s)
def JZ (bo n m t : Nat) (pe : Int) (s6 s7 s8 : Slot) (j : Nat) (e : Env) : Prop := ∃ (bx : D) (r : List (Option (Nat × Int))) (s10 s11 : Slot), e = envY bx bo n m t pe s6 s7 s8 (.ow (.list (r.map stepD))) s10 s11 .un .un .un .un ∧ isBox bx ∧ freS s10 = true ∧ r.length = j ∧ ∀ s ∈ r, OkS n s
theorem int3 (r : Nat) : PyData.int (3 + (r : Int)) = nD (3 + r) := by unfold nD; rw [Int.natCast_add]; rfl
theorem int2 (r : Nat) : PyData.int (2 + (r : Int)) = nD (2 + r) := by unfold nD; rw [Int.natCast_add]; rfl
theorem int1 (r : Nat) : PyData.int (1 + (r : Int)) = nD (1 + r) := by unfold nD; rw [Int.natCast_add]; rfl
theorem cost_mem {x : D} (h : x ∈ [PyData.int 0, .int 1, .int 1, .int 2, .int 3, .int 4]) : ∃ v : Int, x = .int v ∧ 0 ≤ v ∧ v ≤ 9 := by
  simp only [List.mem_cons, List.not_mem_nil, or_false] at h
  rcases h with rfl | rfl | rfl | rfl | rfl | rfl
  · exact ⟨0, rfl, by decide, by decide⟩
  · exact ⟨1, rfl, by decide, by decide⟩
  · exact ⟨1, rfl, by decide, by decide⟩
  · exact ⟨2, rfl, by decide, by decide⟩
  · exact ⟨3, rfl, by decide, by decide⟩
  · exact ⟨4, rfl, by decide, by decide⟩
theorem minW (n i : Nat) (hn : 3 ≤ n) : (PyData.int (if (i : Int) + 1 < (n : Int) - 1 then (i : Int) + 1 else (n : Int) - 1)) = nD (min (n - 1) (i + 1)) := by
  unfold nD
  by_cases h : (i : Int) + 1 < (n : Int) - 1
  · rw [if_pos h, Nat.min_eq_right (by omega)]; rfl
  · rw [if_neg h, Nat.min_eq_left (by omega)]
    congr 1
    omega
def isBo (y : D) : Prop := ∃ s : Bool, y = .bool s ∧ True
def isIn (y : D) : Prop := ∃ s : Int, y = .int s ∧ True
theorem s_any (H : Draws c) (k : Nat) {bx : D} (hb : isBox bx) (bo : Nat) (h3 : 3 ≤ bo) (h6 : bo ≤ 6) : W (c (k + 3) "_law_any_world" [bx, nD bo]) okAny := by
  rw [H.r_law_any_world]
  unfold M_law_any_world
  simp -implicitDefEqProofs
  refine (s_takeB H _ hb ((bo : Int) - 2) (by omega) (by omega)).mono ?_
  rintro _ ⟨r1, bx, hb, hr1, rfl⟩
  simp -implicitDefEqProofs
  refine (s_takeB H _ hb 3 (by decide) (by decide)).mono ?_
  rintro _ ⟨r2, bx, hb, hr2, rfl⟩
  simp -implicitDefEqProofs
  refine (s_takeB H _ hb 2 (by decide) (by decide)).mono ?_
  rintro _ ⟨r3, bx, hb, hr3, rfl⟩
  simp -implicitDefEqProofs
  refine (s_takeB H _ hb 2 (by decide) (by decide)).mono ?_
  rintro _ ⟨r4, bx, hb, hr4, rfl⟩
  simp -implicitDefEqProofs
  rw [int3, int2, int1 r3]
  obtain ⟨n, hn⟩ : ∃ n, n = 3 + r1 := ⟨_, rfl⟩
  obtain ⟨m, hm⟩ : ∃ m, m = 2 + r2 := ⟨_, rfl⟩
  obtain ⟨t, ht⟩ : ∃ t, t = 1 + r3 := ⟨_, rfl⟩
  obtain ⟨pe, hpe⟩ : ∃ pe : Int, pe = 1 + (r4 : Int) := ⟨_, rfl⟩
  rw [← hn, ← hm, ← ht, ← hpe]
  have hn3 : 3 ≤ n ∧ n ≤ 6 := by omega
  have hm2 : 2 ≤ m ∧ m ≤ 4 := by omega
  have ht1 : 1 ≤ t ∧ t ≤ 2 := by omega
  have hp1 : 1 ≤ pe ∧ pe ≤ 2 := by omega
  clear hn hm ht hpe hr1 hr2 hr3 hr4
  have hn' : n < 1000000 := by omega
  have hm' : m < 1000000 := by omega
  have ht' : t < 1000000 := by omega
  simp -implicitDefEqProofs [hn']
  refine W_for (JY bo n m t pe) _ _ _ _ _ ⟨bx, [], [], _, _, _, _, rfl, hb, rfl, rfl, rfl, rfl, by simp, by simp⟩ ?_ ?_
  · rintro i x e hx ⟨bx, rws, ths, s8, s9, s10, s11, rfl, hb, hs8, hs10, hrl, htl, hrw, hth⟩
    obtain ⟨hi, rfl⟩ := rangeD_at hx
    unfold envY
    simp -implicitDefEqProofs [hm']
    refine W_for (JZ bo n m t pe (.ow (.list (rws.map ownD))) (.ow (.list (ths.map othD))) (.fz (nD i))) _ _ _ _ _ ⟨bx, [], _, _, rfl, hb, hs10, rfl, by simp⟩ ?_ ?_
    · rintro j x e hx ⟨bx, r, s10, s11, rfl, hb, hs10, hrl, hr⟩
      obtain ⟨hj, rfl⟩ := rangeD_at hx
      have hrest : ∀ (th : Nat) (bx : D), th < n → isBox bx → W (sExpr (eAppend (eVar 9) (eIf (eOr (eCmp .Eq (eCall (c (k + 2)) "_law_take" [true, false] [(eVar 0), (eC (.int 3))]) (eC (.int 0))) (eCmp .Eq (eVar 11) (eVar 8))) (eC .none) (eTup [(eVar 11), (eCall (c (k + 2)) "_law_pick" [true, false] [(eVar 0), (eLst [(eC (.int 0)), (eC (.int 1)), (eC (.int 1)), (eC (.int 2)), (eC (.int 3)), (eC (.int 4))])])])))
          (envY bx bo n m t pe (.ow (.list (rws.map ownD))) (.ow (.list (ths.map othD))) (.fz (nD i)) (.ow (.list (r.map stepD))) (.fz (nD j)) (.fz (nD th)) .un .un .un .un)) (fun p => p.1 = .nx ∧ JZ bo n m t pe (.ow (.list (rws.map ownD))) (.ow (.list (ths.map othD))) (.fz (nD i)) (j + 1) p.2) := by
        intro th bx hth hb
        have hap : (r.map stepD).length < 16777216 := by rw [List.length_map]; omega
        have fin : ∀ (s : Option (Nat × Int)) (bx : D), isBox bx → OkS n s → JZ bo n m t pe (.ow (.list (rws.map ownD))) (.ow (.list (ths.map othD))) (.fz (nD i)) (j + 1) (envY bx bo n m t pe (.ow (.list (rws.map ownD))) (.ow (.list (ths.map othD))) (.fz (nD i)) (.ow (.list (r.map stepD ++ [stepD s]))) (.fz (nD j)) (.fz (nD th)) .un .un .un .un) := by
          intro s bx hb hs
          refine ⟨bx, r ++ [s], _, _, by rw [List.map_append]; rfl, hb, rfl, by simp [hrl], fun x hx => ?_⟩
          rcases List.mem_append.mp hx with hx | hx
          · exact hr x hx
          · rw [List.mem_singleton.mp hx]; exact hs
        unfold envY at fin ⊢
        simp -implicitDefEqProofs
        refine (s_takeB H _ hb 3 (by decide) (by decide)).mono ?_
        rintro _ ⟨r5, bx, hb, hr5, rfl⟩
        simp -implicitDefEqProofs
        refine Br.mkd (fun h => ?_) (fun h => ?_)
        · simp -implicitDefEqProofs [apS_l _ _ _ _ hap]
          exact fin none bx hb (fun q e => nomatch e)
        · simp -implicitDefEqProofs
          refine Br.mkd (fun h => ?_) (fun h => ?_)
          · simp -implicitDefEqProofs [apS_l _ _ _ _ hap]
            exact fin none bx hb (fun q e => nomatch e)
          · simp -implicitDefEqProofs
            refine (s_pickB H _ hb _ (by simp) (by simp)).mono ?_
            rintro _ ⟨x, bx, hb, hx, rfl⟩
            obtain ⟨v, rfl, hv0, hv9⟩ := cost_mem hx
            simp -implicitDefEqProofs [apS_l _ _ _ _ hap]
            exact fin (some (th, v)) bx hb (fun q e => by cases e; exact ⟨hth, hv0, hv9⟩)
      unfold envY at hrest ⊢
      simp -implicitDefEqProofs
      refine (s_takeB H _ hb 3 (by decide) (by decide)).mono ?_
      rintro _ ⟨r5, bx, hb, hr5, rfl⟩
      simp -implicitDefEqProofs
      refine Br.mkd (fun h => ?_) (fun h => ?_)
      · simp -implicitDefEqProofs
        refine (s_takeB H _ hb n (by omega) (by omega)).mono ?_
        rintro _ ⟨th, bx, hb, hth, rfl⟩
        simp -implicitDefEqProofs [-W_sExpr]
        refine (hrest th bx (by omega) hb).mono ?_
        rintro ⟨f, e⟩ ⟨h1, h2⟩
        cases h1
        exact h2
      · simp -implicitDefEqProofs [-W_sExpr]
        rw [minW n i hn3.1]
        refine (hrest _ bx (by omega) hb).mono ?_
        rintro ⟨f, e⟩ ⟨h1, h2⟩
        cases h1
        exact h2
    · rintro e ⟨bx, r, s10, s11, rfl, hb, hs10, hrl2, hr⟩
      rw [rangeD_len] at hrl2
      have hap1 : (rws.map ownD).length < 16777216 := by rw [List.length_map]; omega
      have hap2 : (ths.map othD).length < 16777216 := by rw [List.length_map]; omega
      unfold envY
      simp -implicitDefEqProofs [apS_l _ _ _ _ hap1, ht', rangeD_len, hs10]
      refine ⟨by omega, ?_⟩
      refine W_lcB (fun bx => envY bx bo n m t pe (.ow (.list (rws.map ownD ++ [.tuple (r.map stepD)]))) (.ow (.list (ths.map othD))) (.fz (nD i)) (.ow (.list (r.map stepD))) s10 s11 .un .un .un .un) (fun _ y => ∃ s, y = thrD s ∧ OkT n s) _ _ _ _ _ _ bx hb (fun x bx hx hb => ?_) fun ys bx hb hys => ?_
      · rw [lcTurn_e]
        unfold envY
        simp -implicitDefEqProofs
        refine (s_takeB H _ hb 2 (by decide) (by decide)).mono ?_
        rintro _ ⟨r5, bx, hb, hr5, rfl⟩
        simp -implicitDefEqProofs
        refine Br.mkd (fun h => ?_) (fun h => ?_)
        · simp -implicitDefEqProofs
          exact ⟨_, bx, rfl, hb, none, rfl, fun q e => nomatch e⟩
        · simp -implicitDefEqProofs
          refine (s_takeB H _ hb n (by omega) (by omega)).mono ?_
          rintro _ ⟨th, bx, hb, hth, rfl⟩
          simp -implicitDefEqProofs
          exact ⟨_, bx, rfl, hb, some th, rfl, fun q e => by cases e; omega⟩
      · obtain ⟨t', rfl, ht2⟩ := ofAll (hys.all fun _ _ h => h)
        have htl2 := hys.len
        rw [List.length_map, rangeD_len] at htl2
        unfold envY
        simp -implicitDefEqProofs [apS_l _ _ _ _ hap2]
        refine ⟨bx, rws ++ [r], ths ++ [t'], _, _, _, _, by rw [List.map_append, List.map_append]; rfl, hb, rfl, hs10, by simp [hrl], by simp [htl], ?_, ?_⟩
        · intro x hx
          rcases List.mem_append.mp hx with hx | hx
          · exact hrw x hx
          · rw [List.mem_singleton.mp hx]; exact ⟨hrl2, hr⟩
        · intro x hx
          rcases List.mem_append.mp hx with hx | hx
          · exact hth x hx
          · rw [List.mem_singleton.mp hx]; exact ⟨htl2, ht2⟩
  · rintro e ⟨bx, rws, ths, s8, s9, s10, s11, rfl, hb, hs8, hs10, hrl, htl, hrw, hth⟩
    rw [rangeD_len] at hrl htl
    unfold envY
    simp -implicitDefEqProofs [hn', rangeD_len, hs8]
    refine ⟨by omega, ?_⟩
    refine W_lcB (fun bx => envY bx bo n m t pe (.ow (.list (rws.map ownD))) (.ow (.list (ths.map othD))) s8 s9 s10 s11 .un .un .un .un) (fun _ => isBo) _ _ _ _ _ _ bx hb (fun x bx hx hb => ?_) fun ys bx hb hys => ?_
    · obtain ⟨b, hbn, rfl⟩ := rangeD_mem hx
      rw [lcTurn_e]
      unfold envY
      simp -implicitDefEqProofs
      refine (s_takeB H _ hb 6 (by decide) (by decide)).mono ?_
      rintro _ ⟨r5, bx, hb, hr5, rfl⟩
      simp -implicitDefEqProofs
      refine Br.mkd (fun h => ?_) (fun h => ?_)
      · simp -implicitDefEqProofs
        refine Br.mkd (fun h => ?_) (fun h => ?_)
        · simp -implicitDefEqProofs
          exact ⟨_, bx, rfl, hb, _, rfl, trivial⟩
        · simp -implicitDefEqProofs
          exact ⟨_, bx, rfl, hb, _, rfl, trivial⟩
      · simp -implicitDefEqProofs
        exact ⟨_, bx, rfl, hb, _, rfl, trivial⟩
    · obtain ⟨nv, rfl, _⟩ := ofAll (hys.all (R := isBo) fun _ _ h => h)
      have hnvl := hys.len
      rw [List.length_map, rangeD_len] at hnvl
      unfold envY
      simp -implicitDefEqProofs [hn', rangeD_len, hs8]
      refine ⟨by omega, ?_⟩
      refine W_lcB (fun bx => envY bx bo n m t pe (.ow (.list (rws.map ownD))) (.ow (.list (ths.map othD))) s8 s9 s10 s11 (.ow (.list (nv.map .bool))) .un .un .un) (fun _ => isBo) _ _ _ _ _ _ bx hb (fun x bx hx hb => ?_) fun ys bx hb hys => ?_
      · obtain ⟨b, hbn, rfl⟩ := rangeD_mem hx
        rw [lcTurn_e]
        unfold envY
        simp -implicitDefEqProofs
        refine Br.mkd (fun h => ?_) (fun h => ?_)
        · simp -implicitDefEqProofs
          exact ⟨_, bx, rfl, hb, _, rfl, trivial⟩
        · simp -implicitDefEqProofs
          refine Br.mkd (fun h => ?_) (fun h => ?_)
          · simp -implicitDefEqProofs
            refine (s_takeB H _ hb 8 (by decide) (by decide)).mono ?_
            rintro _ ⟨r5, bx, hb, hr5, rfl⟩
            simp -implicitDefEqProofs
            exact ⟨_, bx, rfl, hb, _, rfl, trivial⟩
          · simp -implicitDefEqProofs
            exact ⟨_, bx, rfl, hb, _, rfl, trivial⟩
      · obtain ⟨dn, rfl, _⟩ := ofAll (hys.all (R := isBo) fun _ _ h => h)
        have hdnl := hys.len
        rw [List.length_map, rangeD_len] at hdnl
        unfold envY
        simp -implicitDefEqProofs [hm', rangeD_len, hs10]
        refine ⟨by omega, ?_⟩
        refine W_lcB (fun bx => envY bx bo n m t pe (.ow (.list (rws.map ownD))) (.ow (.list (ths.map othD))) s8 s9 s10 s11 (.ow (.list (nv.map .bool))) (.ow (.list (dn.map .bool))) .un .un) (fun _ => isBo) _ _ _ _ _ _ bx hb (fun x bx hx hb => ?_) fun ys bx hb hys => ?_
        · rw [lcTurn_e]
          unfold envY
          simp -implicitDefEqProofs
          refine (s_takeB H _ hb 2 (by decide) (by decide)).mono ?_
          rintro _ ⟨r5, bx, hb, hr5, rfl⟩
          simp -implicitDefEqProofs
          exact ⟨_, bx, rfl, hb, _, rfl, trivial⟩
        · obtain ⟨qs, rfl, _⟩ := ofAll (hys.all (R := isBo) fun _ _ h => h)
          have hqsl := hys.len
          rw [List.length_map, rangeD_len] at hqsl
          unfold envY
          simp -implicitDefEqProofs [hm', rangeD_len, hs10]
          refine ⟨by omega, ?_⟩
          refine W_lcB (fun bx => envY bx bo n m t pe (.ow (.list (rws.map ownD))) (.ow (.list (ths.map othD))) s8 s9 s10 s11 (.ow (.list (nv.map .bool))) (.ow (.list (dn.map .bool))) .un .un) (fun _ => isIn) _ _ _ _ _ _ bx hb (fun x bx hx hb => ?_) fun ys bx hb hys => ?_
          · rw [lcTurn_e]
            unfold envY
            simp -implicitDefEqProofs
            refine (s_takeB H _ hb pe (by omega) (by omega)).mono ?_
            rintro _ ⟨r5, bx, hb, hr5, rfl⟩
            simp -implicitDefEqProofs
            exact ⟨_, bx, rfl, hb, _, rfl, trivial⟩
          · obtain ⟨wn, rfl, _⟩ := ofAll (hys.all (R := isIn) fun _ _ h => h)
            have hwnl := hys.len
            rw [List.length_map, rangeD_len] at hwnl
            unfold envY
            have ok : (Wd.mk rws qs wn ths nv dn pe).Ok n m t := ⟨hrl, fun r hr => (hrw r hr).1, fun r hr s hs => (hrw r hr).2 _ hs s rfl, hqsl, hwnl, htl, fun r hr => (hth r hr).1, fun r hr s hs => (hth r hr).2 _ hs s rfl, hnvl, hdnl, by omega, hn3.2, by omega, hm2.2, by omega, ht1.2, hp1.1, hp1.2⟩
            have hle := s_least H (k + 1) ok
            unfold lstArgs at hle
            simp -implicitDefEqProofs
            refine hle.mono ?_
            rintro _ ⟨w, n', ok', rfl⟩
            simp -implicitDefEqProofs
            exact ⟨w, n', m, t, bx, ok', hb, rfl⟩
end Mp.P

/-! Mwb: a case. -/
namespace Mp.P
open PySem
variable {c : Nat → Call}
def TmOk (tm : Option Int) : Prop := ∀ v, tm = some v → 0 ≤ v ∧ v ≤ 2
theorem time_mem {x : D} (h : x ∈ [PyData.none, .none, .int 0, .int 1, .int 2]) : ∃ tm, x = tmD tm ∧ TmOk tm := by
  simp only [List.mem_cons, List.not_mem_nil, or_false] at h
  rcases h with rfl | rfl | rfl | rfl | rfl
  · exact ⟨none, rfl, fun v e => nomatch e⟩
  · exact ⟨none, rfl, fun v e => nomatch e⟩
  · exact ⟨some 0, rfl, fun v e => by cases e; decide⟩
  · exact ⟨some 1, rfl, fun v e => by cases e; decide⟩
  · exact ⟨some 2, rfl, fun v e => by cases e; decide⟩
theorem cmp_neD {n st : Nat} {x y : List (D × D)} (hx : Kvs TV (plsN n st) x) (hy : Kvs TV (plsN n st) y) : ∃ b : Bool, cmpD .NotEq (.dict x) (.dict y) = some b := by
  have sh : ∀ {z : List (D × D)}, Kvs TV (plsN n st) z → (z.all fun p => shaped p.2) = true := by
    intro z hz
    refine List.all_eq_true.mpr fun kv hk => ?_
    obtain ⟨p, _, _, v, e, _⟩ := hz.right kv hk
    rw [e]; exact (Fl.int (n := 0) v).shaped (by omega)
  have h1 := List.all_eq_true.mpr hx.tup
  have h2 := List.all_eq_true.mpr hy.tup
  refine ⟨!dictEq x y, ?_⟩
  show (eqX (.dict x) (.dict y)).map _ = _
  have : eqX (.dict x) (.dict y) = some (dictEq x y) := by
    show (if ((x.all fun p => tupK p.1) && (y.all fun p => tupK p.1) && (x.all fun p => shaped p.2) && (y.all fun p => shaped p.2)) = true then _ else none) = _
    rw [if_pos (by rw [h1, h2, sh hx, sh hy]; rfl)]
  rw [this]; rfl
def okCase (p : Bool × D × List D) : Prop := ∃ (w : Wd) (n m t g st : Nat) (tm : Option Int) (bx : D), w.Ok n m t ∧ 2 < n ∧ w.done[0]? = some false ∧ g ≤ 2 ∧ st ≤ 3 ∧ TmOk tm ∧ isBox bx ∧ p = (false, .tuple [w.d, nD g, nD st, tmD tm], [bx])
def JCs (bo : Nat) (e : Env) : Prop := ∃ (bx : D) (s2 s3 s4 s5 s6 s7 : Slot), e = [.rf bx, .fz (nD bo), s2, s3, s4, s5, s6, s7] ∧ isBox bx
def gotW (bo : Nat) (s2 s3 s4 s5 s6 s7 : Slot) (p : Res × Env) : Prop := ∃ (w : Wd) (n m t : Nat) (bx : D), w.Ok n m t ∧ isBox bx ∧ p = (.val w.d, [.rf bx, .fz (nD bo), s2, s3, s4, s5, s6, s7])
theorem s_case (H : Draws c) (k : Nat) {bx : D} (hb : isBox bx) (bo : Nat) (h3 : 3 ≤ bo) (h6 : bo ≤ 6) : W (c (k + 6) "_law_case" [bx, nD bo]) okCase := by
  rw [H.r_law_case]
  unfold M_law_case
  have hr6 : rng1 (.int 6) = some (rangeD 0 6) := rng1_i 6 (by decide) (by decide)
  simp -implicitDefEqProofs [hr6]
  refine W_forJ (JCs bo) _ _ _ _ _ ⟨bx, _, _, _, _, _, _, rfl, hb⟩ ?_ ?_
  · rintro x e hx ⟨bx, s2, s3, s4, s5, s6, s7, rfl, hb⟩
    obtain ⟨i, hi, rfl⟩ := rangeD_mem hx
    simp only [gNm_v, W_some, KBd_ap, List.set_cons_succ, List.set_cons_zero]
    rw [W_sSeq, W_sAsg]
    refine W.mono (P := gotW bo (.fz (nD i)) s3 s4 s5 s6 s7) ?_ ?_
    · simp -implicitDefEqProofs
      refine (s_takeB H _ hb 6 (by decide) (by decide)).mono ?_
      rintro _ ⟨r, bx, hb, hr, rfl⟩
      simp -implicitDefEqProofs
      refine Br.mkd (fun h => ?_) (fun h => ?_)
      · simp -implicitDefEqProofs [s_pay H (k + 4), s_aside H (k + 4), s_undone H (k + 4), s_milk H (k + 4)]
        refine (s_pickB H _ hb _ (by simp) (by simp)).mono ?_
        rintro _ ⟨x, bx, hb, hx, rfl⟩
        simp only [List.mem_cons, List.not_mem_nil, or_false] at hx
        simp -implicitDefEqProofs
        rcases hx with rfl | rfl | rfl | rfl
        · exact ⟨payW, 3, 3, 1, bx, pay_ok, hb, rfl⟩
        · exact ⟨asideW, 4, 4, 1, bx, aside_ok, hb, rfl⟩
        · exact ⟨undoneW, 3, 2, 1, bx, undone_ok, hb, rfl⟩
        · exact ⟨milkW, 4, 3, 1, bx, milk_ok, hb, rfl⟩
      · simp -implicitDefEqProofs
        refine (s_any H (k + 2) hb bo h3 h6).mono ?_
        rintro _ ⟨w, n, m, t, bx, ok, hb, rfl⟩
        simp -implicitDefEqProofs
        exact ⟨w, n, m, t, bx, ok, hb, rfl⟩
    · rintro _ ⟨w, n, m, t, bx, ok, hb, rfl⟩
      have hn0 := ok.n0
      obtain ⟨d0, hd0⟩ := ok.doneAt hn0
      simp -implicitDefEqProofs
      refine (s_takeB H _ hb 3 (by decide) (by decide)).mono ?_
      rintro _ ⟨g, bx, hb, hg, rfl⟩
      simp -implicitDefEqProofs
      refine (s_takeB H _ hb 4 (by decide) (by decide)).mono ?_
      rintro _ ⟨st, bx, hb, hst, rfl⟩
      simp -implicitDefEqProofs
      refine (s_pickB H _ hb _ (by simp) (by simp)).mono ?_
      rintro _ ⟨x, bx, hb, hx, rfl⟩
      obtain ⟨tm, rfl, htm⟩ := time_mem hx
      simp -implicitDefEqProofs [ok.own]
      refine Br.mkd (fun h => ?_) (fun h => ?_)
      · simp -implicitDefEqProofs [hd0]
        cases d0 with
        | true => simp -implicitDefEqProofs; exact ⟨bx, _, _, _, _, _, _, rfl, hb⟩
        | false =>
          simp -implicitDefEqProofs
          refine (s_worth H k ok g (by omega) st (by omega) tm 2 (by omega) 40 (by omega)).mono ?_
          rintro _ ⟨ds, rfl, hdl, hds⟩
          obtain ⟨d0, d1, d2, rfl⟩ : ∃ d0 d1 d2, ds = [d0, d1, d2] := by
            match ds, hdl with
            | [a, b, c], _ => exact ⟨a, b, c, rfl⟩
          obtain ⟨kv0, rfl, hk0⟩ := hds d0 (by simp)
          obtain ⟨kv2, rfl, hk2⟩ := hds d2 (by simp)
          obtain ⟨v, hv, _, _⟩ := hk0.atV (p := (0, st)) ((plsN_mem n st _).mpr ⟨hn0, Nat.le_refl _⟩)
          have hv' : ixD (.dict kv0) (.tuple [.int 0, .int st]) = some (.int v) := hv
          obtain ⟨q, hq⟩ := cmp_neD hk2 hk0
          simp -implicitDefEqProofs [hv']
          refine Br.mkd (fun h => ?_) (fun h => ?_)
          · simp -implicitDefEqProofs [hq]
            cases q with
            | true =>
              simp -implicitDefEqProofs
              exact ⟨w, n, m, t, g, st, tm, bx, ok, by omega, hd0, by omega, by omega, htm, hb, rfl⟩
            | false =>
              simp -implicitDefEqProofs
              refine (s_takeB H _ hb 4 (by decide) (by decide)).mono ?_
              rintro _ ⟨r, bx, hb, hr, rfl⟩
              simp -implicitDefEqProofs
              refine Br.mkd (fun h => ?_) (fun h => ?_)
              · simp -implicitDefEqProofs
                exact ⟨w, n, m, t, g, st, tm, bx, ok, by omega, hd0, by omega, by omega, htm, hb, rfl⟩
              · simp -implicitDefEqProofs
                exact ⟨bx, _, _, _, _, _, _, rfl, hb⟩
          · simp -implicitDefEqProofs
            exact ⟨bx, _, _, _, _, _, _, rfl, hb⟩
      · simp -implicitDefEqProofs
        exact ⟨bx, _, _, _, _, _, _, rfl, hb⟩
  · rintro e ⟨bx, s2, s3, s4, s5, s6, s7, rfl, hb⟩
    simp -implicitDefEqProofs [s_pay H (k + 4)]
    exact ⟨payW, 3, 3, 1, 0, 1, none, bx, pay_ok, by omega, rfl, by omega, by omega, (fun v e => nomatch e), hb, rfl⟩
end Mp.P

/-! Mwc: what stands, row by row. -/
namespace Mp.P
open PySem
variable {c : Nat → Call}
/-! ### words -/
@[scoped simp] theorem eq_here_here : cmpD .Eq (.str "here") (.str "here") = some true := by kernel_rfl
@[scoped simp] theorem ne_here_here : cmpD .NotEq (.str "here") (.str "here") = some false := by kernel_rfl
@[scoped simp] theorem eq_here_called : cmpD .Eq (.str "here") (.str "called") = some false := by kernel_rfl
@[scoped simp] theorem ne_here_called : cmpD .NotEq (.str "here") (.str "called") = some true := by kernel_rfl
@[scoped simp] theorem eq_here_away : cmpD .Eq (.str "here") (.str "away") = some false := by kernel_rfl
@[scoped simp] theorem ne_here_away : cmpD .NotEq (.str "here") (.str "away") = some true := by kernel_rfl
@[scoped simp] theorem eq_here_done : cmpD .Eq (.str "here") (.str "done") = some false := by kernel_rfl
@[scoped simp] theorem ne_here_done : cmpD .NotEq (.str "here") (.str "done") = some true := by kernel_rfl
@[scoped simp] theorem eq_called_here : cmpD .Eq (.str "called") (.str "here") = some false := by kernel_rfl
@[scoped simp] theorem ne_called_here : cmpD .NotEq (.str "called") (.str "here") = some true := by kernel_rfl
@[scoped simp] theorem eq_called_called : cmpD .Eq (.str "called") (.str "called") = some true := by kernel_rfl
@[scoped simp] theorem ne_called_called : cmpD .NotEq (.str "called") (.str "called") = some false := by kernel_rfl
@[scoped simp] theorem eq_called_away : cmpD .Eq (.str "called") (.str "away") = some false := by kernel_rfl
@[scoped simp] theorem ne_called_away : cmpD .NotEq (.str "called") (.str "away") = some true := by kernel_rfl
@[scoped simp] theorem eq_called_done : cmpD .Eq (.str "called") (.str "done") = some false := by kernel_rfl
@[scoped simp] theorem ne_called_done : cmpD .NotEq (.str "called") (.str "done") = some true := by kernel_rfl
@[scoped simp] theorem eq_away_here : cmpD .Eq (.str "away") (.str "here") = some false := by kernel_rfl
@[scoped simp] theorem ne_away_here : cmpD .NotEq (.str "away") (.str "here") = some true := by kernel_rfl
@[scoped simp] theorem eq_away_called : cmpD .Eq (.str "away") (.str "called") = some false := by kernel_rfl
@[scoped simp] theorem ne_away_called : cmpD .NotEq (.str "away") (.str "called") = some true := by kernel_rfl
@[scoped simp] theorem eq_away_away : cmpD .Eq (.str "away") (.str "away") = some true := by kernel_rfl
@[scoped simp] theorem ne_away_away : cmpD .NotEq (.str "away") (.str "away") = some false := by kernel_rfl
@[scoped simp] theorem eq_away_done : cmpD .Eq (.str "away") (.str "done") = some false := by kernel_rfl
@[scoped simp] theorem ne_away_done : cmpD .NotEq (.str "away") (.str "done") = some true := by kernel_rfl
@[scoped simp] theorem eq_done_here : cmpD .Eq (.str "done") (.str "here") = some false := by kernel_rfl
@[scoped simp] theorem ne_done_here : cmpD .NotEq (.str "done") (.str "here") = some true := by kernel_rfl
@[scoped simp] theorem eq_done_called : cmpD .Eq (.str "done") (.str "called") = some false := by kernel_rfl
@[scoped simp] theorem ne_done_called : cmpD .NotEq (.str "done") (.str "called") = some true := by kernel_rfl
@[scoped simp] theorem eq_done_away : cmpD .Eq (.str "done") (.str "away") = some false := by kernel_rfl
@[scoped simp] theorem ne_done_away : cmpD .NotEq (.str "done") (.str "away") = some true := by kernel_rfl
@[scoped simp] theorem eq_done_done : cmpD .Eq (.str "done") (.str "done") = some true := by kernel_rfl
@[scoped simp] theorem ne_done_done : cmpD .NotEq (.str "done") (.str "done") = some false := by kernel_rfl
@[scoped simp] theorem eq_did_did : cmpD .Eq (.str "did") (.str "did") = some true := by kernel_rfl
@[scoped simp] theorem eq_did_other : cmpD .Eq (.str "did") (.str "other") = some false := by kernel_rfl
@[scoped simp] theorem eq_did_call : cmpD .Eq (.str "did") (.str "call") = some false := by kernel_rfl
@[scoped simp] theorem eq_did_left : cmpD .Eq (.str "did") (.str "left") = some false := by kernel_rfl
@[scoped simp] theorem eq_did_came : cmpD .Eq (.str "did") (.str "came") = some false := by kernel_rfl
@[scoped simp] theorem eq_other_did : cmpD .Eq (.str "other") (.str "did") = some false := by kernel_rfl
@[scoped simp] theorem eq_other_other : cmpD .Eq (.str "other") (.str "other") = some true := by kernel_rfl
@[scoped simp] theorem eq_other_call : cmpD .Eq (.str "other") (.str "call") = some false := by kernel_rfl
@[scoped simp] theorem eq_other_left : cmpD .Eq (.str "other") (.str "left") = some false := by kernel_rfl
@[scoped simp] theorem eq_other_came : cmpD .Eq (.str "other") (.str "came") = some false := by kernel_rfl
@[scoped simp] theorem eq_call_did : cmpD .Eq (.str "call") (.str "did") = some false := by kernel_rfl
@[scoped simp] theorem eq_call_other : cmpD .Eq (.str "call") (.str "other") = some false := by kernel_rfl
@[scoped simp] theorem eq_call_call : cmpD .Eq (.str "call") (.str "call") = some true := by kernel_rfl
@[scoped simp] theorem eq_call_left : cmpD .Eq (.str "call") (.str "left") = some false := by kernel_rfl
@[scoped simp] theorem eq_call_came : cmpD .Eq (.str "call") (.str "came") = some false := by kernel_rfl
@[scoped simp] theorem eq_left_did : cmpD .Eq (.str "left") (.str "did") = some false := by kernel_rfl
@[scoped simp] theorem eq_left_other : cmpD .Eq (.str "left") (.str "other") = some false := by kernel_rfl
@[scoped simp] theorem eq_left_call : cmpD .Eq (.str "left") (.str "call") = some false := by kernel_rfl
@[scoped simp] theorem eq_left_left : cmpD .Eq (.str "left") (.str "left") = some true := by kernel_rfl
@[scoped simp] theorem eq_left_came : cmpD .Eq (.str "left") (.str "came") = some false := by kernel_rfl
@[scoped simp] theorem eq_came_did : cmpD .Eq (.str "came") (.str "did") = some false := by kernel_rfl
@[scoped simp] theorem eq_came_other : cmpD .Eq (.str "came") (.str "other") = some false := by kernel_rfl
@[scoped simp] theorem eq_came_call : cmpD .Eq (.str "came") (.str "call") = some false := by kernel_rfl
@[scoped simp] theorem eq_came_left : cmpD .Eq (.str "came") (.str "left") = some false := by kernel_rfl
@[scoped simp] theorem eq_came_came : cmpD .Eq (.str "came") (.str "came") = some true := by kernel_rfl
@[scoped simp] theorem in_did_dl : cmpD .In (.str "did") (.tuple [.str "did", .str "left"]) = some true := by kernel_rfl
@[scoped simp] theorem in_other_dl : cmpD .In (.str "other") (.tuple [.str "did", .str "left"]) = some false := by kernel_rfl
@[scoped simp] theorem in_call_dl : cmpD .In (.str "call") (.tuple [.str "did", .str "left"]) = some false := by kernel_rfl
@[scoped simp] theorem in_left_dl : cmpD .In (.str "left") (.tuple [.str "did", .str "left"]) = some true := by kernel_rfl
@[scoped simp] theorem in_came_dl : cmpD .In (.str "came") (.tuple [.str "did", .str "left"]) = some false := by kernel_rfl
@[scoped simp] theorem in_here_hc : cmpD .In (.str "here") (.tuple [.str "here", .str "called"]) = some true := by kernel_rfl
@[scoped simp] theorem in_called_hc : cmpD .In (.str "called") (.tuple [.str "here", .str "called"]) = some true := by kernel_rfl
@[scoped simp] theorem in_away_hc : cmpD .In (.str "away") (.tuple [.str "here", .str "called"]) = some false := by kernel_rfl
@[scoped simp] theorem in_done_hc : cmpD .In (.str "done") (.tuple [.str "here", .str "called"]) = some false := by kernel_rfl
inductive Kind where
  | here | called | away | done
  deriving DecidableEq
def Kind.d : Kind → D
  | .here => .str "here"
  | .called => .str "called"
  | .away => .str "away"
  | .done => .str "done"
structure St where
  kind : Kind
  board : Nat
  num : Int
  per : Option Int
def perD : Option Int → D
  | none => .none
  | some p => .int p
def stD (s : St) : D := .tuple [s.kind.d, nD s.board, .int s.num, perD s.per]
inductive Row where
  | did (d : Nat) | other (d : Nat) | call | left | came (p : Int)
def rowD : Row → D
  | .did d => .tuple [.str "did", nD d]
  | .other d => .tuple [.str "other", nD d]
  | .call => .tuple [.str "call"]
  | .left => .tuple [.str "left"]
  | .came p => .tuple [.str "came", .int p]
def Row.Ok (m t : Nat) : Row → Prop
  | .did d => d < m
  | .other d => d < t
  | _ => True
/-! ### what stands -/
def stepAt (w : Wd) (b d : Nat) : Option (Nat × Int) := ((w.own[b]?).bind fun r => r[d]?).getD none
def thrAt (w : Wd) (b d : Nat) : Option Nat := ((w.others[b]?).bind fun r => r[d]?).getD none
def isDone (w : Wd) (b : Nat) : Bool := (w.done[b]?).getD false
def goTo (w : Wd) (kd : Kind) (b : Nat) (nu : Int) (pr : Option Int) : St := if isDone w b = true then ⟨.done, b, 0, pr⟩ else ⟨kd, b, nu, pr⟩
def upNum (st : Nat) (kd : Kind) (nu : Int) : Int := if kd = .here then (if nu + 1 < (st : Int) then nu + 1 else (st : Int)) else nu + 1
def stand (w : Wd) (st : Nat) (s : St) : Row → St
  | .did d => if s.kind = .done ∨ s.kind = .away then s else match stepAt w s.board d with
    | none => s
    | some q => goTo w s.kind q.1 (upNum st s.kind s.num) s.per
  | .other d => if s.kind = .done then s else match thrAt w s.board d with
    | none => s
    | some b => if s.kind = .away then ⟨.away, b, s.num + 1, s.per⟩ else goTo w s.kind b s.num s.per
  | .call => if s.kind = .here then ⟨.called, s.board, 0, s.per⟩ else s
  | .left => if s.kind = .done ∨ s.kind = .away then s else ⟨.away, s.board, 0, s.per⟩
  | .came p => if s.kind = .away then goTo w .here s.board 0 (some p) else s
structure St.Ok (n st : Nat) (s : St) : Prop where
  b : s.board < n
  h : s.kind = .here → s.num ≤ st
def first (w : Wd) (st : Nat) : St := if isDone w 0 = true then ⟨.done, 0, 0, none⟩ else ⟨.here, 0, st, none⟩
theorem stepAt_e {w : Wd} {n m t : Nat} (ok : w.Ok n m t) {b d : Nat} (hb : b < n) (hd : d < m) : ∃ r, w.own[b]? = some r ∧ r[d]? = some (stepAt w b d) ∧ ∀ q, stepAt w b d = some q → q.1 < n := by
  obtain ⟨r, hr, hrm, hrl⟩ := ok.ownAt hb
  have hd' : d < r.length := by omega
  have e : stepAt w b d = r[d] := by unfold stepAt; rw [hr]; simp [List.getElem?_eq_getElem hd']
  refine ⟨r, hr, by rw [e, List.getElem?_eq_getElem hd'], fun q hq => ?_⟩
  rw [e] at hq
  exact (ok.owns r hrm q (hq ▸ List.getElem_mem hd')).1
theorem thrAt_e {w : Wd} {n m t : Nat} (ok : w.Ok n m t) {b d : Nat} (hb : b < n) (hd : d < t) : ∃ r, w.others[b]? = some r ∧ r[d]? = some (thrAt w b d) ∧ ∀ q, thrAt w b d = some q → q < n := by
  obtain ⟨r, hr, hrm, hrl⟩ := ok.othAt hb
  have hd' : d < r.length := by omega
  have e : thrAt w b d = r[d] := by unfold thrAt; rw [hr]; simp [List.getElem?_eq_getElem hd']
  refine ⟨r, hr, by rw [e, List.getElem?_eq_getElem hd'], fun q hq => ?_⟩
  rw [e] at hq
  exact ok.oths r hrm q (hq ▸ List.getElem_mem hd')
theorem isDone_e {w : Wd} {n m t : Nat} (ok : w.Ok n m t) {b : Nat} (hb : b < n) : w.done[b]? = some (isDone w b) := by
  obtain ⟨x, hx⟩ := ok.doneAt hb
  unfold isDone
  rw [hx]; rfl
def is (v : D) (p : Bool × D × List D) : Prop := p = (false, v, [])
theorem is_i (v : D) : is v (false, v, []) := rfl
@[scoped simp] theorem perD_n : isNoneD (perD none) = true := rfl
@[scoped simp] theorem perD_s (p : Int) : isNoneD (perD (some p)) = false := rfl
theorem s_first (H : Draws c) (k : Nat) {w : Wd} {n m t : Nat} (ok : w.Ok n m t) (st : Nat) : W (c (k + 1) "first_standing" [w.d, nD st]) (is (stD (first w st))) := by
  rw [H.r_first_standing]
  unfold M_first_standing first
  simp -implicitDefEqProofs [isDone_e ok ok.n0]
  cases isDone w 0 <;> simp -implicitDefEqProofs <;> exact is_i _
theorem s_came (H : Draws c) (k : Nat) {w : Wd} {n m t : Nat} (ok : w.Ok n m t) (kd : Kind) (b : Nat) (hb : b < n) (nu : Int) (pr : Option Int) : W (c (k + 1) "came_to" [w.d, kd.d, nD b, .int nu, perD pr]) (is (stD (goTo w kd b nu pr))) := by
  rw [H.r_came_to]
  unfold M_came_to goTo
  simp -implicitDefEqProofs [isDone_e ok hb]
  cases isDone w b <;> simp -implicitDefEqProofs <;> exact is_i _
theorem s_did (H : Draws c) (k : Nat) {w : Wd} {n m t : Nat} (ok : w.Ok n m t) (st : Nat) (s : St) (hs : s.Ok n st) (hd0 : s.kind ≠ .done) (d : Nat) (hd : d < m) : W (c (k + 2) "did" [w.d, nD st, stD s, nD d]) (is (stD (stand w st s (.did d)))) := by
  obtain ⟨r, hr, hrd, hq⟩ := stepAt_e ok hs.b hd
  rw [H.r_did]
  unfold M_did stand
  rcases s with ⟨kd, b, nu, pr⟩
  simp only at hr hrd hq hd0 ⊢
  generalize stepAt w b d = so at hrd hq ⊢
  unfold stD
  simp -implicitDefEqProofs [hr, hrd]
  cases so with
  | none => simp -implicitDefEqProofs; exact is_i _
  | some q =>
    simp -implicitDefEqProofs
    cases kd with
    | here =>
      simp -implicitDefEqProofs [Kind.d]
      refine (s_came H k ok .here q.1 (hq q rfl) _ pr).mono ?_
      rintro _ rfl
      simp -implicitDefEqProofs
      exact is_i _
    | called =>
      simp -implicitDefEqProofs [Kind.d]
      refine (s_came H k ok .called q.1 (hq q rfl) _ pr).mono ?_
      rintro _ rfl
      simp -implicitDefEqProofs
      exact is_i _
    | away => simp -implicitDefEqProofs [Kind.d]; exact is_i _
    | done => exact absurd rfl hd0
theorem s_otherd (H : Draws c) (k : Nat) {w : Wd} {n m t : Nat} (ok : w.Ok n m t) (st : Nat) (s : St) (hs : s.Ok n st) (hd0 : s.kind ≠ .done) (d : Nat) (hd : d < t) : W (c (k + 2) "other_did" [w.d, stD s, nD d]) (is (stD (stand w st s (.other d)))) := by
  obtain ⟨r, hr, hrd, hq⟩ := thrAt_e ok hs.b hd
  rw [H.r_other_did]
  unfold M_other_did stand
  rcases s with ⟨kd, b, nu, pr⟩
  simp only at hr hrd hq hd0 ⊢
  generalize thrAt w b d = so at hrd hq ⊢
  unfold stD
  simp -implicitDefEqProofs [hr, hrd]
  cases so with
  | none => simp -implicitDefEqProofs [hd0]; exact is_i _
  | some q =>
    simp -implicitDefEqProofs
    cases kd with
    | here =>
      simp -implicitDefEqProofs [Kind.d, thrD]
      refine (s_came H k ok .here q (hq q rfl) _ pr).mono ?_
      rintro _ rfl
      simp -implicitDefEqProofs
      exact is_i _
    | called =>
      simp -implicitDefEqProofs [Kind.d, thrD]
      refine (s_came H k ok .called q (hq q rfl) _ pr).mono ?_
      rintro _ rfl
      simp -implicitDefEqProofs
      exact is_i _
    | away => simp -implicitDefEqProofs [Kind.d, thrD]; exact is_i _
    | done => exact absurd rfl hd0
end Mp.P

/-! Mwd: standings, by the program and by the law. -/
namespace Mp.P
open PySem
variable {c : Nat → Call}
theorem goTo_ok {w : Wd} {n st : Nat} {kd : Kind} {b : Nat} {nu : Int} {pr : Option Int} (hb : b < n) (h : kd = .here → nu ≤ st) : (goTo w kd b nu pr).Ok n st := by
  unfold goTo
  split
  · exact ⟨hb, fun e => nomatch e⟩
  · exact ⟨hb, h⟩
theorem upNum_le (st : Nat) (kd : Kind) (nu : Int) (h : kd = .here) : upNum st kd nu ≤ st := by
  unfold upNum
  rw [if_pos h]
  split <;> omega
theorem stand_ok {w : Wd} {n m t : Nat} (ok : w.Ok n m t) {st : Nat} {s : St} (hs : s.Ok n st) {r : Row} (hr : r.Ok m t) : (stand w st s r).Ok n st := by
  unfold stand
  cases r with
  | did d =>
    obtain ⟨_, _, _, hq⟩ := stepAt_e ok hs.b hr
    simp only
    split
    · exact hs
    · cases hso : stepAt w s.board d with
      | none => exact hs
      | some q => exact goTo_ok (hq q hso) fun h => upNum_le st _ _ h
  | other d =>
    obtain ⟨_, _, _, hq⟩ := thrAt_e ok hs.b hr
    simp only
    split
    · exact hs
    · cases hso : thrAt w s.board d with
      | none => exact hs
      | some q =>
        simp only
        split
        · exact ⟨hq q hso, fun e => nomatch e⟩
        · exact goTo_ok (hq q hso) hs.h
  | call =>
    simp only
    split
    · exact ⟨hs.b, fun e => nomatch e⟩
    · exact hs
  | left =>
    simp only
    split
    · exact hs
    · exact ⟨hs.b, fun e => nomatch e⟩
  | came p =>
    simp only
    split
    · exact goTo_ok hs.b fun _ => by omega
    · exact hs
theorem first_ok {w : Wd} {n m t : Nat} (ok : w.Ok n m t) (st : Nat) : (first w st).Ok n st := by
  unfold first
  split
  · exact ⟨ok.n0, fun e => nomatch e⟩
  · exact ⟨ok.n0, fun _ => Int.le_refl _⟩
theorem s_row (H : Draws c) (k : Nat) {w : Wd} {n m t : Nat} (ok : w.Ok n m t) (st : Nat) (s : St) (hs : s.Ok n st) (r : Row) (hr : r.Ok m t) : W (c (k + 3) "behind_row" [w.d, nD st, stD s, rowD r]) (is (stD (stand w st s r))) := by
  rw [H.r_behind_row]
  unfold M_behind_row
  by_cases hd : s.kind = .done
  · have e : stand w st s r = s := by
      unfold stand
      cases r <;> simp [hd]
    rw [e]
    rcases s with ⟨kd, b, nu, pr⟩
    simp only at hd
    subst hd
    unfold stD
    simp -implicitDefEqProofs [Kind.d]
    exact is_i _
  · have hD : W (cmpD .Eq s.kind.d (.str "done")) (fun q => q = false) := by
      rcases s with ⟨kd, b, nu, pr⟩
      cases kd <;> simp -implicitDefEqProofs [Kind.d] <;> exact absurd rfl hd
    obtain ⟨_, hD, rfl⟩ := hD
    cases r with
    | did d =>
      unfold stD rowD
      simp -implicitDefEqProofs [hD]
      refine (s_did H k ok st s hs hd d hr).mono ?_
      rintro _ rfl
      simp -implicitDefEqProofs
      exact is_i _
    | other d =>
      unfold stD rowD
      simp -implicitDefEqProofs [hD]
      refine (s_otherd H k ok st s hs hd d hr).mono ?_
      rintro _ rfl
      simp -implicitDefEqProofs
      exact is_i _
    | call =>
      rcases s with ⟨kd, b, nu, pr⟩
      unfold stD rowD stand
      simp only at hD hd
      cases kd <;> simp -implicitDefEqProofs [Kind.d, hD] <;> first | exact is_i _ | exact absurd rfl hd
    | left =>
      rcases s with ⟨kd, b, nu, pr⟩
      unfold stD rowD stand
      simp only at hD hd
      cases kd <;> simp -implicitDefEqProofs [Kind.d, hD] <;> first | exact is_i _ | exact absurd rfl hd
    | came p =>
      rcases s with ⟨kd, b, nu, pr⟩
      unfold stD rowD stand
      simp only at hD hd
      cases kd with
      | here => simp -implicitDefEqProofs [Kind.d]; exact is_i _
      | called => simp -implicitDefEqProofs [Kind.d]; exact is_i _
      | done => exact absurd rfl hd
      | away =>
        simp -implicitDefEqProofs [Kind.d]
        refine (s_came H (k + 1) ok .here b hs.b 0 (some p)).mono ?_
        rintro _ rfl
        simp -implicitDefEqProofs
        exact is_i _
/-! ### along a log -/
def scan (w : Wd) (st : Nat) : St → List Row → List St
  | s, [] => [s]
  | s, r :: rs => s :: scan w st (stand w st s r) rs
def runR (w : Wd) (st : Nat) (s : St) (rs : List Row) : St := rs.foldl (stand w st) s
theorem scan_snoc (w : Wd) (st : Nat) (s : St) (rs : List Row) (r : Row) : scan w st s (rs ++ [r]) = scan w st s rs ++ [stand w st (runR w st s rs) r] := by
  induction rs generalizing s with
  | nil => rfl
  | cons x rs ih =>
    show s :: scan w st (stand w st s x) (rs ++ [r]) = _
    rw [ih]; rfl
theorem scan_last (w : Wd) (st : Nat) (s : St) (rs : List Row) : ∃ pre, scan w st s rs = pre ++ [runR w st s rs] := by
  induction rs generalizing s with
  | nil => exact ⟨[], rfl⟩
  | cons x rs ih =>
    obtain ⟨pre, h⟩ := ih (stand w st s x)
    exact ⟨s :: pre, by show s :: scan w st (stand w st s x) rs = _; rw [h]; rfl⟩
theorem scan_len (w : Wd) (st : Nat) (s : St) (rs : List Row) : (scan w st s rs).length = rs.length + 1 := by
  induction rs generalizing s with
  | nil => rfl
  | cons x rs ih => show (scan w st (stand w st s x) rs).length + 1 = _; rw [ih]; rfl
theorem runR_ok {w : Wd} {n m t : Nat} (ok : w.Ok n m t) {st : Nat} {s : St} (hs : s.Ok n st) {rs : List Row} (hr : ∀ r ∈ rs, r.Ok m t) : (runR w st s rs).Ok n st := by
  induction rs generalizing s with
  | nil => exact hs
  | cons x rs ih => exact ih (stand_ok ok hs (hr x List.mem_cons_self)) fun r h => hr r (List.mem_cons_of_mem _ h)
theorem runR_snoc (w : Wd) (st : Nat) (s : St) (rs : List Row) (r : Row) : runR w st s (rs ++ [r]) = stand w st (runR w st s rs) r := by
  unfold runR; rw [List.foldl_append]; rfl
def stands (w : Wd) (st : Nat) (rs : List Row) : List St := scan w st (first w st) rs
@[scoped simp] theorem atI_neg1 (xs : List D) (v : D) : L2.atI (xs ++ [v]) (-1) = some v := L2.atI_last xs v
@[scoped simp] theorem atI_neg1o (v : D) : L2.atI [v] (-1) = some v := L2.atI_last [] v
def JSt (w : Wd) (st : Nat) (log : D) (s0 : St) (rs : List Row) (i : Nat) (e : Env) : Prop := ∃ s4 : Slot, e = [.fz w.d, .fz (nD st), log |> .fz, .ow (.list ((scan w st s0 (rs.take i)).map stD)), s4]
theorem s_standings (H : Draws c) (k : Nat) {w : Wd} {n m t : Nat} (ok : w.Ok n m t) (st : Nat) (rs : List Row) (hr : ∀ r ∈ rs, r.Ok m t) (hl : rs.length ≤ 1000) : W (c (k + 4) "standings" [w.d, nD st, .tuple (rs.map rowD)]) (is (.tuple ((stands w st rs).map stD))) := by
  rw [H.r_standings]
  unfold M_standings
  simp -implicitDefEqProofs
  refine (s_first H (k + 2) ok st).mono ?_
  rintro _ rfl
  simp -implicitDefEqProofs
  refine W_for (JSt w st (.tuple (rs.map rowD)) (first w st) rs) _ _ _ _ _ ⟨_, rfl⟩ ?_ ?_
  · rintro i x e hx ⟨s4, rfl⟩
    rw [List.getElem?_map] at hx
    cases hri : rs[i]? with
    | none => rw [hri] at hx; cases hx
    | some r =>
      rw [hri] at hx
      cases hx
      obtain ⟨pre, hpre⟩ := scan_last w st (first w st) (rs.take i)
      have hrun := runR_ok ok (first_ok ok st) (rs := rs.take i) fun r hm => hr r (List.mem_of_mem_take hm)
      have hsl := scan_len w st (first w st) (rs.take i)
      have hrow := s_row H k ok st _ hrun r (hr r (List.mem_of_getElem? hri))
      have hi : i < rs.length := (List.getElem?_eq_some_iff.mp hri).1
      have hsn := scan_snoc w st (first w st) (rs.take i) r
      have htk : rs.take (i + 1) = rs.take i ++ [r] := by rw [List.take_succ, hri]; rfl
      rw [hpre] at hsl hsn ⊢
      rw [List.length_take, List.length_append, List.length_singleton] at hsl
      simp -implicitDefEqProofs
      refine hrow.mono ?_
      rintro _ rfl
      have hap : (pre.map stD ++ [stD (runR w st (first w st) (rs.take i))]).length < 16777216 := by simp; omega
      simp -implicitDefEqProofs [apS_l _ _ _ _ hap]
      refine ⟨.fz (rowD r), ?_⟩
      rw [htk, hsn]; try simp; try rfl
  · rintro e ⟨s4, rfl⟩
    rw [List.length_map, List.take_length]
    simp -implicitDefEqProofs
    exact is_i _
theorem up_e (st : Nat) (nu : Int) : (if (st : Int) < nu + 1 then (st : Int) else nu + 1) = upNum st .here nu := by
  unfold upNum
  rw [if_pos rfl]
  by_cases h : (st : Int) < nu + 1
  · rw [if_pos h]
    by_cases h2 : nu + 1 < (st : Int)
    · omega
    · rw [if_neg h2]
  · rw [if_neg h]
    by_cases h2 : nu + 1 < (st : Int)
    · rw [if_pos h2]
    · rw [if_neg h2]; omega
theorem same_e (st : Nat) (nu : Int) (h : nu ≤ st) : (if (st : Int) < nu then (st : Int) else nu) = nu := if_neg (by omega)
theorem s_lstand (H : Draws c) (k : Nat) {w : Wd} {n m t : Nat} (ok : w.Ok n m t) (st : Nat) (s : St) (hs : s.Ok n st) (r : Row) (hr : r.Ok m t) : W (c (k + 1) "_law_stand" [w.d, nD st, stD s, rowD r]) (is (stD (stand w st s r))) := by
  rw [H.r_law_stand]
  unfold M_law_stand
  rcases s with ⟨kd, b, nu, pr⟩
  have hb := hs.b
  have hn := hs.h
  simp only at hb hn
  cases r with
  | did d =>
    obtain ⟨r, hr, hrd, hq⟩ := stepAt_e ok hb hr
    unfold stD rowD stand goTo
    simp only
    generalize stepAt w b d = so at hrd hq ⊢
    cases kd with
    | done => simp -implicitDefEqProofs [Kind.d]; exact is_i _
    | away => simp -implicitDefEqProofs [Kind.d]; exact is_i _
    | here =>
      simp -implicitDefEqProofs [Kind.d, hr, hrd]
      cases so with
      | none => simp -implicitDefEqProofs; exact is_i _
      | some q =>
        simp -implicitDefEqProofs [hr, hrd, isDone_e ok (hq q rfl), up_e]
        cases isDone w q.1 <;> simp -implicitDefEqProofs <;> exact is_i _
    | called =>
      simp -implicitDefEqProofs [Kind.d, hr, hrd]
      cases so with
      | none => simp -implicitDefEqProofs; exact is_i _
      | some q =>
        simp -implicitDefEqProofs [hr, hrd, isDone_e ok (hq q rfl)]
        cases isDone w q.1 <;> simp -implicitDefEqProofs <;> exact is_i _
  | other d =>
    obtain ⟨r, hr, hrd, hq⟩ := thrAt_e ok hb hr
    unfold stD rowD stand goTo
    simp only
    generalize thrAt w b d = so at hrd hq ⊢
    cases kd with
    | done => simp -implicitDefEqProofs [Kind.d]; exact is_i _
    | away =>
      simp -implicitDefEqProofs [Kind.d, hr, hrd]
      cases so with
      | none => simp -implicitDefEqProofs; exact is_i _
      | some q => simp -implicitDefEqProofs [thrD]; exact is_i _
    | here =>
      simp -implicitDefEqProofs [Kind.d, hr, hrd]
      cases so with
      | none => simp -implicitDefEqProofs; exact is_i _
      | some q =>
        simp -implicitDefEqProofs [thrD, isDone_e ok (hq q rfl), same_e st nu (hn rfl)]
        cases isDone w q <;> simp -implicitDefEqProofs <;> exact is_i _
    | called =>
      simp -implicitDefEqProofs [Kind.d, hr, hrd]
      cases so with
      | none => simp -implicitDefEqProofs; exact is_i _
      | some q =>
        simp -implicitDefEqProofs [thrD, isDone_e ok (hq q rfl)]
        cases isDone w q <;> simp -implicitDefEqProofs <;> exact is_i _
  | call =>
    unfold stD rowD stand
    cases kd <;> simp -implicitDefEqProofs [Kind.d] <;> exact is_i _
  | left =>
    unfold stD rowD stand
    cases kd <;> simp -implicitDefEqProofs [Kind.d] <;> exact is_i _
  | came p =>
    unfold stD rowD stand goTo
    cases kd with
    | done => simp -implicitDefEqProofs [Kind.d]; exact is_i _
    | here => simp -implicitDefEqProofs [Kind.d]; exact is_i _
    | called => simp -implicitDefEqProofs [Kind.d]; exact is_i _
    | away =>
      simp -implicitDefEqProofs [Kind.d, isDone_e ok hb]
      cases isDone w b <;> simp -implicitDefEqProofs <;> exact is_i _
def isNew (v : D) (p : Bool × D × List D) : Prop := p = (true, v, [])
theorem isNew_i (v : D) : isNew v (true, v, []) := rfl
theorem s_lstands (H : Draws c) (k : Nat) {w : Wd} {n m t : Nat} (ok : w.Ok n m t) (st : Nat) (rs : List Row) (hr : ∀ r ∈ rs, r.Ok m t) (hl : rs.length ≤ 1000) : W (c (k + 2) "_law_stands" [w.d, nD st, .tuple (rs.map rowD)]) (isNew (.list ((stands w st rs).map stD))) := by
  rw [H.r_law_stands]
  unfold M_law_stands
  have hgo : ∀ (f : D), f = stD (first w st) → W (forGo (gNm 4) (sExpr (eAppend (eVar 3) (eCall (c (k + 1)) "_law_stand" [false, false, false, false] [(eVar 0), (eVar 1), (eIx (eVar 3) (eNeg (eC (.int 1)))), (eVar 4)]))) (rs.map rowD) [.fz w.d, .fz (nD st), .fz (.tuple (rs.map rowD)), .ow (.list [f]), .un]) (fun p => p.1 = .nx ∧ JSt w st (.tuple (rs.map rowD)) (first w st) rs rs.length p.2) := by
    rintro _ rfl
    refine W_for (JSt w st (.tuple (rs.map rowD)) (first w st) rs) _ _ _ _ _ ⟨_, rfl⟩ ?_ ?_
    · rintro i x e hx ⟨s4, rfl⟩
      rw [List.getElem?_map] at hx
      cases hri : rs[i]? with
      | none => rw [hri] at hx; cases hx
      | some r =>
        rw [hri] at hx
        cases hx
        obtain ⟨pre, hpre⟩ := scan_last w st (first w st) (rs.take i)
        have hrun := runR_ok ok (first_ok ok st) (rs := rs.take i) fun r hm => hr r (List.mem_of_mem_take hm)
        have hsl := scan_len w st (first w st) (rs.take i)
        have hrow := s_lstand H k ok st _ hrun r (hr r (List.mem_of_getElem? hri))
        have hi : i < rs.length := (List.getElem?_eq_some_iff.mp hri).1
        have hsn := scan_snoc w st (first w st) (rs.take i) r
        have htk : rs.take (i + 1) = rs.take i ++ [r] := by rw [List.take_succ, hri]; rfl
        rw [hpre] at hsl hsn ⊢
        rw [List.length_take, List.length_append, List.length_singleton] at hsl
        simp -implicitDefEqProofs
        refine hrow.mono ?_
        rintro _ rfl
        have hap : (pre.map stD ++ [stD (runR w st (first w st) (rs.take i))]).length < 16777216 := by simp; omega
        simp -implicitDefEqProofs [apS_l _ _ _ _ hap]
        refine ⟨.fz (rowD r), ?_⟩
        rw [htk, hsn]; try simp; try rfl
    · rintro e he
      rw [List.length_map] at he
      exact ⟨rfl, he⟩
  have hfin : ∀ e, JSt w st (.tuple (rs.map rowD)) (first w st) rs rs.length e → W (sRet (eVar 3) e) (KRn [false, false, false] (isNew (.list ((stands w st rs).map stD)))) := by
    rintro e ⟨s4, rfl⟩
    rw [List.take_length]
    simp -implicitDefEqProofs
    exact isNew_i _
  simp -implicitDefEqProofs [isDone_e ok ok.n0]
  unfold first at hgo
  cases hdn : isDone w 0 with
  | true =>
    rw [hdn] at hgo
    simp -implicitDefEqProofs
    refine (hgo _ rfl).mono ?_
    rintro ⟨f, e⟩ ⟨h1, h2⟩
    cases h1
    simp -implicitDefEqProofs
    have := hfin e (by unfold first; rw [hdn]; exact h2)
    simpa using this
  | false =>
    rw [hdn] at hgo
    simp -implicitDefEqProofs
    refine (hgo _ rfl).mono ?_
    rintro ⟨f, e⟩ ⟨h1, h2⟩
    cases h1
    simp -implicitDefEqProofs
    have := hfin e (by unfold first; rw [hdn]; exact h2)
    simpa using this
end Mp.P

/-! Mwe: values that are the same; drawn logs. -/
namespace Mp.P
open PySem
variable {c : Nat → Call}
/-! ### the same -/
@[scoped simp] theorem in_tt (xs : List D) : isInst (.tuple xs) "tuple" = some true := by kernel_rfl
@[scoped simp] theorem in_nt : isInst .none "tuple" = some false := by kernel_rfl
@[scoped simp] theorem in_bt (b : Bool) : isInst (.bool b) "tuple" = some false := by kernel_rfl
@[scoped simp] theorem in_it (b : Int) : isInst (.int b) "tuple" = some false := by kernel_rfl
@[scoped simp] theorem in_st (b : Str) : isInst (.str b) "tuple" = some false := by kernel_rfl
@[scoped simp] theorem in_bb (b : Bool) : isInst (.bool b) "bool" = some true := by kernel_rfl
@[scoped simp] theorem in_ib (b : Int) : isInst (.int b) "bool" = some false := by kernel_rfl
@[scoped simp] theorem in_ii (b : Int) : isInst (.int b) "int" = some true := by kernel_rfl
@[scoped simp] theorem in_si (b : Str) : isInst (.str b) "int" = some false := by kernel_rfl
@[scoped simp] theorem in_ss (b : Str) : isInst (.str b) "str" = some true := by kernel_rfl
@[scoped simp] theorem is_bb (a b : Bool) : cmpD .Is (.bool a) (.bool b) = some (a == b) := rfl
@[scoped simp] theorem is_ib (a : Int) (b : Bool) : cmpD .Is (.int a) (.bool b) = some false := rfl
@[scoped simp] theorem is_sb (a : Str) (b : Bool) : cmpD .Is (.str a) (.bool b) = some false := rfl
theorem cmp_eqS (s : Str) (h : PyData.strOk s = true) : cmpD .Eq (.str s) (.str s) = some true := by
  show eqX (.str s) (.str s) = _
  have e : eqX (.str s) (.str s) = eqD (.str s) (.str s) := rfl
  rw [e]
  unfold eqD
  rw [(Fl.str (n := 0) s h).shaped (by omega)]
  simp [PyData.eqv]
inductive Sm : Nat → D → Prop
  | non {n} : Sm n .none
  | bool {n} (b : Bool) : Sm n (.bool b)
  | int {n} (i : Int) : Sm n (.int i)
  | str {n} (s : Str) (h : PyData.strOk s = true) : Sm n (.str s)
  | tup {n} (xs : List D) (h : ∀ x ∈ xs, Sm n x) : Sm (n + 1) (.tuple xs)
theorem zip_self {xs : List D} {y : D} (h : y ∈ zipD xs xs) : ∃ x, x ∈ xs ∧ y = .tuple [x, x] := by
  induction xs with
  | nil => cases h
  | cons x xs ih =>
    rcases List.mem_cons.mp h with rfl | h
    · exact ⟨x, List.mem_cons_self, rfl⟩
    · obtain ⟨z, hz, e⟩ := ih h
      exact ⟨z, List.mem_cons_of_mem _ hz, e⟩
def JSm (v : D) (e : Env) : Prop := ∃ s2 s3 : Slot, e = [.fz v, .fz v, s2, s3]
theorem s_same (H : Draws c) {n : Nat} {x : D} (hx : Sm n x) : ∀ k, W (c (k + n + 1) "_law_same" [x, x]) (is (.bool true)) := by
  induction hx with
  | non =>
    intro k
    rw [H.r_law_same]
    unfold M_law_same
    simp -implicitDefEqProofs
    exact is_i _
  | bool b =>
    intro k
    rw [H.r_law_same]
    unfold M_law_same
    cases b <;> simp -implicitDefEqProofs <;> exact is_i _
  | int i =>
    intro k
    rw [H.r_law_same]
    unfold M_law_same
    simp -implicitDefEqProofs
    exact is_i _
  | str s h =>
    intro k
    rw [H.r_law_same]
    unfold M_law_same
    simp -implicitDefEqProofs [cmp_eqS s h]
    exact is_i _
  | @tup n xs h ih =>
    intro k
    rw [H.r_law_same]
    unfold M_law_same
    simp -implicitDefEqProofs
    refine W_forJ (JSm (.tuple xs)) _ _ _ _ _ ⟨_, _, rfl⟩ ?_ ?_
    · rintro y e hy ⟨s2, s3, rfl⟩
      obtain ⟨x, hx, rfl⟩ := zip_self hy
      simp -implicitDefEqProofs
      refine (ih x hx k).mono ?_
      rintro _ rfl
      simp -implicitDefEqProofs
      exact ⟨_, _, rfl⟩
    · rintro e ⟨s2, s3, rfl⟩
      simp -implicitDefEqProofs
      exact is_i _
/-! ### what is wrong -/
def isStr (y : D) : Prop := ∃ s : Str, y = .str s ∧ PyData.strOk s = true
theorem shaped_strs {ys : List D} (h : ∀ y ∈ ys, isStr y) : Mp.shaped (.list ys) = true := (Fl.lst (n := 0) ys fun y hy => by obtain ⟨s, rfl, hs⟩ := h y hy; exact .str s hs).shaped (by omega)
@[scoped simp] theorem str_over : isStr (.str "over") := ⟨_, rfl, by kernel_rfl⟩
@[scoped simp] theorem str_out : isStr (.str "out") := ⟨_, rfl, by kernel_rfl⟩
@[scoped simp] theorem str_early : isStr (.str "early") := ⟨_, rfl, by kernel_rfl⟩
@[scoped simp] theorem str_left : isStr (.str "left") := ⟨_, rfl, by kernel_rfl⟩
@[scoped simp] theorem str_cant : isStr (.str "cant") := ⟨_, rfl, by kernel_rfl⟩
@[scoped simp] theorem str_there : isStr (.str "there") := ⟨_, rfl, by kernel_rfl⟩
@[scoped simp] theorem str_many : isStr (.str "many") := ⟨_, rfl, by kernel_rfl⟩
@[scoped simp] theorem str_hands : isStr (.str "hands") := ⟨_, rfl, by kernel_rfl⟩
@[scoped simp] theorem str_slow : isStr (.str "slow") := ⟨_, rfl, by kernel_rfl⟩
@[scoped simp] theorem str_late : isStr (.str "late") := ⟨_, rfl, by kernel_rfl⟩
def okStrs (p : Bool × D × List D) : Prop := ∃ xs : List D, p = (true, .list xs, []) ∧ (∀ x ∈ xs, isStr x) ∧ xs.length ≤ 4
theorem okStrs_i {xs : List D} (h : ∀ x ∈ xs, isStr x) (hl : xs.length ≤ 4) : okStrs (true, .list xs, []) := ⟨xs, rfl, h, hl⟩
theorem s_wrongs (H : Draws c) (k : Nat) {w : Wd} {n m t : Nat} (ok : w.Ok n m t) (g st : Nat) (tm : Option Int) (s : St) (hs : s.Ok n st) (r : Row) (hr : r.Ok m t) : W (c (k + 3) "_law_wrongs" [w.d, nD g, nD st, tmD tm, stD s, rowD r]) okStrs := by
  rw [H.r_law_wrongs]
  unfold M_law_wrongs
  rcases s with ⟨kd, b, nu, pr⟩
  have hb := hs.b
  simp only at hb
  cases r with
  | did d =>
    obtain ⟨r, hr', hrd, hq⟩ := stepAt_e ok hb hr
    obtain ⟨q, hqk⟩ := ok.quickAt (b := d) hr
    have hwl : d < w.whose.length := by rw [ok.whose]; exact hr
    have hwo : w.whose[d]? = some w.whose[d] := List.getElem?_eq_getElem hwl
    generalize stepAt w b d = so at hrd hq
    unfold stD rowD
    cases kd with
    | done => simp -implicitDefEqProofs [Kind.d]; exact okStrs_i (by simp) (by simp)
    | away => simp -implicitDefEqProofs [Kind.d]; exact okStrs_i (by simp) (by simp)
    | here =>
      simp -implicitDefEqProofs [Kind.d, hr', hrd]
      cases so with
      | none => simp -implicitDefEqProofs; exact okStrs_i (by simp) (by simp)
      | some sq =>
        cases pr with
        | none => simp -implicitDefEqProofs; exact okStrs_i (by simp) (by simp)
        | some p =>
          simp -implicitDefEqProofs [hwo, perD]
          refine Br.mkd (fun h => ?_) (fun h => ?_)
          · simp -implicitDefEqProofs; exact okStrs_i (by simp) (by simp)
          · simp -implicitDefEqProofs; exact okStrs_i (by simp) (by simp)
    | called =>
      simp -implicitDefEqProofs [Kind.d, hr', hrd]
      cases so with
      | none => simp -implicitDefEqProofs; exact okStrs_i (by simp) (by simp)
      | some sq =>
        cases pr with
        | none =>
          cases q with
          | true =>
            simp -implicitDefEqProofs [hqk]
            refine Br.mkd (fun h => ?_) (fun h => ?_)
            · simp -implicitDefEqProofs; exact okStrs_i (by simp) (by simp)
            · simp -implicitDefEqProofs; exact okStrs_i (by simp) (by simp)
          | false =>
            simp -implicitDefEqProofs [hqk]
            refine Br.mkd (fun h => ?_) (fun h => ?_)
            · simp -implicitDefEqProofs; exact okStrs_i (by simp) (by simp)
            · simp -implicitDefEqProofs; exact okStrs_i (by simp) (by simp)
        | some p =>
          simp -implicitDefEqProofs [hwo, perD]
          refine Br.mkd (fun h => ?_) (fun h => ?_)
          · cases q with
            | true =>
              simp -implicitDefEqProofs [hqk]
              refine Br.mkd (fun h => ?_) (fun h => ?_)
              · simp -implicitDefEqProofs; exact okStrs_i (by simp) (by simp)
              · simp -implicitDefEqProofs; exact okStrs_i (by simp) (by simp)
            | false =>
              simp -implicitDefEqProofs [hqk]
              refine Br.mkd (fun h => ?_) (fun h => ?_)
              · simp -implicitDefEqProofs; exact okStrs_i (by simp) (by simp)
              · simp -implicitDefEqProofs; exact okStrs_i (by simp) (by simp)
          · cases q with
            | true =>
              simp -implicitDefEqProofs [hqk]
              refine Br.mkd (fun h => ?_) (fun h => ?_)
              · simp -implicitDefEqProofs; exact okStrs_i (by simp) (by simp)
              · simp -implicitDefEqProofs; exact okStrs_i (by simp) (by simp)
            | false =>
              simp -implicitDefEqProofs [hqk]
              refine Br.mkd (fun h => ?_) (fun h => ?_)
              · simp -implicitDefEqProofs; exact okStrs_i (by simp) (by simp)
              · simp -implicitDefEqProofs; exact okStrs_i (by simp) (by simp)
  | other d =>
    obtain ⟨r, hr', hrd, hq⟩ := thrAt_e ok hb hr
    generalize thrAt w b d = so at hrd hq
    unfold stD rowD
    cases kd with
    | done => simp -implicitDefEqProofs [Kind.d]; exact okStrs_i (by simp) (by simp)
    | here =>
      simp -implicitDefEqProofs [Kind.d, hr', hrd]
      cases so <;> simp -implicitDefEqProofs <;> exact okStrs_i (by simp) (by simp)
    | called =>
      simp -implicitDefEqProofs [Kind.d, hr', hrd]
      cases so <;> simp -implicitDefEqProofs <;> exact okStrs_i (by simp) (by simp)
    | away =>
      simp -implicitDefEqProofs [Kind.d, hr', hrd]
      cases so with
      | none => simp -implicitDefEqProofs; exact okStrs_i (by simp) (by simp)
      | some q =>
        cases tm with
        | none => simp -implicitDefEqProofs; exact okStrs_i (by simp) (by simp)
        | some tv =>
          simp -implicitDefEqProofs [tmD]
          refine Br.mkd (fun h => ?_) (fun h => ?_)
          · simp -implicitDefEqProofs; exact okStrs_i (by simp) (by simp)
          · simp -implicitDefEqProofs; exact okStrs_i (by simp) (by simp)
  | call =>
    unfold stD rowD
    cases kd with
    | here =>
      simp -implicitDefEqProofs [Kind.d]
      refine Br.mkd (fun h => ?_) (fun h => ?_)
      · simp -implicitDefEqProofs; exact okStrs_i (by simp) (by simp)
      · simp -implicitDefEqProofs; exact okStrs_i (by simp) (by simp)
    | done => simp -implicitDefEqProofs [Kind.d]; exact okStrs_i (by simp) (by simp)
    | away => simp -implicitDefEqProofs [Kind.d]; exact okStrs_i (by simp) (by simp)
    | called => simp -implicitDefEqProofs [Kind.d]; exact okStrs_i (by simp) (by simp)
  | left =>
    unfold stD rowD
    have hlv : ∀ (kd' : D) (pr' : D), W (c (k + 2) "_law_leave" [w.d, nD b, tmD tm]) okBool := fun _ _ => s_leave H k ok b hb tm
    cases kd with
    | done => simp -implicitDefEqProofs [Kind.d]; exact okStrs_i (by simp) (by simp)
    | away => simp -implicitDefEqProofs [Kind.d]; exact okStrs_i (by simp) (by simp)
    | here =>
      simp -implicitDefEqProofs [Kind.d]
      refine (s_leave H k ok b hb tm).mono ?_
      rintro _ ⟨q, rfl⟩
      cases q <;> simp -implicitDefEqProofs <;> exact okStrs_i (by simp) (by simp)
    | called =>
      simp -implicitDefEqProofs [Kind.d]
      refine (s_leave H k ok b hb tm).mono ?_
      rintro _ ⟨q, rfl⟩
      cases q <;> simp -implicitDefEqProofs <;> exact okStrs_i (by simp) (by simp)
  | came p =>
    unfold stD rowD
    cases kd <;> simp -implicitDefEqProofs [Kind.d] <;> exact okStrs_i (by simp) (by simp)
end Mp.P

/-! Mwf: drawn rows and logs. -/
namespace Mp.P
open PySem
variable {c : Nat → Call}
def okRow (m t : Nat) (p : Bool × D × List D) : Prop := ∃ (r : Row) (bx : D), r.Ok m t ∧ isBox bx ∧ p = (false, rowD r, [bx])
theorem bool_len (bs : List Bool) : (bs.map PyData.bool).length = bs.length := List.length_map _
theorem s_anyrow (H : Draws c) (k : Nat) {bx : D} (hb : isBox bx) {w : Wd} {n m t : Nat} (ok : w.Ok n m t) : W (c (k + 2) "_law_any_row" [bx, w.d]) (okRow m t) := by
  have hm0 := ok.m0
  have hm1 := ok.m1
  have ht0 := ok.t0
  have ht1 := ok.t1
  have hp0 := ok.p0
  have hp1 := ok.p1
  obtain ⟨o, ho, hom, hol⟩ := ok.othAt ok.n0
  rw [H.r_law_any_row]
  unfold M_law_any_row
  simp -implicitDefEqProofs
  refine (s_takeB H _ hb 9 (by decide) (by decide)).mono ?_
  rintro _ ⟨r, bx, hb, hr, rfl⟩
  simp -implicitDefEqProofs
  refine Br.mkd (fun h => ?_) (fun h => ?_)
  · simp -implicitDefEqProofs [ok.quick]
    refine (s_takeB H _ hb m (by omega) (by omega)).mono ?_
    rintro _ ⟨d, bx, hb, hd, rfl⟩
    simp -implicitDefEqProofs
    exact ⟨.did d, bx, show d < m by omega, hb, rfl⟩
  · simp -implicitDefEqProofs
    refine Br.mkd (fun h => ?_) (fun h => ?_)
    · simp -implicitDefEqProofs [ho, hol]
      refine (s_takeB H _ hb t (by omega) (by omega)).mono ?_
      rintro _ ⟨d, bx, hb, hd, rfl⟩
      simp -implicitDefEqProofs
      exact ⟨.other d, bx, show d < t by omega, hb, rfl⟩
    · simp -implicitDefEqProofs
      refine Br.mkd (fun h => ?_) (fun h => ?_)
      · simp -implicitDefEqProofs
        exact ⟨.call, bx, trivial, hb, rfl⟩
      · simp -implicitDefEqProofs
        refine Br.mkd (fun h => ?_) (fun h => ?_)
        · simp -implicitDefEqProofs
          exact ⟨.left, bx, trivial, hb, rfl⟩
        · simp -implicitDefEqProofs
          refine (s_takeB H _ hb w.people (by omega) (by omega)).mono ?_
          rintro _ ⟨d, bx, hb, hd, rfl⟩
          simp -implicitDefEqProofs
          exact ⟨.came d, bx, trivial, hb, rfl⟩
def optRowD : Option Row → D
  | none => .none
  | some r => rowD r
def okNext (m t : Nat) (p : Bool × D × List D) : Prop := ∃ (o : Option Row) (bx : D), (∀ r, o = some r → r.Ok m t) ∧ isBox bx ∧ p = (false, optRowD o, [bx])
def isRow (m t : Nat) (d : D) : Prop := ∃ r : Row, d = rowD r ∧ r.Ok m t
theorem str_ok_did : PyData.strOk "did" = true := by kernel_rfl
theorem pure_row (r : Row) : pureD (rowD r) = true := by cases r <;> rfl
theorem flat_box {bx : D} (h : isBox bx) : flatD bx = true := by
  obtain ⟨a, b, rfl⟩ := h
  rfl
theorem flat_row {bx : D} (h : isBox bx) (r : Row) : flatR false (rowD r) [bx] = true := by
  show (pureD (rowD r) && (flatD bx && true)) = true
  rw [pure_row, flat_box h]; rfl
theorem strOk_did : PyData.strOk "did" = true := by kernel_rfl
theorem strOk_other : PyData.strOk "other" = true := by kernel_rfl
theorem strOk_call : PyData.strOk "call" = true := by kernel_rfl
theorem strOk_left : PyData.strOk "left" = true := by kernel_rfl
theorem strOk_came : PyData.strOk "came" = true := by kernel_rfl
theorem fl_t2 {n : Nat} {a b : D} (ha : Fl n a) (hb : Fl n b) : Fl (n + 1) (.tuple [a, b]) := by
  refine .tup _ fun x hx => ?_
  rcases List.mem_cons.mp hx with rfl | hx
  · exact ha
  · rw [List.mem_singleton.mp hx]; exact hb
theorem fl_t1 {n : Nat} {a : D} (ha : Fl n a) : Fl (n + 1) (.tuple [a]) := .tup _ fun x hx => by rw [List.mem_singleton.mp hx]; exact ha
theorem fl_row (r : Row) : Fl 1 (rowD r) := by
  cases r with
  | did d => exact fl_t2 (.str _ strOk_did) (fl_nD _ _)
  | other d => exact fl_t2 (.str _ strOk_other) (fl_nD _ _)
  | call => exact fl_t1 (.str _ strOk_call)
  | left => exact fl_t1 (.str _ strOk_left)
  | came p => exact fl_t2 (.str _ strOk_came) (.int _)
theorem shaped_rows {m t : Nat} {ys : List D} (h : ∀ y ∈ ys, isRow m t y) : Mp.shaped (.list ys) = true := (Fl.lst (n := 1) ys fun y hy => by obtain ⟨r, rfl, _⟩ := h y hy; exact fl_row r).shaped (by omega)
theorem s_next (H : Draws c) (k : Nat) {bx : D} (hb : isBox bx) {w : Wd} {n m t : Nat} (ok : w.Ok n m t) (g st : Nat) (tm : Option Int) (s : St) (hs : s.Ok n st) : W (c (k + 4) "_law_next_row" [bx, w.d, nD g, nD st, tmD tm, stD s]) (okNext m t) := by
  have hm0 := ok.m0
  have hm1 := ok.m1
  have ht0 := ok.t0
  have ht1 := ok.t1
  have hp0 := ok.p0
  have hp1 := ok.p1
  obtain ⟨o, ho, hom, hol⟩ := ok.othAt ok.n0
  have hrm : rng1 (.int m) = some (rangeD 0 m) := rng1_n m (by omega)
  have hrt : rng1 (.int t) = some (rangeD 0 t) := rng1_n t (by omega)
  have hrp : rng1 (.int w.people) = some (rangeD 0 w.people.toNat) := rng1_i _ (by omega) (by omega)
  have hpl : w.people.toNat ≤ 2 := by omega
  rw [H.r_law_next_row]
  unfold M_law_next_row
  have hsw : ∀ r : Row, r.Ok m t → W (c (k + 3) "_law_wrongs" [w.d, nD g, nD st, tmD tm, stD s, rowD r]) okStrs := fun r hr => s_wrongs H k ok g st tm s hs r hr
  obtain ⟨kd, b, nu, pr⟩ := s
  unfold stD at hsw ⊢
  simp -implicitDefEqProofs [ok.quick, hrm, rangeD_len]
  refine ⟨by omega, ?_⟩
  refine W_lcA (fun _ => isRow m t) _ _ _ _ _ _ _ (fun x hx => ?_) fun ys1 hy1 => ?_
  · obtain ⟨d, hd, rfl⟩ := rangeD_mem hx
    rw [lcTurn_e]
    simp -implicitDefEqProofs
    exact ⟨.did d, rfl, hd⟩
  have hl1 := hy1.len
  have ha1 := hy1.all (R := isRow m t) fun _ _ h => h
  rw [rangeD_len] at hl1
  simp -implicitDefEqProofs [ho, hol, hrt, rangeD_len]
  refine ⟨by omega, ?_⟩
  refine W_lcA (fun _ => isRow m t) _ _ _ _ _ _ _ (fun x hx => ?_) fun ys2 hy2 => ?_
  · obtain ⟨d, hd, rfl⟩ := rangeD_mem hx
    rw [lcTurn_e]
    simp -implicitDefEqProofs
    exact ⟨.other d, rfl, hd⟩
  have hl2 := hy2.len
  have ha2 := hy2.all (R := isRow m t) fun _ _ h => h
  rw [rangeD_len] at hl2
  have hadd1 := binD_addL ys1 ys2 (by omega)
  have hadd2 := binD_addL (ys1 ++ ys2) [.tuple [.str "call"], .tuple [.str "left"]] (by simp; omega)
  simp -implicitDefEqProofs [hadd1, hadd2, hrp, rangeD_len]
  refine ⟨by omega, ?_⟩
  refine W_lcA (fun _ => isRow m t) _ _ _ _ _ _ _ (fun x hx => ?_) fun ys3 hy3 => ?_
  · obtain ⟨d, hd, rfl⟩ := rangeD_mem hx
    rw [lcTurn_e]
    simp -implicitDefEqProofs
    exact ⟨.came d, rfl, trivial⟩
  have hl3 := hy3.len
  have ha3 := hy3.all (R := isRow m t) fun _ _ h => h
  rw [rangeD_len] at hl3
  have hadd3 := binD_addL (ys1 ++ ys2 ++ [.tuple [.str "call"], .tuple [.str "left"]]) ys3 (by simp; omega)
  have hall : ∀ y ∈ ys1 ++ ys2 ++ [PyData.tuple [.str "call"], .tuple [.str "left"]] ++ ys3, isRow m t y := by
    intro y hy
    rcases List.mem_append.mp hy with hy | hy
    · rcases List.mem_append.mp hy with hy | hy
      · rcases List.mem_append.mp hy with hy | hy
        · exact ha1 y hy
        · exact ha2 y hy
      · rcases List.mem_cons.mp hy with rfl | hy
        · exact ⟨.call, rfl, trivial⟩
        · rw [List.mem_singleton.mp hy]; exact ⟨.left, rfl, trivial⟩
    · exact ha3 y hy
  have hlen : (ys1 ++ ys2 ++ [PyData.tuple [.str "call"], .tuple [.str "left"]] ++ ys3).length ≤ 10 := by simp; omega
  rw [List.append_assoc ys1 ys2] at hadd3 hall hlen
  simp only [List.append_assoc] at hadd3 hall hlen
  simp -implicitDefEqProofs [hadd3]
  generalize hAll : ys1 ++ (ys2 ++ ([PyData.tuple [.str "call"], .tuple [.str "left"]] ++ ys3)) = rows at hall hlen
  simp only [List.cons_append, List.nil_append] at hAll
  rw [hAll]
  simp only at hsw
  refine ⟨by omega, ?_⟩
  refine W_lcP (isRow m t) _ _ _ _ _ _ _ (fun x hx => ?_) fun ys hy hyl => ?_
  · obtain ⟨r, rfl, hr⟩ := hall x hx
    rw [lcTurn_e]
    simp -implicitDefEqProofs
    refine (hsw r hr).mono ?_
    rintro _ ⟨zs, rfl, hz, hzl⟩
    simp -implicitDefEqProofs [cmp_eqL0 _ (shaped_strs hz)]
    cases zs with
    | nil => simp -implicitDefEqProofs; exact ⟨r, rfl, hr⟩
    | cons z zs => simp -implicitDefEqProofs
  · simp -implicitDefEqProofs [cmp_neL0 _ (shaped_rows hy)]
    cases ys with
    | nil =>
      simp -implicitDefEqProofs
      exact ⟨none, bx, fun r e => (nomatch e), hb, rfl⟩
    | cons y ys =>
      simp -implicitDefEqProofs
      refine (s_pickB H (k + 1) hb (y :: ys) (by simp) (by omega)).mono ?_
      rintro _ ⟨x, bx, hb, hx, rfl⟩
      obtain ⟨r, rfl, hr⟩ := hy x hx
      simp -implicitDefEqProofs [flat_row hb r]
      exact ⟨some r, bx, fun r' e => (by cases e; exact hr), hb, rfl⟩
/-! ### any log -/
def okLog (m t many : Nat) (p : Bool × D × List D) : Prop := ∃ (rs : List Row) (bx : D), rs.length = many ∧ (∀ r ∈ rs, r.Ok m t) ∧ isBox bx ∧ p = (false, .tuple (rs.map rowD), [bx])
def JLg (w : Wd) (g st : Nat) (tm : Option Int) (many : Nat) (m t : Nat) (cl : Bool) (i : Nat) (e : Env) : Prop := ∃ (bx : D) (rs : List Row) (s8 s9 : Slot), e = [.rf bx, .fz w.d, .fz (nD g), .fz (nD st), .fz (tmD tm), .fz (nD many), .fz (.tuple (rs.map rowD)), .fz (.bool cl), s8, s9] ∧ isBox bx ∧ rs.length = i ∧ ∀ r ∈ rs, r.Ok m t
theorem isNone_row (r : Row) : isNoneD (rowD r) = false := by cases r <;> rfl
theorem s_log (H : Draws c) (k : Nat) {bx : D} (hb : isBox bx) {w : Wd} {n m t : Nat} (ok : w.Ok n m t) (g st : Nat) (tm : Option Int) (many : Nat) (hmany : many ≤ 1000) : W (c (k + 5) "_law_any_log" [bx, w.d, nD g, nD st, tmD tm, nD many]) (okLog m t many) := by
  rw [H.r_law_any_log]
  unfold M_law_any_log
  have hmany' : many < 1000000 := by omega
  simp -implicitDefEqProofs
  refine (s_takeB H _ hb 3 (by decide) (by decide)).mono ?_
  rintro _ ⟨r, bx, hb, hr, rfl⟩
  simp -implicitDefEqProofs [hmany']
  generalize decide (0 < r) = cl
  refine W_for (JLg w g st tm many m t cl) _ _ _ _ _ ⟨bx, [], _, _, rfl, hb, rfl, by simp⟩ ?_ ?_
  · rintro i x e hx ⟨bx, rs, s8, s9, rfl, hb, hrl, hrs⟩
    obtain ⟨hi, rfl⟩ := rangeD_at hx
    obtain ⟨pre, hpre⟩ := scan_last w st (first w st) rs
    have hrun := runR_ok ok (first_ok ok st) hrs
    simp -implicitDefEqProofs
    refine (s_lstands H (k + 2) ok st rs hrs (by omega)).mono ?_
    rintro _ rfl
    unfold stands
    rw [hpre]
    simp -implicitDefEqProofs
    refine (s_next H k hb ok g st tm _ hrun).mono ?_
    rintro _ ⟨o, bx, ho, hb, rfl⟩
    have hfin : ∀ (r : Row) (bx : D), r.Ok m t → isBox bx → JLg w g st tm many m t cl (i + 1) [.rf bx, .fz w.d, .fz (nD g), .fz (nD st), .fz (tmD tm), .fz (nD many), .fz (.tuple (rs.map rowD ++ [rowD r])), .fz (.bool cl), .fz (nD i), .fz (rowD r)] := by
      intro r bx hr hb
      refine ⟨bx, rs ++ [r], _, _, by rw [List.map_append]; rfl, hb, by simp [hrl], fun x hx => ?_⟩
      rcases List.mem_append.mp hx with hx | hx
      · exact hrs x hx
      · rw [List.mem_singleton.mp hx]; exact hr
    have hadd : ∀ r : Row, binD .Add (.tuple (rs.map rowD)) (.tuple [rowD r]) = some (.val (.tuple (rs.map rowD ++ [rowD r]))) := fun r => binD_addT _ _ (by simp; omega)
    cases o with
    | none =>
      simp -implicitDefEqProofs [optRowD]
      refine (s_anyrow H (k + 2) hb ok).mono ?_
      rintro _ ⟨r, bx, hr, hb, rfl⟩
      simp -implicitDefEqProofs [hadd]
      exact hfin r bx hr hb
    | some r =>
      have hr := ho r rfl
      cases cl with
      | true =>
        simp -implicitDefEqProofs [optRowD, isNone_row, hadd]
        exact hfin r bx hr hb
      | false =>
        simp -implicitDefEqProofs [optRowD, isNone_row]
        refine (s_takeB H _ hb 3 (by decide) (by decide)).mono ?_
        rintro _ ⟨q, bx, hb, hq, rfl⟩
        simp -implicitDefEqProofs
        refine Br.mkd (fun h => ?_) (fun h => ?_)
        · simp -implicitDefEqProofs
          refine (s_anyrow H (k + 2) hb ok).mono ?_
          rintro _ ⟨r, bx, hr, hb, rfl⟩
          simp -implicitDefEqProofs [hadd]
          exact hfin r bx hr hb
        · simp -implicitDefEqProofs [hadd]
          exact hfin r bx hr hb
  · rintro e ⟨bx, rs, s8, s9, rfl, hb, hrl, hrs⟩
    rw [rangeD_len] at hrl
    simp -implicitDefEqProofs
    exact ⟨rs, bx, hrl, hrs, hb, rfl⟩
end Mp.P

/-! Mwg: sums along logs; slices; shapes of standings. -/
namespace Mp.P
open PySem
theorem scan_ok {w : Wd} {n m t : Nat} (ok : w.Ok n m t) {st : Nat} {s : St} (hs : s.Ok n st) {rs : List Row} (hr : ∀ r ∈ rs, r.Ok m t) : ∀ x ∈ scan w st s rs, x.Ok n st := by
  induction rs generalizing s with
  | nil => intro x hx; rw [List.mem_singleton.mp hx]; exact hs
  | cons y rs ih =>
    intro x hx
    rcases List.mem_cons.mp hx with rfl | hx
    · exact hs
    · exact ih (stand_ok ok hs (hr y List.mem_cons_self)) (fun r h => hr r (List.mem_cons_of_mem _ h)) x hx
theorem scan_take (w : Wd) (st : Nat) (s : St) (rs : List Row) (r : Nat) : scan w st s (rs.take r) = (scan w st s rs).take (r + 1) := by
  induction rs generalizing s r with
  | nil => simp [scan]
  | cons x rs ih =>
    cases r with
    | zero => rfl
    | succ r =>
      show s :: scan w st (stand w st s x) (rs.take r) = s :: (scan w st (stand w st s x) rs).take (r + 1)
      rw [ih]
def sumI {α : Type} (f : α → Int) : List α → Int
  | [] => 0
  | x :: xs => f x + sumI f xs
theorem sumI_snoc {α : Type} (f : α → Int) (xs : List α) (x : α) : sumI f (xs ++ [x]) = sumI f xs + f x := by
  induction xs with
  | nil => simp [sumI]
  | cons y xs ih => show f y + sumI f (xs ++ [x]) = f y + sumI f xs + f x; rw [ih]; omega
def atWork (k : Kind) : Bool := match k with
  | .here => true
  | .called => true
  | _ => false
def payC (w : Wd) (p : St × Row) : Int := match p.2 with
  | .did d => if atWork p.1.kind = true then (match stepAt w p.1.board d with
    | none => 0
    | some q => q.2) else 0
  | _ => 0
def payL (p : St × Row) : Int := match p.2 with
  | .left => if atWork p.1.kind = true then 1 else 0
  | _ => 0
def prD (p : St × Row) : D := .tuple [stD p.1, rowD p.2]
theorem zip_pr (ss : List St) (rs : List Row) : zipD (ss.map stD) (rs.map rowD) = (ss.zip rs).map prD := by
  induction ss generalizing rs with
  | nil => rfl
  | cons s ss ih =>
    cases rs with
    | nil => rfl
    | cons r rs =>
      show .tuple [stD s, rowD r] :: zipD (ss.map stD) (rs.map rowD) = _
      rw [ih]; rfl
theorem zip_at {ps : List (St × Row)} {i : Nat} {x : D} (hx : (ps.map prD)[i]? = some x) : ∃ p, ps[i]? = some p ∧ p ∈ ps ∧ x = prD p := by
  rw [List.getElem?_map] at hx
  cases hpi : ps[i]? with
  | none => rw [hpi] at hx; cases hx
  | some p => rw [hpi] at hx; cases hx; exact ⟨p, rfl, List.mem_of_getElem? hpi, rfl⟩
theorem slT (xs : List D) (r : Nat) : slD (.tuple xs) none (some (r : Int)) = some (.val (.tuple (xs.take r))) := by
  show some (Res.val (.tuple ((xs.drop (HT.sIx xs.length 0 none)).take (HT.sIx xs.length xs.length (some (r : Int)) - HT.sIx xs.length 0 none)))) = _
  rw [HT.sIx_none, HT.sIx_nat, List.drop_zero, Nat.sub_zero]
  congr 3
  rcases Nat.le_total r xs.length with h | h
  · rw [Nat.min_eq_left h]
  · rw [Nat.min_eq_right h, List.take_of_length_le (Nat.le_refl _), List.take_of_length_le h]
theorem slT1 (xs : List D) (r : Nat) : slD (.tuple xs) none (some ((r : Int) + 1)) = some (.val (.tuple (xs.take (r + 1)))) := slT xs (r + 1)
theorem Kind.ok (k : Kind) : ∃ s : Str, k.d = .str s ∧ PyData.strOk s = true := by
  cases k
  · exact ⟨_, rfl, by kernel_rfl⟩
  · exact ⟨_, rfl, by kernel_rfl⟩
  · exact ⟨_, rfl, by kernel_rfl⟩
  · exact ⟨_, rfl, by kernel_rfl⟩
theorem fl_per (n : Nat) (p : Option Int) : Fl n (perD p) := by cases p; exact .non; exact .int _
theorem sm_per (n : Nat) (p : Option Int) : Sm n (perD p) := by cases p; exact .non; exact .int _
theorem fl_st (s : St) : Fl 1 (stD s) := by
  obtain ⟨z, hz, ho⟩ := s.kind.ok
  refine .tup _ fun x hx => ?_
  rw [hz] at hx
  simp only [List.mem_cons, List.not_mem_nil, or_false] at hx
  rcases hx with rfl | rfl | rfl | rfl
  · exact .str _ ho
  · exact .int _
  · exact .int _
  · exact fl_per _ _
theorem sm_st (s : St) : Sm 1 (stD s) := by
  obtain ⟨z, hz, ho⟩ := s.kind.ok
  refine .tup _ fun x hx => ?_
  rw [hz] at hx
  simp only [List.mem_cons, List.not_mem_nil, or_false] at hx
  rcases hx with rfl | rfl | rfl | rfl
  · exact .str _ ho
  · exact .int _
  · exact .int _
  · exact sm_per _ _
theorem fl_sts (ss : List St) : Fl 2 (.tuple (ss.map stD)) := .tup _ fun x hx => by
  obtain ⟨s, _, rfl⟩ := List.mem_map.mp hx; exact fl_st s
theorem sm_sts (ss : List St) : Sm 2 (.tuple (ss.map stD)) := .tup _ fun x hx => by
  obtain ⟨s, _, rfl⟩ := List.mem_map.mp hx; exact sm_st s
theorem sm_told (ss : List St) (a b : Int) : Sm 3 (.tuple [.tuple (ss.map stD), .tuple [.int a, .int b]]) := .tup _ fun x hx => by
  simp only [List.mem_cons, List.not_mem_nil, or_false] at hx
  rcases hx with rfl | rfl
  · exact sm_sts ss
  · refine .tup _ fun y hy => ?_
    simp only [List.mem_cons, List.not_mem_nil, or_false] at hy
    rcases hy with rfl | rfl
    · exact .int _
    · exact .int _
theorem cmp_neT {n : Nat} {xs : List D} (h : Fl n (.tuple xs)) (hn : n ≤ 64) : cmpD .NotEq (.tuple xs) (.tuple xs) = some false := by
  rw [cmp_ne]
  have e : cmpD .Eq (.tuple xs) (.tuple xs) = some true := by
    show eqX (.tuple xs) (.tuple xs) = _
    rw [eqX_tup]
    unfold eqD
    rw [h.shaped hn, if_pos (show (true && true) = true from rfl), SeqAt.eqv_refl _ h.ok.1]
  rw [e]; rfl
end Mp.P

/-! the defs of this law as combinators (printed by mir.py) -/
namespace Mp.P64
open PySem Mp.P
abbrev pg := Law.pg
def M_paid (call : Call) : StF :=
 (sSeq (sPar [(gNm 3), (gNm 4)] [(eC (.int 0)), (eC (.int 0))])
 (sSeq (sFor (gTp [(gTp [(gNm 5), (gNm 6), (gNm 7), (gNm 8)]), (gNm 9)]) (itZip (eCall call "standings" [false, false, false] [(eVar 0), (eVar 1), (eVar 2)]) (eVar 2))
  (sSeq (sIf (eAnd (eCmp .Eq (eIx (eVar 9) (eC (.int 0))) (eC (.str "did"))) (eAnd (eCmp .In (eVar 5) (eTup [(eC (.str "here")), (eC (.str "called"))])) (eCmp .IsNot (eIx (eIx (eIx (eVar 0) (eC (.int 0))) (eVar 6)) (eIx (eVar 9) (eC (.int 1)))) (eC .none))))
   (sAug 3 .Add (eIx (eIx (eIx (eIx (eVar 0) (eC (.int 0))) (eVar 6)) (eIx (eVar 9) (eC (.int 1)))) (eC (.int 1))))
   sNil)
  (sAug 4 .Add (eIf (eAnd (eCmp .Eq (eIx (eVar 9) (eC (.int 0))) (eC (.str "left"))) (eCmp .In (eVar 5) (eTup [(eC (.str "here")), (eC (.str "called"))]))) (eC (.int 1)) (eC (.int 0))))))
 (sRet (eTup [(eVar 3), (eVar 4)]))))
def M_law (call : Call) : StF :=
 (sSeq (sAsg (gNm 1) (eCall call "_law_milk" [] []))
 (sSeq (sAsg (gNm 2) (eTup [(eTup [(eC (.str "call"))]), (eTup [(eC (.str "did")), (eC (.int 0))]), (eTup [(eC (.str "left"))]), (eTup [(eC (.str "other")), (eC (.int 0))]), (eTup [(eC (.str "came")), (eC (.int 0))]), (eTup [(eC (.str "did")), (eC (.int 2))]), (eTup [(eC (.str "did")), (eC (.int 1))]), (eTup [(eC (.str "call"))])]))
 (sSeq (sAsg (gNm 3) (eTup [(eTup [(eC (.str "here")), (eC (.int 0)), (eC (.int 2)), (eC .none)]), (eTup [(eC (.str "called")), (eC (.int 0)), (eC (.int 0)), (eC .none)]), (eTup [(eC (.str "called")), (eC (.int 1)), (eC (.int 1)), (eC .none)]), (eTup [(eC (.str "away")), (eC (.int 1)), (eC (.int 0)), (eC .none)]), (eTup [(eC (.str "away")), (eC (.int 1)), (eC (.int 0)), (eC .none)]), (eTup [(eC (.str "here")), (eC (.int 1)), (eC (.int 0)), (eC (.int 0))]), (eTup [(eC (.str "here")), (eC (.int 0)), (eC (.int 1)), (eC (.int 0))]), (eTup [(eC (.str "done")), (eC (.int 3)), (eC (.int 0)), (eC (.int 0))]), (eTup [(eC (.str "done")), (eC (.int 3)), (eC (.int 0)), (eC (.int 0))])]))
 (sSeq (sIf (eNot (eCall call "_law_same" [false, false] [(eTup [(eCall call "standings" [false, false, false] [(eVar 1), (eC (.int 2)), (eVar 2)]), (eCall call "paid" [false, false, false] [(eVar 1), (eC (.int 2)), (eVar 2)])]), (eTup [(eVar 3), (eTup [(eC (.int 1)), (eC (.int 1))])])]))
  (sRet (eC (.bool false)))
  sNil)
 (sSeq (sFor (gNm 4) (itRange1 (eB2 "max" (eC (.int 4)) (eB2 "min" (eB1 "len" (eVar 0)) (eC (.int 8)))))
  (sSeq (sAsg (gNm 5) (eCall call "_law_box" [false, false] [(eVar 0), (eVar 4)]))
  (sSeq (sAsg (gTp [(gNm 6), (gNm 7), (gNm 8), (gNm 9)]) (eCall call "_law_case" [true, false] [(eVar 5), (eC (.int 6))]))
  (sFor (gNm 10) (itRange1 (eC (.int 3)))
   (sSeq (sAsg (gNm 11) (eCall call "_law_any_log" [true, false, false, false, false, false] [(eVar 5), (eVar 6), (eVar 7), (eVar 8), (eVar 9), (eC (.int 10))]))
   (sSeq (sAsg (gNm 3) (eCall call "_law_stands" [false, false, false] [(eVar 6), (eVar 8), (eVar 11)]))
   (sSeq (sPar [(gNm 12), (gNm 13)] [(eC (.int 0)), (eC (.int 0))])
   (sSeq (sFor (gTp [(gNm 14), (gNm 15)]) (itZip (eVar 3) (eVar 11))
    (sIf (eCmp .In (eIx (eVar 14) (eC (.int 0))) (eTup [(eC (.str "here")), (eC (.str "called"))]))
     (sSeq (sAsg (gNm 12) (eBin .Add (eVar 12) (eIf (eAnd (eCmp .Eq (eIx (eVar 15) (eC (.int 0))) (eC (.str "did"))) (eCmp .IsNot (eIx (eIx (eIx (eVar 6) (eC (.int 0))) (eIx (eVar 14) (eC (.int 1)))) (eIx (eVar 15) (eC (.int 1)))) (eC .none))) (eIx (eIx (eIx (eIx (eVar 6) (eC (.int 0))) (eIx (eVar 14) (eC (.int 1)))) (eIx (eVar 15) (eC (.int 1)))) (eC (.int 1))) (eC (.int 0)))))
     (sAsg (gNm 13) (eBin .Add (eVar 13) (eIf (eCmp .Eq (eIx (eVar 15) (eC (.int 0))) (eC (.str "left"))) (eC (.int 1)) (eC (.int 0))))))
     sNil))
   (sSeq (sAsg (gNm 16) (eCall call "standings" [false, false, false] [(eVar 6), (eVar 8), (eVar 11)]))
   (sSeq (sIf (eNot (eCall call "_law_same" [false, false] [(eTup [(eVar 16), (eCall call "paid" [false, false, false] [(eVar 6), (eVar 8), (eVar 11)])]), (eTup [(eB1 "tuple" (eVar 3)), (eTup [(eVar 12), (eVar 13)])])]))
    (sRet (eC (.bool false)))
    sNil)
   (sSeq (sAsg (gNm 17) (eCall call "_law_take" [true, false] [(eVar 5), (eBin .Add (eB1 "len" (eVar 11)) (eC (.int 1)))]))
   (sIf (eCmp .NotEq (eCall call "standings" [false, false, false] [(eVar 6), (eVar 8), (eSl (eVar 11) none (some (eVar 17)))]) (eSl (eVar 16) none (some (eBin .Add (eVar 17) (eC (.int 1))))))
    (sRet (eC (.bool false)))
    sNil))))))))))))
 (sRet (eC (.bool true))))))))
theorem r_first_standing (k : Nat) (a0 a1 : D) : callF pg (k + 1) "first_standing" [a0, a1] = runM [false, false] (M_first_standing (callF pg k)) [.fz a0, .fz a1] := by kernel_rfl
theorem r_came_to (k : Nat) (a0 a1 a2 a3 a4 : D) : callF pg (k + 1) "came_to" [a0, a1, a2, a3, a4] = runM [false, false, false, false, false] (M_came_to (callF pg k)) [.fz a0, .fz a1, .fz a2, .fz a3, .fz a4] := by kernel_rfl
theorem r_did (k : Nat) (a0 a1 a2 a3 : D) : callF pg (k + 1) "did" [a0, a1, a2, a3] = runM [false, false, false, false] (M_did (callF pg k)) [.fz a0, .fz a1, .fz a2, .fz a3, .un, .un, .un, .un, .un] := by kernel_rfl
theorem r_other_did (k : Nat) (a0 a1 a2 : D) : callF pg (k + 1) "other_did" [a0, a1, a2] = runM [false, false, false] (M_other_did (callF pg k)) [.fz a0, .fz a1, .fz a2, .un, .un, .un, .un, .un] := by kernel_rfl
theorem r_behind_row (k : Nat) (a0 a1 a2 a3 : D) : callF pg (k + 1) "behind_row" [a0, a1, a2, a3] = runM [false, false, false, false] (M_behind_row (callF pg k)) [.fz a0, .fz a1, .fz a2, .fz a3, .un, .un, .un, .un] := by kernel_rfl
theorem r_standings (k : Nat) (a0 a1 a2 : D) : callF pg (k + 1) "standings" [a0, a1, a2] = runM [false, false, false] (M_standings (callF pg k)) [.fz a0, .fz a1, .fz a2, .un, .un] := by kernel_rfl
theorem r_paid (k : Nat) (a0 a1 a2 : D) : callF pg (k + 1) "paid" [a0, a1, a2] = runM [false, false, false] (M_paid (callF pg k)) [.fz a0, .fz a1, .fz a2, .un, .un, .un, .un, .un, .un, .un] := by kernel_rfl
theorem r_law_box (k : Nat) (a0 a1 : D) : callF pg (k + 1) "_law_box" [a0, a1] = runM [false, false] (M_law_box (callF pg k)) [.fz a0, .fz a1, .un, .un] := by kernel_rfl
theorem r_law_take (k : Nat) (a0 a1 : D) : callF pg (k + 1) "_law_take" [a0, a1] = runM [true, false] (M_law_take (callF pg k)) [.rf a0, .fz a1, .un, .un] := by kernel_rfl
theorem r_law_pick (k : Nat) (a0 a1 : D) : callF pg (k + 1) "_law_pick" [a0, a1] = runM [true, false] (M_law_pick (callF pg k)) [.rf a0, .fz a1] := by kernel_rfl
theorem r_law_same (k : Nat) (a0 a1 : D) : callF pg (k + 1) "_law_same" [a0, a1] = runM [false, false] (M_law_same (callF pg k)) [.fz a0, .fz a1, .un, .un] := by kernel_rfl
theorem r_law_behind (k : Nat) (a0 a1 a2 : D) : callF pg (k + 1) "_law_behind" [a0, a1, a2] = runM [false, false, false] (M_law_behind (callF pg k)) [.fz a0, .fz a1, .fz a2, .un, .un, .un, .un, .un, .un, .un] := by kernel_rfl
theorem r_law_leave (k : Nat) (a0 a1 a2 : D) : callF pg (k + 1) "_law_leave" [a0, a1, a2] = runM [false, false, false] (M_law_leave (callF pg k)) [.fz a0, .fz a1, .fz a2, .un] := by kernel_rfl
theorem r_law_quick (k : Nat) (a0 a1 a2 : D) : callF pg (k + 1) "_law_quick" [a0, a1, a2] = runM [false, false, false] (M_law_quick (callF pg k)) [.fz a0, .fz a1, .fz a2, .un, .un, .un, .un, .un, .un, .un, .un, .un, .un] := by kernel_rfl
theorem r_law_answers (k : Nat) (a0 a1 a2 a3 : D) : callF pg (k + 1) "_law_answers" [a0, a1, a2, a3] = runM [false, false, false, false] (M_law_answers (callF pg k)) [.fz a0, .fz a1, .fz a2, .fz a3, .un, .un, .un, .un, .un, .un] := by kernel_rfl
theorem r_law_moves (k : Nat) (a0 a1 a2 a3 : D) : callF pg (k + 1) "_law_moves" [a0, a1, a2, a3] = runM [false, false, false, false] (M_law_moves (callF pg k)) [.fz a0, .fz a1, .fz a2, .fz a3, .un, .un, .un, .un] := by kernel_rfl
theorem r_law_places (k : Nat) (a0 a1 : D) : callF pg (k + 1) "_law_places" [a0, a1] = runM [false, false] (M_law_places (callF pg k)) [.fz a0, .fz a1, .un, .un, .un] := by kernel_rfl
theorem r_law_rules_of (k : Nat) (a0 a1 a2 a3 : D) : callF pg (k + 1) "_law_rules_of" [a0, a1, a2, a3] = runM [false, false, false, false] (M_law_rules_of (callF pg k)) [.fz a0, .fz a1, .fz a2, .fz a3, .un, .un, .un] := by kernel_rfl
theorem r_law_worth_rows (k : Nat) (a0 a1 a2 a3 a4 a5 : D) : callF pg (k + 1) "_law_worth_rows" [a0, a1, a2, a3, a4, a5] = runM [false, false, false, false, false, false] (M_law_worth_rows (callF pg k)) [.fz a0, .fz a1, .fz a2, .fz a3, .fz a4, .fz a5, .un, .un, .un, .un, .un, .un, .un, .un, .un, .un, .un, .un, .un, .un] := by kernel_rfl
theorem r_law_least (k : Nat) (a0 a1 a2 a3 a4 a5 a6 : D) : callF pg (k + 1) "_law_least" [a0, a1, a2, a3, a4, a5, a6] = runM [false, false, false, false, false, false, false] (M_law_least (callF pg k)) [.fz a0, .fz a1, .fz a2, .fz a3, .fz a4, .fz a5, .fz a6, .un, .un, .un, .un, .un, .un, .un, .un, .un, .un, .un, .un, .un, .un] := by kernel_rfl
theorem r_law_pay (k : Nat) : callF pg (k + 1) "_law_pay" [] = runM [] (M_law_pay (callF pg k)) [.un] := by kernel_rfl
theorem r_law_aside (k : Nat) : callF pg (k + 1) "_law_aside" [] = runM [] (M_law_aside (callF pg k)) [.un, .un] := by kernel_rfl
theorem r_law_undone (k : Nat) : callF pg (k + 1) "_law_undone" [] = runM [] (M_law_undone (callF pg k)) [.un] := by kernel_rfl
theorem r_law_milk (k : Nat) : callF pg (k + 1) "_law_milk" [] = runM [] (M_law_milk (callF pg k)) [.un] := by kernel_rfl
theorem r_law_any_world (k : Nat) (a0 a1 : D) : callF pg (k + 1) "_law_any_world" [a0, a1] = runM [true, false] (M_law_any_world (callF pg k)) [.rf a0, .fz a1, .un, .un, .un, .un, .un, .un, .un, .un, .un, .un, .un, .un, .un, .un] := by kernel_rfl
theorem r_law_case (k : Nat) (a0 a1 : D) : callF pg (k + 1) "_law_case" [a0, a1] = runM [true, false] (M_law_case (callF pg k)) [.rf a0, .fz a1, .un, .un, .un, .un, .un, .un] := by kernel_rfl
theorem r_law_stand (k : Nat) (a0 a1 a2 a3 : D) : callF pg (k + 1) "_law_stand" [a0, a1, a2, a3] = runM [false, false, false, false] (M_law_stand (callF pg k)) [.fz a0, .fz a1, .fz a2, .fz a3, .un, .un, .un, .un, .un, .un] := by kernel_rfl
theorem r_law_stands (k : Nat) (a0 a1 a2 : D) : callF pg (k + 1) "_law_stands" [a0, a1, a2] = runM [false, false, false] (M_law_stands (callF pg k)) [.fz a0, .fz a1, .fz a2, .un, .un] := by kernel_rfl
theorem r_law_wrongs (k : Nat) (a0 a1 a2 a3 a4 a5 : D) : callF pg (k + 1) "_law_wrongs" [a0, a1, a2, a3, a4, a5] = runM [false, false, false, false, false, false] (M_law_wrongs (callF pg k)) [.fz a0, .fz a1, .fz a2, .fz a3, .fz a4, .fz a5, .un, .un, .un, .un, .un, .un] := by kernel_rfl
theorem r_law_any_row (k : Nat) (a0 a1 : D) : callF pg (k + 1) "_law_any_row" [a0, a1] = runM [true, false] (M_law_any_row (callF pg k)) [.rf a0, .fz a1, .un] := by kernel_rfl
theorem r_law_next_row (k : Nat) (a0 a1 a2 a3 a4 a5 : D) : callF pg (k + 1) "_law_next_row" [a0, a1, a2, a3, a4, a5] = runM [true, false, false, false, false, false] (M_law_next_row (callF pg k)) [.rf a0, .fz a1, .fz a2, .fz a3, .fz a4, .fz a5, .un, .un, .un, .un, .un, .un, .un, .un] := by kernel_rfl
theorem r_law_any_log (k : Nat) (a0 a1 a2 a3 a4 a5 : D) : callF pg (k + 1) "_law_any_log" [a0, a1, a2, a3, a4, a5] = runM [true, false, false, false, false, false] (M_law_any_log (callF pg k)) [.rf a0, .fz a1, .fz a2, .fz a3, .fz a4, .fz a5, .un, .un, .un, .un] := by kernel_rfl
theorem r_law (k : Nat) (a0 : D) : callF pg (k + 1) "law" [a0] = runM [false] (M_law (callF pg k)) [.fz a0, .un, .un, .un, .un, .un, .un, .un, .un, .un, .un, .un, .un, .un, .un, .un, .un, .un] := by kernel_rfl
theorem draws : Draws (callF pg) := ⟨r_first_standing, r_came_to, r_did, r_other_did, r_behind_row, r_standings, r_law_box, r_law_take, r_law_pick, r_law_same, r_law_behind, r_law_leave, r_law_quick, r_law_answers, r_law_moves, r_law_places, r_law_rules_of, r_law_worth_rows, r_law_least, r_law_pay, r_law_aside, r_law_undone, r_law_milk, r_law_any_world, r_law_case, r_law_stand, r_law_stands, r_law_wrongs, r_law_any_row, r_law_next_row, r_law_any_log⟩
end Mp.P64

/-! N64: what own deeds cost; the law of k64. -/
namespace Mp.P64
open PySem Mp.P
def HD : Draws (callF pg) := draws
/-! ### paid -/
def JPd (w : Wd) (st : Nat) (log : D) (ps : List (St × Row)) (i : Nat) (e : Env) : Prop := ∃ (C L : Int) (s5 s6 s7 s8 s9 : Slot), e = [.fz w.d, .fz (nD st), .fz log, .fz (.int C), .fz (.int L), s5, s6, s7, s8, s9] ∧ C = sumI (payC w) (ps.take i) ∧ L = sumI payL (ps.take i)
theorem s_paid (k : Nat) {w : Wd} {n m t : Nat} (ok : w.Ok n m t) (st : Nat) (rs : List Row) (hr : ∀ r ∈ rs, r.Ok m t) (hl : rs.length ≤ 1000) :
    W (callF pg (k + 5) "paid" [w.d, nD st, .tuple (rs.map rowD)]) (is (.tuple [.int (sumI (payC w) ((stands w st rs).zip rs)), .int (sumI payL ((stands w st rs).zip rs))])) := by
  rw [r_paid]
  unfold M_paid
  simp -implicitDefEqProofs
  refine (s_standings draws k ok st rs hr hl).mono ?_
  rintro _ rfl
  simp -implicitDefEqProofs
  rw [zip_pr]
  have hsok := scan_ok ok (first_ok ok st) hr
  change ∀ x ∈ stands w st rs, x.Ok n st at hsok
  refine W_for (JPd w st (.tuple (rs.map rowD)) ((stands w st rs).zip rs)) _ _ _ _ _ ⟨0, 0, _, _, _, _, _, rfl, rfl, rfl⟩ ?_ ?_
  · rintro i x e hx ⟨C, L, s5, s6, s7, s8, s9, rfl, hC, hL⟩
    obtain ⟨p, hpi, hp, rfl⟩ := zip_at hx
    have htk : ((stands w st rs).zip rs).take (i + 1) = ((stands w st rs).zip rs).take i ++ [p] := by rw [List.take_succ, hpi]; rfl
    have hC' : ∀ v, v = payC w p → C + v = sumI (payC w) (((stands w st rs).zip rs).take (i + 1)) := by intro v hv; rw [htk, sumI_snoc, hC, hv]
    have hL' : ∀ v, v = payL p → L + v = sumI payL (((stands w st rs).zip rs).take (i + 1)) := by intro v hv; rw [htk, sumI_snoc, hL, hv]
    have hC0 : (0 = payC w p) → C = sumI (payC w) (((stands w st rs).zip rs).take (i + 1)) := fun h => by have := hC' 0 h; rwa [Int.add_zero] at this
    have hL0 : (0 = payL p) → L = sumI payL (((stands w st rs).zip rs).take (i + 1)) := fun h => by have := hL' 0 h; rwa [Int.add_zero] at this
    obtain ⟨s, r⟩ := p
    have hs := hsok s (List.of_mem_zip hp).1
    have hr1 := hr r (List.of_mem_zip hp).2
    obtain ⟨kd, b, nu, pr⟩ := s
    have hb := hs.b
    simp only at hb
    unfold prD stD
    simp only at hb ⊢
    cases r with
    | did d =>
      obtain ⟨rr, hrr, hrd, hq⟩ := stepAt_e ok hb hr1
      unfold rowD
      cases hso : stepAt w b d with
      | none =>
        rw [hso] at hrd
        cases kd <;> simp -implicitDefEqProofs [Kind.d, hrr, hrd] <;> exact ⟨_, _, _, _, _, _, _, rfl, hC0 (by simp [payC, atWork, hso]), hL0 (by simp [payL])⟩
      | some q =>
        rw [hso] at hrd
        cases kd with
        | here => simp -implicitDefEqProofs [Kind.d, hrr, hrd]; exact ⟨_, _, _, _, _, _, _, rfl, hC' _ (by simp [payC, atWork, hso]), hL0 (by simp [payL])⟩
        | called => simp -implicitDefEqProofs [Kind.d, hrr, hrd]; exact ⟨_, _, _, _, _, _, _, rfl, hC' _ (by simp [payC, atWork, hso]), hL0 (by simp [payL])⟩
        | away => simp -implicitDefEqProofs [Kind.d]; exact ⟨_, _, _, _, _, _, _, rfl, hC0 (by simp [payC, atWork]), hL0 (by simp [payL])⟩
        | done => simp -implicitDefEqProofs [Kind.d]; exact ⟨_, _, _, _, _, _, _, rfl, hC0 (by simp [payC, atWork]), hL0 (by simp [payL])⟩
    | other d =>
      unfold rowD
      simp -implicitDefEqProofs
      exact ⟨_, _, _, _, _, _, _, rfl, hC0 (by simp [payC]), hL0 (by simp [payL])⟩
    | call =>
      unfold rowD
      simp -implicitDefEqProofs
      exact ⟨_, _, _, _, _, _, _, rfl, hC0 (by simp [payC]), hL0 (by simp [payL])⟩
    | left =>
      unfold rowD
      cases kd with
      | here => simp -implicitDefEqProofs [Kind.d]; exact ⟨_, _, _, _, _, _, _, rfl, hC0 (by simp [payC]), hL' _ (by simp [payL, atWork])⟩
      | called => simp -implicitDefEqProofs [Kind.d]; exact ⟨_, _, _, _, _, _, _, rfl, hC0 (by simp [payC]), hL' _ (by simp [payL, atWork])⟩
      | away => simp -implicitDefEqProofs [Kind.d]; exact ⟨_, _, _, _, _, _, _, rfl, hC0 (by simp [payC]), hL0 (by simp [payL, atWork])⟩
      | done => simp -implicitDefEqProofs [Kind.d]; exact ⟨_, _, _, _, _, _, _, rfl, hC0 (by simp [payC]), hL0 (by simp [payL, atWork])⟩
    | came q =>
      unfold rowD
      simp -implicitDefEqProofs
      exact ⟨_, _, _, _, _, _, _, rfl, hC0 (by simp [payC]), hL0 (by simp [payL])⟩
  · rintro e ⟨C, L, s5, s6, s7, s8, s9, rfl, hC, hL⟩
    rw [List.length_map, List.take_length] at hC hL
    subst hC hL
    simp -implicitDefEqProofs
    exact is_i _
end Mp.P64

/-! O64: the law of k64 answers True at every script. -/
namespace Mp.P64
open PySem Mp.P
def lid : List Row := [.call, .did 0, .left, .other 0, .came 0, .did 2, .did 1, .call]
theorem lid_ok : ∀ r ∈ lid, r.Ok 3 1 := by
  intro r hr
  simp only [lid, List.mem_cons, List.not_mem_nil, or_false] at hr
  rcases hr with rfl | rfl | rfl | rfl | rfl | rfl | rfl | rfl <;> simp [Row.Ok]
def lidD : D := .tuple (lid.map rowD)
def dueD : D := .tuple ((stands milkW 2 lid).map stD)
theorem lid_C : sumI (payC milkW) ((stands milkW 2 lid).zip lid) = 1 := by decide +kernel
theorem lid_L : sumI payL ((stands milkW 2 lid).zip lid) = 1 := by decide +kernel
theorem due_e : dueD = .tuple [.tuple [.str "here", .int 0, .int 2, .none], .tuple [.str "called", .int 0, .int 0, .none], .tuple [.str "called", .int 1, .int 1, .none], .tuple [.str "away", .int 1, .int 0, .none], .tuple [.str "away", .int 1, .int 0, .none], .tuple [.str "here", .int 1, .int 0, .int 0], .tuple [.str "here", .int 0, .int 1, .int 0], .tuple [.str "done", .int 3, .int 0, .int 0], .tuple [.str "done", .int 3, .int 0, .int 0]] := by kernel_rfl
theorem lid_e : lidD = .tuple [.tuple [.str "call"], .tuple [.str "did", .int 0], .tuple [.str "left"], .tuple [.str "other", .int 0], .tuple [.str "came", .int 0], .tuple [.str "did", .int 2], .tuple [.str "did", .int 1], .tuple [.str "call"]] := by kernel_rfl
def JO (sc md ld : D) (e : Env) : Prop := ∃ s3 s4 s5 s6 s7 s8 s9 s10 s11 s12 s13 s14 s15 s16 s17 : Slot, e = [.fz sc, .fz md, .fz ld, s3, s4, s5, s6, s7, s8, s9, s10, s11, s12, s13, s14, s15, s16, s17]
def JI (sc md ld : D) (s4 : Slot) (w : Wd) (g st : Nat) (tm : Option Int) (e : Env) : Prop := ∃ (bx : D) (s3 s10 s11 s12 s13 s14 s15 s16 s17 : Slot), e = [.fz sc, .fz md, .fz ld, s3, s4, .ow bx, .fz w.d, .fz (nD g), .fz (nD st), .fz (tmD tm), s10, s11, s12, s13, s14, s15, s16, s17] ∧ isBox bx
def JS3 (sc md ld : D) (s4 s5 : Slot) (w : Wd) (g st : Nat) (tm : Option Int) (s10 : Slot) (log : D) (ss : List D) (s16 s17 : Slot) (ps : List (St × Row)) (i : Nat) (e : Env) : Prop := ∃ (C L : Int) (s14 s15 : Slot), e = [.fz sc, .fz md, .fz ld, .lk (.list ss), s4, s5, .fz w.d, .fz (nD g), .fz (nD st), .fz (tmD tm), s10, .fz log, .fz (.int C), .fz (.int L), s14, s15, s16, s17] ∧ C = sumI (payC w) (ps.take i) ∧ L = sumI payL (ps.take i)
theorem law_w (k : Nat) (ns : List Int) (hns : ns.length ≤ 63) : W (callF pg (k + 10) "law" [.list (ns.map .int)]) (is (.bool true)) := by
  rw [r_law]
  unfold M_law
  have hst := s_standings draws (k + 5) milk_ok 2 lid lid_ok (by decide)
  have hpd := s_paid (k + 4) milk_ok 2 lid lid_ok (by decide)
  rw [lid_C, lid_L] at hpd
  change W (callF pg (k + 9) "standings" [milkW.d, .int 2, lidD]) (is dueD) at hst
  change W (callF pg (k + 9) "paid" [milkW.d, .int 2, lidD]) (is (.tuple [.int 1, .int 1])) at hpd
  have hsame := s_same draws (sm_told (stands milkW 2 lid) 1 1) (k + 5)
  change W (callF pg (k + 9) "_law_same" [.tuple [dueD, .tuple [.int 1, .int 1]], .tuple [dueD, .tuple [.int 1, .int 1]]]) (is (.bool true)) at hsame
  rw [lid_e] at hst hpd
  rw [due_e] at hst hsame
  simp -implicitDefEqProofs [s_milk draws (k + 8)]
  refine hst.mono ?_
  rintro _ rfl
  simp -implicitDefEqProofs
  refine hpd.mono ?_
  rintro _ rfl
  simp -implicitDefEqProofs
  refine hsame.mono ?_
  rintro _ rfl
  simp -implicitDefEqProofs
  clear hst hpd hsame
  generalize PyData.tuple [.tuple [.str "call"], .tuple [.str "did", .int 0], .tuple [.str "left"], .tuple [.str "other", .int 0], .tuple [.str "came", .int 0], .tuple [.str "did", .int 2], .tuple [.str "did", .int 1], .tuple [.str "call"]] = ld
  generalize hj : (if 4 < if 8 < (ns.length : Int) then (8 : Int) else (ns.length : Int) then if 8 < (ns.length : Int) then (8 : Int) else (ns.length : Int) else (4 : Int)) = j
  have hj0 : 0 ≤ j ∧ j ≤ 8 := by
    rw [← hj]
    split <;> split <;> omega
  have hrj : rng1 (.int j) = some (rangeD 0 j.toNat) := rng1_i j hj0.1 (by omega)
  have hr3 : rng1 (.int 3) = some (rangeD 0 3) := rng1_i 3 (by decide) (by decide)
  simp -implicitDefEqProofs [hrj]
  refine W_forJ (JO (.list (ns.map .int)) milkW.d ld) _ _ _ _ _ ⟨_, _, _, _, _, _, _, _, _, _, _, _, _, _, _, rfl⟩ ?_ ?_
  · rintro x e hx ⟨s3, s4, s5, s6, s7, s8, s9, s10, s11, s12, s13, s14, s15, s16, s17, rfl⟩
    obtain ⟨i, hi, rfl⟩ := rangeD_mem hx
    simp -implicitDefEqProofs
    refine (s_box draws (k + 8) ns i).mono ?_
    rintro _ ⟨a, b, rfl⟩
    simp -implicitDefEqProofs
    refine (s_case draws (k + 3) (isBox_i a b) 6 (by decide) (by decide)).mono ?_
    rintro _ ⟨w, n, m, t, g, st, tm, bx, ok, hn2, hd0, hg, hst, htm, hb, rfl⟩
    simp -implicitDefEqProofs [hr3]
    refine W_forJ (JI (.list (ns.map .int)) milkW.d ld (.fz (nD i)) w g st tm) _ _ _ _ _ ⟨bx, _, _, _, _, _, _, _, _, _, rfl, hb⟩ ?_ ?_
    · rintro x e hx ⟨bx, s3, s10, s11, s12, s13, s14, s15, s16, s17, rfl, hb⟩
      obtain ⟨tn, htn, rfl⟩ := rangeD_mem hx
      simp -implicitDefEqProofs
      refine (s_log draws (k + 4) hb ok g st tm 10 (by decide)).mono ?_
      rintro _ ⟨rs, bx, hrl, hrs, hb, rfl⟩
      have hrl2 : rs.length ≤ 1000 := by omega
      simp -implicitDefEqProofs
      refine (s_lstands draws (k + 7) ok st rs hrs hrl2).mono ?_
      rintro _ rfl
      simp -implicitDefEqProofs
      rw [zip_pr]
      have hsok := scan_ok ok (first_ok ok st) hrs
      change ∀ x ∈ stands w st rs, x.Ok n st at hsok
      refine W_for (JS3 (.list (ns.map .int)) milkW.d ld (.fz (nD i)) (.ow bx) w g st tm (.fz (nD tn)) (.tuple (rs.map rowD)) ((stands w st rs).map stD) s16 s17 ((stands w st rs).zip rs)) _ _ _ _ _ ⟨0, 0, _, _, rfl, rfl, rfl⟩ ?_ ?_
      · rintro ii x e hx ⟨C, L, s14, s15, rfl, hC, hL⟩
        obtain ⟨p, hpi, hp, rfl⟩ := zip_at hx
        have htk : ((stands w st rs).zip rs).take (ii + 1) = ((stands w st rs).zip rs).take ii ++ [p] := by rw [List.take_succ, hpi]; rfl
        have hC' : ∀ v, v = payC w p → C + v = sumI (payC w) (((stands w st rs).zip rs).take (ii + 1)) := by intro v hv; rw [htk, sumI_snoc, hC, hv]
        have hL' : ∀ v, v = payL p → L + v = sumI payL (((stands w st rs).zip rs).take (ii + 1)) := by intro v hv; rw [htk, sumI_snoc, hL, hv]
        have hC0 : (0 = payC w p) → C = sumI (payC w) (((stands w st rs).zip rs).take (ii + 1)) := fun h => by have := hC' 0 h; rwa [Int.add_zero] at this
        have hL0 : (0 = payL p) → L = sumI payL (((stands w st rs).zip rs).take (ii + 1)) := fun h => by have := hL' 0 h; rwa [Int.add_zero] at this
        obtain ⟨s, r⟩ := p
        have hs := hsok s (List.of_mem_zip hp).1
        have hr1 := hrs r (List.of_mem_zip hp).2
        obtain ⟨kd, b, nu, pr⟩ := s
        have hbb := hs.b
        simp only at hbb
        unfold prD stD
        simp only
        cases r with
        | did d =>
          obtain ⟨rr, hrr, hrd, hq⟩ := stepAt_e ok hbb hr1
          unfold rowD
          cases hso : stepAt w b d with
          | none =>
            rw [hso] at hrd
            cases kd <;> simp -implicitDefEqProofs [Kind.d, hrr, hrd] <;> exact ⟨_, _, _, _, rfl, hC0 (by simp [payC, atWork, hso]), hL0 (by simp [payL])⟩
          | some q =>
            rw [hso] at hrd
            cases kd with
            | here => simp -implicitDefEqProofs [Kind.d, hrr, hrd]; exact ⟨_, _, _, _, rfl, hC' _ (by simp [payC, atWork, hso]), hL0 (by simp [payL])⟩
            | called => simp -implicitDefEqProofs [Kind.d, hrr, hrd]; exact ⟨_, _, _, _, rfl, hC' _ (by simp [payC, atWork, hso]), hL0 (by simp [payL])⟩
            | away => simp -implicitDefEqProofs [Kind.d]; exact ⟨_, _, _, _, rfl, hC0 (by simp [payC, atWork]), hL0 (by simp [payL])⟩
            | done => simp -implicitDefEqProofs [Kind.d]; exact ⟨_, _, _, _, rfl, hC0 (by simp [payC, atWork]), hL0 (by simp [payL])⟩
        | other d =>
          unfold rowD
          cases kd <;> simp -implicitDefEqProofs [Kind.d] <;> exact ⟨_, _, _, _, rfl, hC0 (by simp [payC]), hL0 (by simp [payL])⟩
        | call =>
          unfold rowD
          cases kd <;> simp -implicitDefEqProofs [Kind.d] <;> exact ⟨_, _, _, _, rfl, hC0 (by simp [payC]), hL0 (by simp [payL])⟩
        | left =>
          unfold rowD
          cases kd with
          | here => simp -implicitDefEqProofs [Kind.d]; exact ⟨_, _, _, _, rfl, hC0 (by simp [payC]), hL' _ (by simp [payL, atWork])⟩
          | called => simp -implicitDefEqProofs [Kind.d]; exact ⟨_, _, _, _, rfl, hC0 (by simp [payC]), hL' _ (by simp [payL, atWork])⟩
          | away => simp -implicitDefEqProofs [Kind.d]; exact ⟨_, _, _, _, rfl, hC0 (by simp [payC]), hL0 (by simp [payL, atWork])⟩
          | done => simp -implicitDefEqProofs [Kind.d]; exact ⟨_, _, _, _, rfl, hC0 (by simp [payC]), hL0 (by simp [payL, atWork])⟩
        | came q =>
          unfold rowD
          cases kd <;> simp -implicitDefEqProofs [Kind.d] <;> exact ⟨_, _, _, _, rfl, hC0 (by simp [payC]), hL0 (by simp [payL])⟩
      · rintro e ⟨C, L, s14, s15, rfl, hC, hL⟩
        rw [List.length_map, List.take_length] at hC hL
        simp -implicitDefEqProofs
        refine (s_standings draws (k + 5) ok st rs hrs hrl2).mono ?_
        rintro _ rfl
        simp -implicitDefEqProofs
        refine (s_paid (k + 4) ok st rs hrs hrl2).mono ?_
        rintro _ rfl
        rw [← hC, ← hL]
        simp -implicitDefEqProofs
        refine (s_same draws (sm_told (stands w st rs) C L) (k + 5)).mono ?_
        rintro _ rfl
        simp -implicitDefEqProofs
        refine (s_takeB draws (k + 8) hb ((rs.length : Int) + 1) (by omega) (by omega)).mono ?_
        rintro _ ⟨r, bx, hb, hr, rfl⟩
        simp -implicitDefEqProofs [slT, slT1, nD]
        have hrt : ∀ x ∈ rs.take r, x.Ok m t := fun x hx => hrs x (List.mem_of_mem_take hx)
        have hs2 := s_standings draws (k + 5) ok st (rs.take r) hrt (by rw [List.length_take]; omega)
        rw [List.map_take] at hs2
        refine hs2.mono ?_
        rintro _ rfl
        have hcm := cmp_neT (fl_sts (stands w st (rs.take r))) (by decide)
        have he : (stands w st (rs.take r)).map stD = ((stands w st rs).map stD).take (r + 1) := by
          unfold stands
          rw [scan_take, List.map_take]
        rw [he] at hcm ⊢
        simp -implicitDefEqProofs [slT1, hcm]
        exact ⟨bx, _, _, _, _, _, _, _, _, _, rfl, hb⟩
    · rintro e ⟨bx, s3, s10, s11, s12, s13, s14, s15, s16, s17, rfl, hb⟩
      simp -implicitDefEqProofs
      exact ⟨_, _, _, _, _, _, _, _, _, _, _, _, _, _, _, rfl⟩
  · rintro e ⟨s3, s4, s5, s6, s7, s8, s9, s10, s11, s12, s13, s14, s15, s16, s17, rfl⟩
    simp -implicitDefEqProofs
    exact is_i _
theorem law_true (ns : List Int) (h : ns.length ≤ 63) : ∃ b o, callF pg 20 "law" [.list (ns.map .int)] = some (b, .bool true, o) := by
  obtain ⟨_, e, rfl⟩ := law_w 10 ns h
  exact ⟨_, _, e⟩
end Mp.P64

namespace Law
open PySem PySem.Spec PyProof.Rows L2 Mp
theorem law_true (ns : List Int) (h : ns.length ≤ 63) : ∃ b o, callF pg 20 "law" [.list (ns.map .int)] = some (b, .bool true, o) := Mp.P64.law_true ns h
theorem law_fn : pg.fn? "law" = some f38 := by kernel_rfl
theorem facts {w : World} {K : PySem.W.Frag} {h : Heap} {mg : Str → Option Value} {f : Addr} (X : K.In h) (G : h.Ns mainGlobals mg) (hfa : mg ("law" : Str) = some (.ref f)) (c : He.SaysD fa fn K) :
    ∃ (fd : FuncData) (sp : Sp), (∀ (s : Shared) (v : Value), BindsTo s fd ⟨[v], []⟩ [("script", v)]) ∧
      (∀ (H : Hp) (a : Addr) (ns : List Int), ns.length ≤ 63 → Only H → SqL K H a (ns.map V.int) → sp [.ref a] H (fun v _ => v = .bl true) fun _ _ _ => False) ∧
      ∀ base : Heap, K.In base → base.Ns mainGlobals mg → FnOk pw w K mg base CX0 20 f fd ["script"] sp := by
  have t : Txt pw w K mg pg := txt_of X G c fb (by kernel_rfl)
  obtain ⟨fa', fd, k1, F, S, l, B, _⟩ := t.fun_ "law" f38 law_fn
  rw [hfa] at k1
  cases k1
  refine ⟨fd, spF pw w K (callF pg 20) f38.lent "law", fun s v => F.bindsA (ps := ["script"]) b38.bind s [v] rfl, fun H a ns hl ho hS => ?_, fun base _ _ => ?_⟩
  · obtain ⟨b, o, e⟩ := law_true ns hl
    exact law_entry rfl ho hS ⟨b, e⟩ _
  · obtain ⟨fa2, fd2, z1, F2, _, z3, _⟩ := fns_ok (base := base) t 20 "law" f38 law_fn
    rw [hfa] at z1
    cases z1
    rw [fd_uniq F F2]
    exact z3
end Law
open PySem PySem.W PySem.Calls PyProof.Rows
theorem PySem.Challenge.cw_lefthalfdone_k64_whole_what_stands_behin_holds : PySem.Challenge.rw_lefthalfdone_k64_whole_what_stands_behin.Holds := by
  w_on
  o_law
  refine HandSHeadRun.head_any (r := OpenLaw.row PySem.Challenge.rw_lefthalfdone_k64_whole_what_stands_behin) (q := view (OpenLaw.row PySem.Challenge.rw_lefthalfdone_k64_whole_what_stands_behin).prog [38]) (H := Law.hk) (ob := Law.ob) (M := 3000) (loose := Law.loose) (d := HandSHeadRun.topDef (OpenLaw.row PySem.Challenge.rw_lefthalfdone_k64_whole_what_stands_behin).prog 38) (kwd := []) Law.ob_eq (by kernel_rfl) (fun s => by kernel_rfl) Law.run (by kernel_rfl) (by kernel_rfl) (by kernel_rfl) (by rfl) (by first | assumption | decide +kernel) (by decide +kernel) ⟨rfl, rfl, rfl, rfl, rfl, by decide +kernel⟩ ?hw ?hc
  case hw => w_witness2
  case hc =>
    refine L2.walk_ofE (l := PySem.Challenge.rw_lefthalfdone_k64_whole_what_stands_behin) (n := 63) (k := 20) (x := "script") (CX := L2.CX0) rfl (by decide) (by kernel_rfl) ⟨rfl, by decide, by decide⟩ ?F (fun _ _ _ _ z => z)
    intro w mg fa h Y G hmg0
    obtain ⟨K, KX, c⟩ := Y
    have e : (HandSHeadRun.topDef (OpenLaw.row PySem.Challenge.rw_lefthalfdone_k64_whole_what_stands_behin).prog 38).name = ("law" : PySem.Str) := by kernel_rfl
    have hmg : mg ("law" : PySem.Str) = some (.ref fa) := by rw [← e]; exact hmg0
    obtain ⟨fd, sp, hb, hsp, hF⟩ := Law.facts (w := w) KX G hmg c
    exact ⟨K, fd, sp, KX, hb, hsp, hF⟩
