import PyProof.Rows.All
import Wide.All
import OpenK.AllK
import Wide.FinOn
import KE.KStateDown
import HandS.ForMost
import HandS.Exc
import HandS.ExcOwn
import HandS.CallSlots
import HandS.TupAny
import HandS.TupMul
import HandS.TupLe
import HandS.IsInst
import HandS.Deep
import KE.DataMinMax
import KE.SortData
import HandS.HeadHook1
import HandS.Style
import HandS.Conv
import HandS.Flow
import HandS.Walk
import HandS.TryOnly
import HandS.Strs
import HandS.SortOrd
import KE.KTupSum
import HandS.RaiseMore
import HandS.TryMany
import HandS.ExcInit
import HandS.ExcField
import HandS.ExcIs
import KE.KExcIs
import HandS.HeadHook2
import HandS.Iter
import HandS.Zip
import HandS.Rev
import KE.GoesEnum
import HandS.More
import HandS.Dict
import HandS.DictComp
import HandS.SortInts
import HandS.TupSets
import HandS.SetFor
import HandS.WordsDict
import HandS.SortKw
import PyProof.Rows.TupDisplay
import KE.SortKeyHeap
import HandS.CallRecv
import HandS.Defaults
import HandS.Ends
import HandS.Words
import HandS.WordsExc
import HandS.Head0
import HandS.Head1
import HandS.Head2
import HandS.HeadEnd
import PySem.Challenge.RW_rankswithin_k72_whole_commands_of_notebo
set_option Elab.async false
set_option linter.all false
set_option maxRecDepth 100000
/-! Engine, part A: a small syntax, what it means over plain data. By an AI agent. -/
namespace Eg
open PySem
abbrev D := PyData

/-! ### data: equality decided -/
mutual
def same : D → D → Bool
  | .none, .none => true
  | .bool a, .bool b => a == b
  | .int a, .int b => a == b
  | .str a, .str b => a == b
  | .list a, .list b => sames a b
  | .tuple a, .tuple b => sames a b
  | .dict a, .dict b => samek a b
  | _, _ => false
def sames : List D → List D → Bool
  | [], [] => true
  | x :: xs, y :: ys => same x y && sames xs ys
  | _, _ => false
def samek : List (D × D) → List (D × D) → Bool
  | [], [] => true
  | (a, b) :: xs, (c, d) :: ys => same a c && same b d && samek xs ys
  | _, _ => false
end
mutual
theorem same_ok : ∀ a b : D, same a b = true → a = b
  | .none, b, h => by cases b <;> simp_all [same]
  | .bool x, b, h => by cases b <;> simp_all [same]
  | .int x, b, h => by cases b <;> simp_all [same]
  | .str x, b, h => by cases b <;> simp_all [same]
  | .list x, b, h => by
    cases b <;> simp only [same, Bool.false_eq_true] at h
    exact congrArg _ (sames_ok _ _ h)
  | .tuple x, b, h => by
    cases b <;> simp only [same, Bool.false_eq_true] at h
    exact congrArg _ (sames_ok _ _ h)
  | .dict x, b, h => by
    cases b <;> simp only [same, Bool.false_eq_true] at h
    exact congrArg _ (samek_ok _ _ h)
theorem sames_ok : ∀ a b : List D, sames a b = true → a = b
  | [], b, h => by cases b <;> simp_all [sames]
  | x :: xs, b, h => by
    cases b <;> simp only [sames, Bool.false_eq_true, Bool.and_eq_true] at h
    rw [same_ok _ _ h.1, sames_ok _ _ h.2]
theorem samek_ok : ∀ a b : List (D × D), samek a b = true → a = b
  | [], b, h => by cases b <;> simp_all [samek]
  | (x, y) :: xs, b, h => by
    cases b with
    | nil => simp [samek] at h
    | cons z zs =>
      obtain ⟨z1, z2⟩ := z
      simp only [samek, Bool.and_eq_true] at h
      rw [same_ok _ _ h.1.1, same_ok _ _ h.1.2, samek_ok _ _ h.2]
end
mutual
theorem same_refl : ∀ a : D, same a a = true
  | .none => by simp [same]
  | .bool _ => by simp [same]
  | .int _ => by simp [same]
  | .str _ => by simp [same]
  | .list x => by simp [same, sames_refl x]
  | .tuple x => by simp [same, sames_refl x]
  | .dict x => by simp [same, samek_refl x]
theorem sames_refl : ∀ a : List D, sames a a = true
  | [] => by simp [sames]
  | x :: xs => by simp [sames, same_refl x, sames_refl xs]
theorem samek_refl : ∀ a : List (D × D), samek a a = true
  | [] => by simp [samek]
  | (x, y) :: xs => by simp [samek, same_refl x, same_refl y, samek_refl xs]
end
instance decD : DecidableEq PyData := fun a b =>
  if h : same a b = true then isTrue (same_ok a b h) else isFalse fun e => h (e ▸ same_refl a)

/-! ### values, memory, results -/
/-- a value: plain data; the i-th object of the memory; the script (a list that is only copied) -/
inductive Vl where
  | p (d : D) | r (i : Nat) | s (ds : List D)
  deriving DecidableEq
inductive MO where
  | lst (ds : List D)
  | dic (kvs : List (D × D))
  | dit (kvs : List (List Int × D))
  | ins (c : String) (fs : List (Str × Vl))
  deriving DecidableEq
abbrev Mem := List MO
abbrev Sg := List (Option Vl)
inductive Rs (α : Type) where
  | bad
  | ok (a : α) (M : Mem)
  | exc (c : String) (fs : List (String × D)) (M : Mem)
def Rs.bind {α β : Type} (r : Rs α) (k : α → Mem → Rs β) : Rs β := match r with
  | .bad => .bad
  | .ok a M => k a M
  | .exc c fs M => .exc c fs M
@[simp] theorem Rs.bind_bad {α β : Type} (k : α → Mem → Rs β) : (Rs.bad).bind k = .bad := rfl
@[simp] theorem Rs.bind_ok {α β : Type} (a : α) (M : Mem) (k : α → Mem → Rs β) : (Rs.ok a M).bind k = k a M := rfl
@[simp] theorem Rs.bind_exc {α β : Type} (c : String) (fs : List (String × D)) (M : Mem) (k : α → Mem → Rs β) : (Rs.exc c fs M).bind k = .exc c fs M := rfl
def Rs.of {α : Type} (M : Mem) : Option α → Rs α
  | some a => .ok a M
  | none => .bad
@[simp] theorem Rs.of_some {α : Type} (M : Mem) (a : α) : Rs.of M (some a) = .ok a M := rfl
@[simp] theorem Rs.of_none {α : Type} (M : Mem) : (Rs.of M none : Rs α) = .bad := rfl

/-- what a value holds, as data -/
def look (M : Mem) : Vl → Option D
  | .p d => some d
  | .r i => match M[i]? with
    | some (.lst ds) => some (.list ds)
    | _ => none
  | .s _ => none
@[simp] theorem look_p (M : Mem) (d : D) : look M (.p d) = some d := rfl
/-- plain data alone -/
def plain : Vl → Option D
  | .p d => some d
  | _ => none
@[simp] theorem plain_p (d : D) : plain (.p d) = some d := rfl
@[simp] theorem plain_r (i : Nat) : plain (.r i) = none := rfl
def plains : List Vl → Option (List D)
  | [] => some []
  | .p d :: vs => (plains vs).map (d :: ·)
  | _ :: _ => none
@[simp] theorem plains_nil : plains [] = some [] := rfl
@[simp] theorem plains_cons (d : D) (vs : List Vl) : plains (.p d :: vs) = (plains vs).map (d :: ·) := rfl
theorem plains_map (ds : List D) : plains (ds.map .p) = some ds := by
  induction ds with
  | nil => rfl
  | cons d ds ih => rw [List.map_cons, plains_cons, ih]; rfl

/-! ### operations on data -/
def line : Nat := 16777216
mutual
/-- nested at most n deep, no dict within -/
def flat : Nat → D → Bool
  | 0, .list _ => false
  | 0, .tuple _ => false
  | n + 1, .list ds => flats n ds
  | n + 1, .tuple ds => flats n ds
  | _, .dict _ => false
  | _, .str x => PyData.strOk x
  | _, _ => true
def flats : Nat → List D → Bool
  | _, [] => true
  | n, d :: ds => flat n d && flats n ds
end
/-- data that stand in one order -/
def alikes (ds : List D) : Bool := ds.all fun a => ds.all fun b => PySem.W.alike a b
def noNone (ds : List D) : Bool := ds.all fun d => decide (d ≠ .none)
def tupC : D → Bool
  | .tuple (_ :: _) => true
  | _ => false
def nonT : D → Bool
  | .none => false
  | .tuple _ => false
  | _ => true
def sortbl (ds : List D) : Bool := ds.all tupC || ds.all nonT
def dataLt (a b : D) : Bool := PySem.W.dataLt a b
def sortD (ds : List D) : List D := ds.mergeSort fun a b => !dataLt b a
def leastD (d : D) (ds : List D) : D := ds.foldl (fun a y => if dataLt y a then y else a) d
def mostD (d : D) (ds : List D) : D := ds.foldl (fun a y => if dataLt a y then y else a) d
inductive BOp where | add | sub | mul | fdiv | mod | pow
  deriving DecidableEq
inductive COp where | lt | le | gt | ge | eq | ne | isin | notin | is_ | isn
  deriving DecidableEq
inductive Bi where | len | abs | int | list | tuple | sum | all | any | max | min | str
  deriving DecidableEq
inductive Ty where | int | bool | str | tuple | list | none
  deriving DecidableEq

/-! texts -/
/-- the text of one sign -/
def chS (c : Nat) : Str := ⟨#[c]⟩
def repS (x : Str) (n : Nat) : Str := ⟨(List.replicate n x.cps.toList).flatten.toArray⟩
def inS (x y : Str) : Option Bool := match x.cps.toList with
  | [c] => some (decide (c ∈ y.cps.toList))
  | _ => none
def small64 (i : Int) : Bool := decide (-(2 ^ 64) < i ∧ i < 2 ^ 64)
def binop : BOp → D → D → Option D
  | .add, .int i, .int j => some (.int (i + j))
  | .add, .str x, .str y => if x.length + y.length ≤ line then some (.str (x ++ y)) else none
  | .add, .list x, .list y => if x.length + y.length ≤ line then some (.list (x ++ y)) else none
  | .add, .tuple x, .tuple y => if x.length + y.length ≤ line then some (.tuple (x ++ y)) else none
  | .sub, .int i, .int j => some (.int (i - j))
  | .mul, .int i, .int j => if small64 i || small64 j then some (.int (i * j)) else none
  | .mul, .str x, .int j => if 0 ≤ j ∧ j ≤ 1000 ∧ x.length ≤ 1000 then some (.str (repS x j.toNat)) else none
  | .mul, .list x, .int j => if 0 ≤ j ∧ j < 2 ^ 62 ∧ x.length * j.toNat ≤ line then some (.list (List.replicate j.toNat x).flatten) else none
  | .mul, .tuple x, .int j => if x ≠ [] ∧ 2 ≤ j ∧ j ≤ 1000 ∧ x.length ≤ 1000 then some (.tuple (List.replicate j.toNat x).flatten) else if j = 1 then some (.tuple x) else none
  | .fdiv, .int i, .int j => if j ≠ 0 ∧ j.natAbs < 1073741824 then some (.int (i.fdiv j)) else none
  | .mod, .int i, .int j => if j ≠ 0 then some (.int (i.fmod j)) else none
  | .pow, .int i, .int j => if 0 ≤ j ∧ j ≤ 1000000 ∧ i.natAbs < 2 ^ 64 then some (.int (i ^ j.toNat)) else none
  | _, _, _ => none
/-- a list of intsOf, of boolsOf -/
def intsOf : List D → Option (List Int)
  | [] => some []
  | .int i :: ds => (intsOf ds).map (i :: ·)
  | _ :: _ => none
def boolsOf : List D → Option (List Bool)
  | [] => some []
  | .bool b :: ds => (boolsOf ds).map (b :: ·)
  | _ :: _ => none
def lexLt : List Int → List Int → Bool
  | [], [] => false
  | [], _ :: _ => true
  | _ :: _, [] => false
  | x :: xs, y :: ys => if x = y then lexLt xs ys else decide (x < y)
/-- tuples of ints, not greater -/
def leI (ns ms : List Int) : Bool := Ob.lexAt (fun j => decide (ns.getD j 0 = ms.getD j 0)) (fun j => decide (ns.getD j 0 ≤ ms.getD j 0)) (decide (ns.length ≤ ms.length)) 0 (min ns.length ms.length)
def cmpop : COp → D → D → Option Bool
  | .lt, .int i, .int j => some (decide (i < j))
  | .lt, .tuple x, .tuple y => match intsOf x, intsOf y with
    | some a, some b => some (lexLt a b)
    | _, _ => none
  | .le, .int i, .int j => some (decide (i ≤ j))
  | .le, .tuple x, .tuple y => match intsOf x, intsOf y with
    | some a, some b => some (leI a b)
    | _, _ => none
  | .gt, .int i, .int j => some (decide (j < i))
  | .ge, .int i, .int j => some (decide (j ≤ i))
  | .eq, a, b => if flat 60 a && flat 60 b then some (PyData.eqv a b) else none
  | .ne, a, b => if flat 60 a && flat 60 b then some (!PyData.eqv a b) else none
  | .isin, a, .list ds => if flat 60 a && flats 60 ds then some (ds.any fun z => PyData.eqv z a) else none
  | .isin, a, .tuple ds => if flat 60 a && flats 60 ds then some (ds.any fun z => PyData.eqv z a) else none
  | .notin, a, .list ds => if flat 60 a && flats 60 ds then some (!ds.any fun z => PyData.eqv z a) else none
  | .notin, a, .tuple ds => if flat 60 a && flats 60 ds then some (!ds.any fun z => PyData.eqv z a) else none
  | .isin, .str x, .str y => inS x y
  | .notin, .str x, .str y => (inS x y).map (!·)
  | .is_, a, .none => some (decide (a = .none))
  | .isn, a, .none => some (!decide (a = .none))
  | .is_, .bool a, .bool b => some (decide (a = b))
  | .isn, .bool a, .bool b => some (!decide (a = b))
  | _, _, _ => none
def truth : D → Option Bool
  | .none => some false
  | .bool b => some b
  | .int i => some (i != 0)
  | .list ds => some (!ds.isEmpty)
  | .tuple ds => some (!ds.isEmpty)
  | .str x => if x.length ≤ line then some (x.length != 0) else none
  | .dict _ => none
/-- the place of an index -/
def place (n : Nat) (i : Int) : Option Nat := if 0 ≤ i then (if i < n then some i.toNat else none) else if 0 ≤ i + n then some (i + n).toNat else none
def charAt (x : Str) (i : Int) : Option D := if x.length ≤ line then (place x.cps.toList.length i).bind fun k => (x.cps.toList[k]?).map fun c => .str (chS c) else none
def clip (n d : Nat) : Option Int → Nat
  | none => d
  | some v => if v < 0 then (v + (n : Int)).toNat else min v.toNat n
def getIx : D → D → Option D
  | .list ds, .int i => (place ds.length i).bind fun k => ds[k]?
  | .tuple ds, .int i => (place ds.length i).bind fun k => ds[k]?
  | .str x, .int i => charAt x i
  | _, _ => none
def cutT (x : Str) (lo hi : Option Int) : Str := ⟨((x.cps.toList.drop (clip x.length 0 lo)).take (clip x.length x.length hi - clip x.length 0 lo)).toArray⟩
def cut (xs : List D) (lo hi : Option Int) : List D := (xs.drop (clip xs.length 0 lo)).take (clip xs.length xs.length hi - clip xs.length 0 lo)
def getSl : D → Option Int → Option Int → Option D
  | .list ds, lo, hi => some (.list (cut ds lo hi))
  | .tuple ds, lo, hi => some (.tuple (cut ds lo hi))
  | .str x, lo, hi => if x.length ≤ line then some (.str (cutT x lo hi)) else none
  | _, _, _ => none
/-- max, min of a list -/
def mmL (c : Bool) (ds : List D) : Option D := match intsOf ds with
  | some (n :: ns) => some (.int (if c then ns.foldl max n else ns.foldl min n))
  | some [] => none
  | none => if flats 58 ds && alikes ds && noNone ds then (match ds with
    | d :: r => some (if c then mostD d r else leastD d r)
    | [] => none) else none
def mmT (c : Bool) (ds : List D) : Option D := if flats 58 ds && alikes ds && noNone ds then (match ds with
    | d :: r => some (if c then mostD d r else leastD d r)
    | [] => none) else none
def builtin : Bi → D → Option D
  | .len, .list ds => some (.int ds.length)
  | .len, .tuple ds => some (.int ds.length)
  | .len, .str x => if x.length ≤ line then some (.int x.length) else none
  | .abs, .int i => some (.int (if i < 0 then -i else i))
  | .int, .int i => some (.int i)
  | .int, .bool b => some (.int (if b then 1 else 0))
  | .int, .str x => if x.length ≤ 640 then (PySem.intText? x).map .int else none
  | .str, .int i => if small64 i then some (.str (Str.ofString (toString i))) else none
  | .str, .str x => some (.str x)
  | .list, .list ds => some (.list ds)
  | .list, .tuple ds => some (.list ds)
  | .tuple, .list ds => some (.tuple ds)
  | .tuple, .tuple ds => some (.tuple ds)
  | .sum, .list ds => (intsOf ds).map fun ns => .int ns.sum
  | .sum, .tuple ds => (intsOf ds).map fun ns => .int ns.sum
  | .all, .list ds => (boolsOf ds).map fun bs => .bool (bs.all id)
  | .any, .list ds => (boolsOf ds).map fun bs => .bool (bs.any id)
  | .max, .list ds => mmL true ds
  | .min, .list ds => mmL false ds
  | .max, .tuple ds => mmT true ds
  | .min, .tuple ds => mmT false ds
  | _, _ => none
def isTy : Ty → D → Bool
  | .int, .int _ => true
  | .int, .bool _ => true
  | .bool, .bool _ => true
  | .str, .str _ => true
  | .tuple, .tuple _ => true
  | .list, .list _ => true
  | .none, .none => true
  | _, _ => false

/-! ### exceptions -/
/-- the program's tree of exceptions -/
def isSub (c t : String) : Bool := c == t || (t == "ValueError" || (t == "RankError" && c != "Ahead"))
mutual
/-- what an except suite says of its exception: a field of the class o, .. -/
inductive SuE where
  | fld (o f : String) | con (d : D) | tup (es : SuEs) | lst (es : SuEs) | isi (t : String) | ite (ts : List String) (a b : SuE)
inductive SuEs where
  | nil | cons (e : SuE) (es : SuEs)
end
inductive Su where
  | ret (e : SuE) | ifr (ts : List String) (e : SuE) (r : Su) | app (i : Nat) (e : SuE) (r : Su) | done
structure Hd where
  cls : String
  slot : Option Nat
  su : Su
mutual
def evU (c : String) (fs : List (String × D)) : SuE → Option D
  | .fld o f => if c = o then fs.lookup f else none
  | .con d => some d
  | .tup es => (evUs c fs es).map .tuple
  | .lst es => (evUs c fs es).map .list
  | .isi t => some (.bool (isSub c t))
  | .ite ts a b => if ts.all (isSub c) then evU c fs a else evU c fs b
def evUs (c : String) (fs : List (String × D)) : SuEs → Option (List D)
  | .nil => some []
  | .cons e es => (evU c fs e).bind fun v => (evUs c fs es).map (v :: ·)
end
/-! ### syntax -/
inductive Tg where
  | nm (i : Nat) | tp (is : List Nat)
mutual
inductive Ex where
  | var (i : Nat)
  | con (d : D)
  | gcon (x : String) (d : D)
  | bin (o : BOp) (a b : Ex)
  | neg (a : Ex)
  | not (a : Ex)
  | cmp (o : COp) (a b : Ex)
  | cmp2 (o o' : COp) (a b c : Ex)
  | cmp3 (o o' o2 : COp) (a b c d : Ex)
  | and (es : Exs)
  | or (es : Exs)
  | ite (c a b : Ex)
  | tup (es : Exs)
  | lst (es : Exs)
  | ix (a i : Ex)
  | sl (a : Ex) (lo hi : Ops)
  | rev (a : Ex)
  | bi (b : Bi) (a : Ex)
  | isi (a : Ex) (t : Ty)
  | rngl (tupl : Bool) (es : Exs)
  | lc (elt : Ex) (tg : Tg) (it : It) (ifs : Exs) (own : List Nat)
  | call (f : String) (es : Exs)
  | pop (o : Ex) (es : Exs)
  | srt (a : Ex)
  | mm2 (big : Bool) (a b : Ex)
  | idx (o v : Ex)
  | srs (a : Ex)
  | dgi (ps : Pxs) (key : Ex)
  | dgt (ps : Pxs) (key dfl : Ex)
  | dx (o key : Ex)
  | dg (o key dfl : Ex)
  | srk (a : Ex)
  | cnt (o v : Ex)
  | ldc (k v : Ex) (tg : Tg) (it : It) (ifs : Exs) (own : List Nat)
  | lc2 (elt : Ex) (tg : Tg) (it : It) (ifs : Exs) (own : List Nat) (tg1 : Tg) (it1 : It) (ifs1 : Exs) (own1 : List Nat)
  | join (sep l : Ex)
  | callz (f : String) (e : Ex) (es : Exs)
  | fld (c : String) (o : Ex) (f : String)
  | meth (c : String) (o : Ex) (m : String) (es : Exs)
  | mk (c : String) (ns : Nat) (ini : Inis) (es : Exs)
/-- what an __init__ does: calls, fields with values, fields with new lists -/
inductive Inis where
  | nil | drop (e : Ex) (r : Inis) | fld (f : String) (e : Ex) (r : Inis) | new (f : String) (es : Exs) (r : Inis)
inductive Pxs where
  | nil | cons (k v : Ex) (ps : Pxs)
inductive Exs where
  | nil | cons (e : Ex) (es : Exs)
inductive Ops where
  | non | som (e : Ex)
inductive It where
  | sq (e : Ex)
  | rng (es : Exs)
  | enm (e : Ex)
  | zip (a b : Ex)
  | rvd (e : Ex)
end
/-- what makes a list for the memory -/
inductive Nw where
  | lst (es : Exs)
  | lis (e : Ex)
  | rng (e : Ex)
  | add (a b : Ex)
  | mul (a b : Ex)
  | lc (elt : Ex) (tg : Tg) (it : It) (ifs : Exs) (own : List Nat)
mutual
inductive Sm where
  | set (t : Tg) (e : Ex)
  | new (i : Nat) (e : Nw)
  | newd (i : Nat) (k v : Ex) (tg : Tg) (it : It) (ifs : Exs) (own : List Nat)
  | newp (i : Nat) (ps : Pxs)
  | newt (i : Nat) (k v : Ex)
  | retn (e : Nw)
  | par (i j : Nat) (a b : Ex)
  | put (o i v : Ex)
  | putd (o i v : Ex)
  | app (o v : Ex)
  | ext (o v : Ex)
  | drop (e : Ex)
  | doc
  | ret (e : Ex)
  | ite (c : Ex) (a b : Sms)
  | whl (c : Ex) (b : Sms)
  | fr (t : Tg) (it : It) (b : Sms)
  | brk
  | never
  | rse (c : String) (fl : List String) (es : Exs)
  | tr (kn : List String) (b : Sms) (hs : List Hd)
  | rett (es : Exs)
  | setf (c : String) (o : Ex) (f : String) (e : Ex)
  | augf (c : String) (o : Ex) (f : String) (e : Ex)
inductive Sms where
  | nil | cons (s : Sm) (ss : Sms)
end

/-! ### meaning -/
abbrev Fns := String → List Vl → Mem → Rs Vl
def wipe (σ : Sg) : List Nat → Sg
  | [] => σ
  | v :: vs => (wipe σ vs).set v none
def putAll : List Nat → List D → Sg → Option Sg
  | [], [], σ => some σ
  | i :: is, d :: ds, σ => putAll is ds (σ.set i (some (.p d)))
  | _, _, _ => none
def store : Tg → D → Sg → Option Sg
  | .nm i, d, σ => some (σ.set i (some (.p d)))
  | .tp is, .tuple ds, σ => putAll is ds σ
  | .tp is, .list ds, σ => putAll is ds σ
  | .tp _, _, _ => none
/-- what is walked: the items; the list of the memory that has to stay -/
structure Wk where
  items : List D
  stay : Option Nat
def Wk.ok (w : Wk) (M : Mem) : Bool := match w.stay with
  | none => true
  | some i => decide (M[i]? = some (.lst w.items))
def walkOf (M : Mem) : Vl → Option Wk
  | .p (.list ds) => some ⟨ds, none⟩
  | .p (.tuple ds) => some ⟨ds, none⟩
  | .p (.str x) => some ⟨x.cps.toList.map fun c => .str (chS c), none⟩
  | .r i => match M[i]? with
    | some (.lst ds) => some ⟨ds, some i⟩
    | _ => none
  | _ => none
def rangeD (lo hi : Int) : List D := (List.range (hi - lo).toNat).map fun (k : Nat) => .int (lo + k)
def big62 (i : Int) : Bool := decide (-(2 ^ 62) ≤ i ∧ i < 2 ^ 62)
def rangeOf : List Vl → Option (List D)
  | [.p (.int j)] => if big62 j then some (rangeD 0 j) else none
  | [.p (.int i), .p (.int j)] => if big62 i && big62 j then some (rangeD i j) else none
  | _ => none
def enumD (ds : List D) : List D := (List.range ds.length).zipWith (fun (k : Nat) d => .tuple [.int k, d]) ds
def zipD (as bs : List D) : List D := as.zipWith (fun a b => .tuple [a, b]) bs
def zipW0 : Vl → Vl → Option Wk
  | .p (.list a), .p (.list b) => some ⟨zipD a b, none⟩
  | .p (.tuple a), .p (.tuple b) => some ⟨zipD a b, none⟩
  | _, _ => none
def zipW : Vl → Vl → Option Wk
  | .p (.list a), .p (.tuple b) => some ⟨zipD a b, none⟩
  | x, y => zipW0 x y
/-- the loop of a comprehension -/
def lcLoop (w : Wk) (step : D → Mem → Rs (List D)) : List D → Mem → List D → Rs (List D)
  | [], M, acc => .ok acc M
  | x :: xs, M, acc => match step x M with
    | .ok r M' => if w.ok M' then lcLoop w step xs M' (acc ++ r) else .bad
    | _ => .bad
def fStep (own : List Nat) (tg : Tg) (ft : Sg → Mem → Rs Bool) (fe : Sg → Mem → Rs Vl) (g : Sg) (d : D) (M : Mem) : Rs (List D) := match store tg d (wipe g own) with
  | none => .bad
  | some g' => (ft g' M).bind fun c M' => if c then (fe g' M').bind fun y M'' => Rs.of M'' ((plain y).map fun d => [d]) else .ok [] M'
/-- the comprehension, its list as data -/
def fLc (own : List Nat) (tg : Tg) (fi : Sg → Mem → Rs Wk) (ft : Sg → Mem → Rs Bool) (fe : Sg → Mem → Rs Vl) : Sg → Mem → Rs (List D) := fun g M => (fi g M).bind fun w M1 =>
  if w.items.length ≤ line then lcLoop w (fStep own tg ft fe g) w.items M1 [] else .bad
/-- a comprehension of two clauses -/
def fStep2 (own : List Nat) (tg : Tg) (ft : Sg → Mem → Rs Bool) (own1 : List Nat) (tg1 : Tg) (fi1 : Sg → Mem → Rs Wk) (ft1 : Sg → Mem → Rs Bool) (fe : Sg → Mem → Rs Vl) (g : Sg) (d : D) (M : Mem) : Rs (List D) := match store tg d (wipe g own) with
  | none => .bad
  | some g' => (ft g' M).bind fun c M' => if c then (fi1 g' M').bind fun w M1 => if w.items.length ≤ 1000 then lcLoop w (fStep own1 tg1 ft1 fe g') w.items M1 [] else .bad else .ok [] M'
def fLc2 (own : List Nat) (tg : Tg) (fi : Sg → Mem → Rs Wk) (ft : Sg → Mem → Rs Bool) (own1 : List Nat) (tg1 : Tg) (fi1 : Sg → Mem → Rs Wk) (ft1 : Sg → Mem → Rs Bool) (fe : Sg → Mem → Rs Vl) : Sg → Mem → Rs (List D) := fun g M => (fi g M).bind fun w M1 =>
  if w.items.length ≤ 1000 then lcLoop w (fStep2 own tg ft own1 tg1 fi1 ft1 fe g) w.items M1 [] else .bad
/-- a text -/
def isSt : Vl → Bool
  | .p (.str _) => true
  | _ => false
/-- lists of the memory, handed on as data to a def that only looks -/
def fzV (M : Mem) : Vl → Option D
  | .p d => some d
  | .r i => match M[i]? with
    | some (.lst ds) => some (.list ds)
    | _ => none
  | .s _ => none
def fzVs (M : Mem) : List Vl → Option (List D)
  | [] => some []
  | v :: vs => (fzV M v).bind fun d => (fzVs M vs).map (d :: ·)
def zOf (F : List Vl → Mem → Rs Vl) (M : Mem) (x : Vl) (vs : List Vl) : Option Vl := (fzV M x).bind fun d => (fzVs M vs).bind fun ds => match F [.p d, .p (.list ds)] [] with
  | .ok (.p (.bool b)) [] => some (.p (.bool b))
  | _ => none
/-- sep.join(l), l of texts -/
def strsOf : List D → Option (List Str)
  | [] => some []
  | .str x :: ds => (strsOf ds).map (x :: ·)
  | _ :: _ => none
def joinOf (M : Mem) (x y : Vl) : Option Vl := (plain x).bind fun x => (look M y).bind fun y => match x, y with
  | .str a, .list ds => (strsOf ds).bind fun ys => if (ys.map (·.length)).sum + ys.length * a.length ≤ line then some (.p (.str (PySem.Txt.join a ys))) else none
  | _, _ => none
def fBi (b : Bi) (M : Mem) (v : Vl) : Rs Vl := match b, v with
  | .list, .s ds => .ok (.p (.list ds)) M
  | _, _ => Rs.of M ((look M v).bind fun x => (builtin b x).map .p)
def fRng (tupl : Bool) (vs : List Vl) (M : Mem) : Rs Vl := Rs.of M ((rangeOf vs).bind fun ds => if ds.length ≤ line then some (.p (if tupl then .tuple ds else .list ds)) else none)
def fRw (vs : List Vl) (M : Mem) : Rs Wk := Rs.of M ((rangeOf vs).map fun ds => ⟨ds, none⟩)
/-- a list of the memory -/
def isL (M : Mem) : Vl → Bool
  | .r i => match M[i]? with
    | some (.lst _) => true
    | _ => false
  | _ => false
/-- a list, a tuple -/
def isSq (M : Mem) (v : Vl) : Bool := match look M v with
  | some (.list _) => true
  | some (.tuple _) => true
  | _ => false
/-! dicts: entries made one behind another -/
def keyB : D → Bool
  | .int _ => true
  | .str _ => true
  | _ => false
def putD (kvs : List (D × D)) (k v : D) : List (D × D) :=
  if (kvs.any fun q => decide (q.1 = k)) = true then kvs.map (fun q => if q.1 = k then (q.1, v) else q) else kvs ++ [(k, v)]
def putP (kvs : List (D × D)) : D → List (D × D)
  | .tuple [k, v] => putD kvs k v
  | _ => kvs
def pairOf : Vl → Vl → Option Vl
  | .p k, .p v => if keyB k then some (.p (.tuple [k, v])) else none
  | _, _ => none
def fPair (fk fv : Sg → Mem → Rs Vl) : Sg → Mem → Rs Vl := fun g M => (fk g M).bind fun x M1 => (fv g M1).bind fun y M2 => Rs.of M2 (pairOf x y)
/-- max, min of two ints -/
def mmOf (c : Bool) : Vl → Vl → Option Vl
  | .p (.int i), .p (.int j) => some (.p (.int (if c then (if j > i then j else i) else (if j < i then j else i))))
  | _, _ => none
/-- sorted, ints -/
def sortI (ns : List Int) : List Int := ns.mergeSort (fun a b => decide (a ≤ b))
def keysI : List (D × D) → Option (List Int)
  | [] => some []
  | (.int i, _) :: r => (keysI r).map (i :: ·)
  | _ :: _ => none
def srtL (ds : List D) : Option (List D) := match intsOf ds with
  | some ns => if ns.length < 64 then some ((sortI ns).map .int) else none
  | none => if flats 58 ds && alikes ds && sortbl ds then some (sortD ds) else if ds.length = 1 then some ds else none
def srtT (ds : List D) : Option (List D) := if flats 58 ds && alikes ds && sortbl ds then some (sortD ds) else none
/-- sorted(..) of a dict with int keys, of a list -/
def srtOf (M : Mem) : Vl → Option D
  | .r i => match M[i]? with
    | some (.dic kvs) => (keysI kvs).bind fun ns => if ns.length < 64 then some (.list ((sortI ns).map .int)) else none
    | some (.lst ds) => (srtL ds).map .list
    | _ => none
  | .p (.list ds) => (srtL ds).map .list
  | .p (.tuple ds) => (srtT ds).map .list
  | _ => none
/-- sorted(set(..)) of a list of pairs of small ints, of a list of small ints -/
def pairsI : List D → Option (List (Int × Int))
  | [] => some []
  | .tuple [.int i, .int j] :: r => if 0 ≤ i ∧ i < 64 ∧ 0 ≤ j ∧ j < 64 then (pairsI r).map ((i, j) :: ·) else none
  | _ :: _ => none
def codeP (p : Int × Int) : Int := p.1 * 64 + p.2
def dd : List (Int × Int) → List (Int × Int)
  | [] => []
  | x :: l => if x ∈ l then dd l else x :: dd l
def sortP (ps : List (Int × Int)) : List (Int × Int) := (dd ps).mergeSort fun a b => decide (codeP a ≤ codeP b)
def srsOf (M : Mem) (v : Vl) : Option D := (look M v).bind fun d => match d with
  | .list ds => (pairsI ds).bind fun ps => if ps.length < 64 then some (.list ((sortP ps).map fun p => .tuple [.int p.1, .int p.2])) else none
  | _ => none
/-- l.index(x), t.index(x) -/
def idxL (ds : List D) (d : D) : Option D := if flat 60 d && flats 60 ds then (ds.findIdx? fun z => PyData.eqv z d).map fun j => .int (j : Nat) else none
def idxOf (M : Mem) (x y : Vl) : Option Vl := (look M x).bind fun x => (look M y).bind fun d => match x with
  | .list ds => (idxL ds d).map .p
  | .tuple ds => (idxL ds d).map .p
  | _ => none
/-- o.pop(..) -/
def popOf (x : Vl) (vs : List Vl) (M : Mem) : Rs Vl := match x with
  | .r i => match M[i]?, vs with
    | some (.lst ds), [] => Rs.of (M.set i (.lst ds.dropLast)) (ds[ds.length - 1]?.map .p)
    | some (.lst ds), [.p (.int k)] => match place ds.length k with
      | some k => if ds.length ≤ line then Rs.of (M.set i (.lst (ds.eraseIdx k))) (ds[k]?.map .p) else .bad
      | none => .bad
    | _, _ => .bad
  | _ => .bad
/-- a key of a dict display; the last one of a key counts -/
def isKeyD : D → Bool
  | .int _ => true
  | .str _ => true
  | _ => false
def pxOf (x y : Vl) : Option (D × D) := (plain x).bind fun x => (plain y).bind fun y => if isKeyD x then some (x, y) else none
def lkpD (ps : List (D × D)) (k : D) : Option D := ps.foldl (fun a p => if p.1 = k then some p.2 else a) none
def dgiOf (ps : List (D × D)) (y : Vl) : Option Vl := (plain y).bind fun y => if isKeyD y then (lkpD ps y).map .p else none
def dgtOf (ps : List (D × D)) (y z : Vl) : Option Vl := (plain y).bind fun y => (plain z).bind fun z => if isKeyD y then some (.p ((lkpD ps y).getD z)) else none
/-! dicts of the memory -/
def getK (kvs : List (D × D)) (k : D) : Option D := (kvs.find? fun q => decide (q.1 = k)).map (·.2)
def getT (kvs : List (List Int × D)) (k : List Int) : Option D := (kvs.find? fun q => decide (q.1 = k)).map (·.2)
def putT (kvs : List (List Int × D)) (k : List Int) (v : D) : List (List Int × D) :=
  if (kvs.any fun q => decide (q.1 = k)) = true then kvs.map (fun q => if q.1 = k then (q.1, v) else q) else kvs ++ [(k, v)]
/-- d[k] -/
def dxOf (M : Mem) (x y : Vl) : Option Vl := match x with
  | .r i => match M[i]? with
    | some (.dic kvs) => (plain y).bind fun k => if isKeyD k then (getK kvs k).map .p else none
    | some (.dit kvs) => match y with
      | .p (.tuple ks) => (intsOf ks).bind fun ns => (getT kvs ns).map .p
      | _ => none
    | _ => none
  | _ => none
/-- a dict of the memory with keys that are no tuples -/
def isDk (M : Mem) : Vl → Bool
  | .r i => match M[i]? with
    | some (.dic _) => true
    | _ => false
  | _ => false
/-- d.get(k, x) -/
def dgOf (M : Mem) (x y z : Vl) : Option Vl := match x with
  | .r i => match M[i]? with
    | some (.dic kvs) => (plain y).bind fun k => (plain z).bind fun z => if isKeyD k then some (.p ((getK kvs k).getD z)) else none
    | _ => none
  | _ => none
/-- a list -/
def isLl (M : Mem) (v : Vl) : Bool := match look M v with
  | some (.list _) => true
  | _ => false
/-- sorted(.., key=len) of a list of tuples -/
def lensD : List D → Option (List (List D))
  | [] => some []
  | .tuple ds :: r => (lensD r).map (ds :: ·)
  | _ :: _ => none
def srkOf (M : Mem) (v : Vl) : Option D := (look M v).bind fun d => match d with
  | .list ds => (lensD ds).map fun rows => .list ((rows.mergeSort fun a b => decide (a.length ≤ b.length)).map .tuple)
  | _ => none
/-- l.count(x), ints -/
def cntOf (M : Mem) (x y : Vl) : Option Vl := (look M x).bind fun x => match x, y with
  | .list ds, .p (.int k) => (intsOf ds).map fun ns => .p (.int (ns.count k : Nat))
  | _, _ => none
/-! instances -/
def fldOf (c f : String) (M : Mem) : Vl → Option Vl
  | .r i => match M[i]? with
    | some (.ins c' fs) => if c' = c then fs.lookup (Str.ofString f) else none
    | _ => none
  | _ => none
/-- an instance of c, without a field m -/
def isIns (c m : String) (M : Mem) : Vl → Bool
  | .r i => match M[i]? with
    | some (.ins c' fs) => decide (c' = c) && (fs.lookup (Str.ofString m)).isNone
    | _ => false
  | _ => false
def startI (ns : Nat) (vs : List Vl) : Sg := none :: (vs.map some ++ List.replicate (ns - 1 - vs.length) none)
def mkR (c : String) (L : Nat) : Rs (List (Str × Vl)) → Rs Vl
  | .bad => .bad
  | .ok fs M => .ok (.r M.length) (M ++ [.ins c fs])
  | .exc e xs M => .exc e xs (M.take L)
def putN (f : Str) (v : Vl) : List (Str × Vl) → List (Str × Vl)
  | [] => [(f, v)]
  | q :: r => if q.1 = f then (q.1, v) :: r else q :: putN f v r
/-- a new field -/
def addN (f : Str) (v : Vl) (fs : List (Str × Vl)) : Option (List (Str × Vl)) := if (fs.lookup f).isNone ∧ fs.length < 900 then some (fs ++ [(f, v)]) else none
/-- o.f = d -/
def setfOf (c f : String) (x v : Vl) (M : Mem) : Option Mem := match x, v with
  | .r i, .p d => match M[i]? with
    | some (.ins c' fs) => if c' = c ∧ fs.length < 900 then some (M.set i (.ins c' (putN (Str.ofString f) (.p d) fs))) else none
    | _ => none
  | _, _ => none
/-- o.f += k -/
def augfOf (c f : String) (x w y : Vl) (M : Mem) : Option Mem := match w, y with
  | .p (.int a), .p (.int b) => setfOf c f x (.p (.int (a + b))) M
  | _, _ => none
section
variable (F : Fns)
mutual
def ev : Ex → Sg → Mem → Rs Vl
  | .var i, σ, M => match σ[i]? with
    | some (some v) => .ok v M
    | _ => .bad
  | .con d, _, M => .ok (.p d) M
  | .gcon _ d, _, M => .ok (.p d) M
  | .bin o a b, σ, M => (ev a σ M).bind fun x M1 => (ev b σ M1).bind fun y M2 => Rs.of M2 ((look M2 x).bind fun x => (look M2 y).bind fun y => (binop o x y).map .p)
  | .neg a, σ, M => (ev a σ M).bind fun x M1 => match x with
    | .p (.int i) => .ok (.p (.int (-i))) M1
    | _ => .bad
  | .not a, σ, M => (ev a σ M).bind fun x M1 => Rs.of M1 ((look M1 x).bind fun x => (truth x).map fun c => .p (.bool (!c)))
  | .cmp o a b, σ, M => (ev a σ M).bind fun x M1 => (ev b σ M1).bind fun y M2 => Rs.of M2 ((look M2 x).bind fun x => (look M2 y).bind fun y => (cmpop o x y).map fun c => .p (.bool c))
  | .cmp2 o o' a b c, σ, M => (ev a σ M).bind fun x M1 => (ev b σ M1).bind fun y M2 => (Rs.of M2 ((look M2 x).bind fun x => (look M2 y).bind fun y => cmpop o x y)).bind fun k M3 =>
      if k then (ev c σ M3).bind fun z M4 => Rs.of M4 ((look M4 y).bind fun y => (look M4 z).bind fun z => (cmpop o' y z).map fun c => .p (.bool c)) else .ok (.p (.bool false)) M3
  | .cmp3 o o' o2 a b c d, σ, M => (ev a σ M).bind fun x M1 => (ev b σ M1).bind fun y M2 => (Rs.of M2 ((look M2 x).bind fun x => (look M2 y).bind fun y => cmpop o x y)).bind fun k M3 =>
      if k then (ev c σ M3).bind fun z M4 => (Rs.of M4 ((look M4 y).bind fun y => (look M4 z).bind fun z => cmpop o' y z)).bind fun k M5 =>
        if k then (ev d σ M5).bind fun u M6 => Rs.of M6 ((look M6 z).bind fun z => (look M6 u).bind fun u => (cmpop o2 z u).map fun c => .p (.bool c)) else .ok (.p (.bool false)) M5 else .ok (.p (.bool false)) M3
  | .and es, σ, M => evAnd es σ M
  | .or es, σ, M => evOr es σ M
  | .ite c a b, σ, M => (evT c (ev c σ M) σ M).bind fun k M1 => if k then ev a σ M1 else ev b σ M1
  | .tup es, σ, M => (evs es σ M).bind fun vs M1 => Rs.of M1 ((plains vs).map fun ds => .p (.tuple ds))
  | .lst es, σ, M => (evs es σ M).bind fun vs M1 => Rs.of M1 ((plains vs).map fun ds => .p (.list ds))
  | .ix a i, σ, M => (ev a σ M).bind fun x M1 => (ev i σ M1).bind fun y M2 => Rs.of M2 ((look M2 x).bind fun x => (plain y).bind fun y => (getIx x y).map .p)
  | .sl a lo hi, σ, M => (ev a σ M).bind fun x M1 => (evO lo σ M1).bind fun l M2 => (evO hi σ M2).bind fun h M3 => Rs.of M3 ((look M3 x).bind fun x => (getSl x l h).map .p)
  | .rev a, σ, M => (ev a σ M).bind fun x M1 => Rs.of M1 ((look M1 x).bind fun x => match x with
    | .list ds => some (.p (.list ds.reverse))
    | .tuple ds => some (.p (.tuple ds.reverse))
    | _ => none)
  | .bi b a, σ, M => (ev a σ M).bind fun x M1 => fBi b M1 x
  | .isi a t, σ, M => (ev a σ M).bind fun x M1 => Rs.of M1 ((look M1 x).map fun x => .p (.bool (isTy t x)))
  | .rngl tupl es, σ, M => (evs es σ M).bind fun vs M1 => fRng tupl vs M1
  | .lc elt tg it ifs own, σ, M => (fLc own tg (fun g M => evIt it g M) (fun g M => evTs ifs g M) (fun g M => ev elt g M) σ M).bind fun ds M2 => .ok (.p (.list ds)) M2
  | .call f es, σ, M => (evs es σ M).bind fun vs M1 => F f vs M1
  | .pop o es, σ, M => (ev o σ M).bind fun x M1 => if isL M1 x then (evs es σ M1).bind fun vs M2 => popOf x vs M2 else .bad
  | .srt a, σ, M => (ev a σ M).bind fun x M1 => Rs.of M1 ((srtOf M1 x).map .p)
  | .mm2 c a b, σ, M => (ev a σ M).bind fun x M1 => (ev b σ M1).bind fun y M2 => Rs.of M2 (mmOf c x y)
  | .idx o v, σ, M => (ev o σ M).bind fun x M1 => if isSq M1 x then (ev v σ M1).bind fun y M2 => Rs.of M2 (idxOf M2 x y) else .bad
  | .srs a, σ, M => (ev a σ M).bind fun x M1 => Rs.of M1 ((srsOf M1 x).map .p)
  | .dgi ps key, σ, M => (evP ps σ M).bind fun ps M1 => (ev key σ M1).bind fun y M2 => Rs.of M2 (dgiOf ps y)
  | .dgt ps key d, σ, M => (evP ps σ M).bind fun ps M1 => (ev key σ M1).bind fun y M2 => (ev d σ M2).bind fun z M3 => Rs.of M3 (dgtOf ps y z)
  | .dx o key, σ, M => (ev o σ M).bind fun x M1 => (ev key σ M1).bind fun y M2 => Rs.of M2 (dxOf M2 x y)
  | .dg o key d, σ, M => (ev o σ M).bind fun x M1 => if isDk M1 x then (ev key σ M1).bind fun y M2 => (ev d σ M2).bind fun z M3 => Rs.of M3 (dgOf M3 x y z) else .bad
  | .srk a, σ, M => (ev a σ M).bind fun x M1 => Rs.of M1 ((srkOf M1 x).map .p)
  | .cnt o v, σ, M => (ev o σ M).bind fun x M1 => if isLl M1 x then (ev v σ M1).bind fun y M2 => Rs.of M2 (cntOf M2 x y) else .bad
  | .lc2 elt tg it ifs own tg1 it1 ifs1 own1, σ, M => (fLc2 own tg (fun g M => evIt it g M) (fun g M => evTs ifs g M) own1 tg1 (fun g M => evIt it1 g M) (fun g M => evTs ifs1 g M) (fun g M => ev elt g M) σ M).bind fun ds M2 => .ok (.p (.list ds)) M2
  | .callz f e es, σ, M => (ev e σ M).bind fun x M1 => (evs es σ M1).bind fun vs M2 => Rs.of M2 (zOf (F f) M2 x vs)
  | .join sep l, σ, M => (ev sep σ M).bind fun x M1 => if isSt x then (ev l σ M1).bind fun y M2 => Rs.of M2 (joinOf M2 x y) else .bad
  | .ldc k v tg it ifs own, σ, M => (fLc own tg (fun g M => evIt it g M) (fun g M => evTs ifs g M) (fPair (fun g M => ev k g M) (fun g M => ev v g M)) σ M).bind fun ps M1 => .ok (.p (.int (ps.foldl putP []).length)) M1
  | .fld c o f, σ, M => (ev o σ M).bind fun x M1 => Rs.of M1 (fldOf c f M1 x)
  | .meth c o m es, σ, M => (ev o σ M).bind fun x M1 => if isIns c m M1 x then (evs es σ M1).bind fun vs M2 => F (c ++ "." ++ m) (x :: vs) M2 else .bad
  | .mk c ns ini es, σ, M => (evs es σ M).bind fun vs M1 => mkR c M1.length (evI ini (startI ns vs) M1 [])
def evI : Inis → Sg → Mem → List (Str × Vl) → Rs (List (Str × Vl))
  | .nil, _, M, fs => .ok fs M
  | .drop e r, g, M, fs => (ev e g M).bind fun _ M1 => evI r g M1 fs
  | .fld f e r, g, M, fs => (ev e g M).bind fun v M1 => (Rs.of M1 (plain v)).bind fun d M2 => (Rs.of M2 (addN (Str.ofString f) (.p d) fs)).bind fun fs M3 => evI r g M3 fs
  | .new f es r, g, M, fs => (evs es g M).bind fun vs M1 => (Rs.of M1 (plains vs)).bind fun ds M2 => (Rs.of M2 (addN (Str.ofString f) (.r M2.length) fs)).bind fun fs M3 => evI r g (M3 ++ [.lst ds]) fs
def evP : Pxs → Sg → Mem → Rs (List (D × D))
  | .nil, _, M => .ok [] M
  | .cons k v ps, σ, M => (ev k σ M).bind fun x M1 => (ev v σ M1).bind fun y M2 => (Rs.of M2 (pxOf x y)).bind fun p M3 => (evP ps σ M3).bind fun qs M4 => .ok (p :: qs) M4
def evs : Exs → Sg → Mem → Rs (List Vl)
  | .nil, _, M => .ok [] M
  | .cons e es, σ, M => (ev e σ M).bind fun v M1 => (evs es σ M1).bind fun vs M2 => .ok (v :: vs) M2
def evO : Ops → Sg → Mem → Rs (Option Int)
  | .non, _, M => .ok none M
  | .som e, σ, M => (ev e σ M).bind fun v M1 => match v with
    | .p (.int i) => .ok (some i) M1
    | _ => .bad
/-- the truth of an expression -/
def evT : Ex → Rs Vl → Sg → Mem → Rs Bool
  | .not a, _, σ, M => (evT a (ev a σ M) σ M).bind fun c M1 => .ok (!c) M1
  | .and es, _, σ, M => evTAnd es σ M
  | .or es, _, σ, M => evTOr es σ M
  | .ite c a b, _, σ, M => (evT c (ev c σ M) σ M).bind fun k M1 => if k then evT a (ev a σ M1) σ M1 else evT b (ev b σ M1) σ M1
  | _, whole, _, _ => whole.bind fun x M1 => Rs.of M1 ((look M1 x).bind truth)
def evAnd : Exs → Sg → Mem → Rs Vl
  | .nil, _, _ => .bad
  | .cons e .nil, σ, M => ev e σ M
  | .cons e es, σ, M => (ev e σ M).bind fun v M1 => match v with
    | .p (.bool true) => evAnd es σ M1
    | .p (.bool false) => .ok (.p (.bool false)) M1
    | _ => .bad
def evOr : Exs → Sg → Mem → Rs Vl
  | .nil, _, _ => .bad
  | .cons e .nil, σ, M => ev e σ M
  | .cons e es, σ, M => (ev e σ M).bind fun v M1 => match v with
    | .p (.bool true) => .ok (.p (.bool true)) M1
    | .p (.bool false) => evOr es σ M1
    | _ => .bad
def evTAnd : Exs → Sg → Mem → Rs Bool
  | .nil, _, _ => .bad
  | .cons e .nil, σ, M => evT e (ev e σ M) σ M
  | .cons e es, σ, M => (evT e (ev e σ M) σ M).bind fun c M1 => if c then evTAnd es σ M1 else .ok false M1
def evTOr : Exs → Sg → Mem → Rs Bool
  | .nil, _, _ => .bad
  | .cons e .nil, σ, M => evT e (ev e σ M) σ M
  | .cons e es, σ, M => (evT e (ev e σ M) σ M).bind fun c M1 => if c then .ok true M1 else evTOr es σ M1
def evTs : Exs → Sg → Mem → Rs Bool
  | .nil, _, M => .ok true M
  | .cons e .nil, σ, M => evT e (ev e σ M) σ M
  | _, _, _ => .bad
def evIt : It → Sg → Mem → Rs Wk
  | .sq e, σ, M => (ev e σ M).bind fun v M1 => Rs.of M1 (walkOf M1 v)
  | .rng es, σ, M => (evs es σ M).bind fun vs M1 => fRw vs M1
  | .enm e, σ, M => (ev e σ M).bind fun v M1 => match v with
    | .p (.list ds) => .ok ⟨enumD ds, none⟩ M1
    | .p (.tuple ds) => .ok ⟨enumD ds, none⟩ M1
    | _ => .bad
  | .zip a b, σ, M => (ev a σ M).bind fun v M1 => (ev b σ M1).bind fun w M2 => Rs.of M2 (zipW v w)
  | .rvd e, σ, M => (ev e σ M).bind fun v M1 => match v with
    | .p (.list ds) => .ok ⟨ds.reverse, none⟩ M1
    | .p (.tuple ds) => .ok ⟨ds.reverse, none⟩ M1
    | _ => .bad
end
def listOf (M : Mem) : Vl → Option (List D)
  | .s ds => some ds
  | v => (look M v).bind fun d => match d with
    | .list ds => some ds
    | .tuple ds => some ds
    | _ => none
/-- list + list, list * int -/
def catOf (M : Mem) (x y : Vl) : Option (List D) := (look M x).bind fun x => (look M y).bind fun y => match x, y with
  | .list a, .list b => if a.length + b.length ≤ line then some (a ++ b) else none
  | _, _ => none
def repOf (M : Mem) (x y : Vl) : Option (List D) := (look M x).bind fun x => (look M y).bind fun y => match x, y with
  | .list a, .int j => if 0 ≤ j ∧ j < 2 ^ 62 ∧ a.length * j.toNat ≤ line then some (List.replicate j.toNat a).flatten else none
  | _, _ => none
def evN : Nw → Sg → Mem → Rs (List D)
  | .lst es, σ, M => (evs F es σ M).bind fun vs M1 => Rs.of M1 (plains vs)
  | .lis e, σ, M => (ev F e σ M).bind fun v M1 => Rs.of M1 (listOf M1 v)
  | .rng e, σ, M => (ev F e σ M).bind fun v M1 => Rs.of M1 ((rangeOf [v]).bind fun ds => if ds.length ≤ line then some ds else none)
  | .add a b, σ, M => (ev F a σ M).bind fun x M1 => (ev F b σ M1).bind fun y M2 => Rs.of M2 (catOf M2 x y)
  | .mul a b, σ, M => (ev F a σ M).bind fun x M1 => (ev F b σ M1).bind fun y M2 => Rs.of M2 (repOf M2 x y)
  | .lc elt tg it ifs own, σ, M => fLc own tg (evIt F it) (evTs F ifs) (ev F elt) σ M
end
/-! ### statements -/
inductive Fl where
  | nx (g : Sg)
  | rt (v : Vl)
  | rl (vs : List Vl)
  | bk (g : Sg)
  | xc (g : Sg) (c : String) (fs : List (String × D))
abbrev Ro := Option (Fl × Mem)
def lift {α : Type} (r : Rs α) (g : Sg) (k : α → Mem → Ro) : Ro := match r with
  | .bad => none
  | .ok a M => k a M
  | .exc c fs M => some (.xc g c fs, M)
@[simp] theorem lift_bad {α : Type} (g : Sg) (k : α → Mem → Ro) : lift .bad g k = none := rfl
@[simp] theorem lift_ok {α : Type} (a : α) (M : Mem) (g : Sg) (k : α → Mem → Ro) : lift (.ok a M) g k = k a M := rfl
@[simp] theorem lift_exc {α : Type} (c : String) (fs : List (String × D)) (M : Mem) (g : Sg) (k : α → Mem → Ro) : lift (.exc c fs M) g k = some (.xc g c fs, M) := rfl
def frLoop (w : Wk) (tg : Tg) (body : Sg → Mem → Ro) : List D → Sg → Mem → Ro
  | [], g, M => some (.nx g, M)
  | x :: xs, g, M => match store tg x g with
    | none => none
    | some g' => match body g' M with
      | some (.nx g2, M2) => if w.ok M2 then frLoop w tg body xs g2 M2 else none
      | some (.bk g2, M2) => some (.nx g2, M2)
      | r => r
def whN : Nat → (Sg → Mem → Rs Bool) → (Sg → Mem → Ro) → Sg → Mem → Ro
  | 0, _, _, _, _ => none
  | n + 1, c, b, g, M => lift (c g M) g fun k M1 => if k then (match b g M1 with
      | some (.nx g2, M2) => whN n c b g2 M2
      | some (.bk g2, M2) => some (.nx g2, M2)
      | r => r) else some (.nx g, M1)
abbrev Wh := (Sg → Mem → Rs Bool) → (Sg → Mem → Ro) → Sg → Mem → Ro
def WhOk (wh : Wh) : Prop := ∀ c b g M r, wh c b g M = some r → ∃ n, whN n c b g M = some r
open Classical in
/-- while, as long as it takes -/
noncomputable def whC : Wh := fun c b g M => if h : ∃ n r, whN n c b g M = some r then some h.choose_spec.choose else none
def putOf (x y v : Vl) (M : Mem) : Option Mem := match x, y, v with
  | .r i, .p (.int k), .p d => match M[i]? with
    | some (.lst ds) => (place ds.length k).map fun j => M.set i (.lst (ds.set j d))
    | _ => none
  | _, _, _ => none
/-- d[k] = v -/
def putdOf (x y v : Vl) (M : Mem) : Option Mem := match x, v with
  | .r i, .p d => match M[i]? with
    | some (.dic kvs) => (plain y).bind fun k => if isKeyD k && decide (kvs.length < line) then some (M.set i (.dic (putD kvs k d))) else none
    | some (.dit kvs) => match y with
      | .p (.tuple ks) => (intsOf ks).bind fun ns => if kvs.length < line then some (M.set i (.dit (putT kvs ns d))) else none
      | _ => none
    | _ => none
  | _, _ => none
def newtOf (x y : Vl) : Option MO := match x, y with
  | .p (.tuple ks), .p d => (intsOf ks).map fun ns => .dit [(ns, d)]
  | _, _ => none
def appOf (x v : Vl) (M : Mem) : Option Mem := match x, v with
  | .r i, .p d => match M[i]? with
    | some (.lst ds) => if ds.length < line then some (M.set i (.lst (ds ++ [d]))) else none
    | _ => none
  | _, _ => none
def extOf (x v : Vl) (M : Mem) : Option Mem := match x, v with
  | .r i, .p (.list es) => match M[i]? with
    | some (.lst ds) => if ds.length + es.length ≤ line then some (M.set i (.lst (ds ++ es))) else none
    | _ => none
  | _, _ => none
/-! suites -/
def offG : Option Nat → Sg → Sg
  | none, g => g
  | some i, g => g.set i none
def runU (c : String) (fs : List (String × D)) : Su → Sg → Mem → Ro
  | .ret e, _, M => (evU c fs e).map fun d => (.rt (.p d), M)
  | .ifr ts e r, g, M => if ts.all (isSub c) then (evU c fs e).map fun d => (.rt (.p d), M) else runU c fs r g M
  | .app i e r, g, M => match g[i]? with
    | some (some x) => (evU c fs e).bind fun d => (appOf x (.p d) M).bind fun M' => runU c fs r g M'
    | _ => none
  | .done, g, M => some (.nx g, M)
def endU (oi : Option Nat) : Ro → Ro
  | some (.nx g, M) => some (.nx (offG oi g), M)
  | some (.rt v, M) => some (.rt v, M)
  | _ => none
def slotIn : Option Nat → Sg → Bool
  | none, _ => true
  | some i, g => decide (i < g.length)
def catchX (c : String) (fs : List (String × D)) : List Hd → Sg → Mem → Ro
  | [], g, M => some (.xc g c fs, M)
  | h :: hs, g, M => if isSub c h.cls then (if slotIn h.slot g then endU h.slot (runU c fs h.su (offG h.slot g) M) else none) else catchX c fs hs g M
def tryX (kn : List String) (hs : List Hd) : Ro → Ro
  | some (.xc g c fs, M) => if kn.contains c then catchX c fs hs g M else none
  | r => r
section
variable (F : Fns) (wh : Wh)
mutual
def exec : Sm → Sg → Mem → Ro
  | .set t e, g, M => lift (ev F e g M) g fun v M1 => match t, v with
    | .nm i, v => some (.nx (g.set i (some v)), M1)
    | t, .p d => (store t d g).map fun g' => (.nx g', M1)
    | _, _ => none
  | .new i e, g, M => lift (evN F e g M) g fun ds M1 => some (.nx (g.set i (some (.r M1.length))), M1 ++ [.lst ds])
  | .newd i k v tg it ifs own, g, M => lift (fLc own tg (evIt F it) (evTs F ifs) (fPair (ev F k) (ev F v)) g M) g fun ps M1 => some (.nx (g.set i (some (.r M1.length))), M1 ++ [.dic (ps.foldl putP [])])
  | .newp i ps, g, M => lift (evP F ps g M) g fun qs M1 => some (.nx (g.set i (some (.r M1.length))), M1 ++ [.dic (qs.foldl (fun a q => putD a q.1 q.2) [])])
  | .newt i k v, g, M => lift (ev F k g M) g fun x M1 => lift (ev F v g M1) g fun y M2 => (newtOf x y).map fun o => (.nx (g.set i (some (.r M2.length))), M2 ++ [o])
  | .retn e, g, M => lift (evN F e g M) g fun ds M1 => some (.rt (.r M1.length), M1 ++ [.lst ds])
  | .par i j a b, g, M => lift (ev F a g M) g fun v M1 => lift (ev F b g M1) g fun w M2 => some (.nx ((g.set i (some v)).set j (some w)), M2)
  | .put o i v, g, M => lift (ev F v g M) g fun v M1 => lift (ev F o g M1) g fun x M2 => lift (ev F i g M2) g fun y M3 => (putOf x y v M3).map fun M4 => (.nx g, M4)
  | .putd o i v, g, M => lift (ev F v g M) g fun v M1 => lift (ev F o g M1) g fun x M2 => lift (ev F i g M2) g fun y M3 => (putdOf x y v M3).map fun M4 => (.nx g, M4)
  | .app o v, g, M => lift (ev F o g M) g fun x M1 => if isL M1 x then lift (ev F v g M1) g fun v M2 => (appOf x v M2).map fun M3 => (.nx g, M3) else none
  | .ext o v, g, M => lift (ev F o g M) g fun x M1 => if isL M1 x then lift (ev F v g M1) g fun v M2 => (extOf x v M2).map fun M3 => (.nx g, M3) else none
  | .drop e, g, M => lift (ev F e g M) g fun _ M1 => some (.nx g, M1)
  | .doc, g, M => some (.nx g, M)
  | .ret e, g, M => lift (ev F e g M) g fun v M1 => some (.rt v, M1)
  | .ite c a b, g, M => lift (evT F c (ev F c g M) g M) g fun k M1 => if k then execs a g M1 else execs b g M1
  | .whl c b, g, M => wh (fun g M => evT F c (ev F c g M) g M) (fun g M => execs b g M) g M
  | .fr t it b, g, M => lift (evIt F it g M) g fun w M1 => frLoop w t (fun g M => execs b g M) w.items g M1
  | .brk, g, M => some (.bk g, M)
  | .never, _, _ => none
  | .rse c fl es, g, M => lift (evs F es g M) g fun vs M1 => (plains vs).bind fun ds => if ds.length = fl.length then some (.xc g c (fl.zip ds), M1) else none
  | .tr kn b hs, g, M => tryX kn hs (execs b g M)
  | .rett es, g, M => lift (evs F es g M) g fun vs M1 => some (.rl vs, M1)
  | .setf c o f e, g, M => lift (ev F e g M) g fun v M1 => lift (ev F o g M1) g fun x M2 => (setfOf c f x v M2).map fun M3 => (.nx g, M3)
  | .augf c o f e, g, M => lift (ev F o g M) g fun x M1 => lift (Rs.of M1 (fldOf c f M1 x)) g fun w M1 => lift (ev F e g M1) g fun y M2 => (augfOf c f x w y M2).map fun M3 => (.nx g, M3)
def execs : Sms → Sg → Mem → Ro
  | .nil, g, M => some (.nx g, M)
  | .cons s ss, g, M => match exec s g M with
    | some (.nx g1, M1) => execs ss g1 M1
    | r => r
end
end
end Eg

/-! Engine, part B: what data stand for in the abstract heap. By an AI agent. -/
namespace Eg
open PySem PySem.Spec PyProof.Rows L2

/-! ### data in the abstract heap; ids: the objects of the memory; no: what plain data may not hold -/
structure Io where
  ids : List Addr
  no : List Addr
  sub : ∀ a, a ∈ ids → a ∈ no
/-- a known tuple: exactly of that type, no own dict -/
def KTup (o : Obj) : Prop := o.cls = .type "tuple" ∧ o.dict = none
def TQ (io : Io) (K : PySem.W.Frag) (H : Hp) (a : Addr) (xs : List V) : Prop :=
  ((∃ o, H a = some (.frz o (.tup xs)) ∧ KTup o) ∧ a ∉ io.no) ∨
    ∃ (o : Obj) (its : Array Value) (n : Nat), K.lookup a = some o ∧ o.cls = .type "tuple" ∧ o.dict = none ∧ o.data = .seq its n ∧ its.size ≤ sizeLine ∧ Vals xs its.toList
def SQ (io : Io) (K : PySem.W.Frag) (H : Hp) (a : Addr) (xs : List V) : Prop :=
  ((H a = some (.lst xs) ∨ ∃ o, H a = some (.frz o (.lst xs))) ∧ a ∉ io.no) ∨
    ∃ (o : Obj) (its : Array Value) (n : Nat), K.lookup a = some o ∧ o.cls = .type "list" ∧ o.dict = none ∧ o.data = .seq its n ∧ its.size ≤ sizeLine ∧ Vals xs its.toList
theorem TQ.sq {io : Io} {K : PySem.W.Frag} {H : Hp} {a : Addr} {xs : List V} (h : TQ io K H a xs) : SqT K H a xs := by
  rcases h with ⟨⟨o, h, _⟩, _⟩ | ⟨o, its, n, h1, h2, _, h3⟩
  · exact .inl (.inr ⟨o, h⟩)
  · exact .inr ⟨o, its, n, h1, h2, h3⟩
theorem SQ.sq {io : Io} {K : PySem.W.Frag} {H : Hp} {a : Addr} {xs : List V} (h : SQ io K H a xs) : SqL K H a xs := by
  rcases h with ⟨h | h, _⟩ | h
  · exact .inl (.inl h)
  · exact .inl (.inr h)
  · exact .inr h
mutual
inductive DV (io : Io) (K : PySem.W.Frag) (H : Hp) : V → D → Prop
  | non : DV io K H .non .none
  | bl (b : Bool) : DV io K H (.bl b) (.bool b)
  | int (i : Int) : DV io K H (.int i) (.int i)
  | str (x : Str) : DV io K H (.str x) (.str x)
  | lst {a : Addr} {xs : List V} {ds : List D} : H a = some (.lst xs) → a ∉ io.no → DVs io K H xs ds → DV io K H (.ref a) (.list ds)
  | tup {a : Addr} {xs : List V} {ds : List D} : TQ io K H a xs → DVs io K H xs ds → DV io K H (.ref a) (.tuple ds)
inductive DVs (io : Io) (K : PySem.W.Frag) (H : Hp) : List V → List D → Prop
  | nil : DVs io K H [] []
  | cons {v : V} {vs : List V} {d : D} {ds : List D} : DV io K H v d → DVs io K H vs ds → DVs io K H (v :: vs) (d :: ds)
end
/-- the memory grows -/
structure Gr (io : Io) (H : Hp) (io' : Io) (H' : Hp) : Prop where
  pre : io.ids <+: io'.ids
  mor : ∀ a, a ∈ io.no → a ∈ io'.no
  newi : ∀ a, a ∈ io'.ids → a ∉ io.ids → H a = none
  new : ∀ a, a ∈ io'.no → a ∉ io.no → H a = none
  keep : ∀ a o, H a = some o → a ∉ io.ids → H' a = some o
section
variable {io io1 io2 io' : Io} {K : PySem.W.Frag} {H H1 H2 H' : Hp}
theorem Gr.refl : Gr io H io H := ⟨List.prefix_refl _, fun _ h => h, fun _ h n => absurd h n, fun _ h n => absurd h n, fun _ _ h _ => h⟩
theorem Io.out {a : Addr} (h : a ∉ io.no) : a ∉ io.ids := fun z => h (io.sub a z)
theorem Gr.out (g : Gr io H io' H') {a : Addr} {o : HO} (h : H a = some o) (n : a ∉ io.no) : a ∉ io'.no := fun z => by
  have := g.new a z n
  rw [h] at this
  cases this
theorem Gr.outi (g : Gr io H io' H') {a : Addr} {o : HO} (h : H a = some o) (n : a ∉ io.ids) : a ∉ io'.ids := fun z => by
  have := g.newi a z n
  rw [h] at this
  cases this
theorem Gr.kp (g : Gr io H io' H') {a : Addr} {o : HO} (h : H a = some o) (n : a ∉ io.no) : H' a = some o := g.keep a o h (Io.out n)
theorem Gr.trans (g : Gr io H io1 H1) (g' : Gr io1 H1 io2 H2) : Gr io H io2 H2 := by
  have back : ∀ a, H1 a = none → a ∉ io.ids → H a = none := fun a q n => by
    cases e : H a with
    | none => rfl
    | some o => rw [g.keep a o e n] at q; cases q
  refine ⟨g.pre.trans g'.pre, fun a h => g'.mor a (g.mor a h), fun a h n => ?_, fun a h n => ?_, fun a o h n => g'.keep a o (g.keep a o h n) (g.outi h n)⟩
  · by_cases z : a ∈ io1.ids
    · exact g.newi a z n
    · exact back a (g'.newi a h z) n
  · by_cases z : a ∈ io1.no
    · exact g.new a z n
    · exact back a (g'.new a h z) (Io.out n)
theorem TQ.mono {a : Addr} {xs : List V} (g : Gr io H io' H') (h : TQ io K H a xs) : TQ io' K H' a xs := by
  rcases h with ⟨⟨o, h, k⟩, n⟩ | h
  · exact .inl ⟨⟨o, g.kp h n, k⟩, g.out h n⟩
  · exact .inr h
theorem SQ.mono {a : Addr} {xs : List V} (g : Gr io H io' H') (h : SQ io K H a xs) : SQ io' K H' a xs := by
  rcases h with ⟨h | ⟨o, h⟩, n⟩ | h
  · exact .inl ⟨.inl (g.kp h n), g.out h n⟩
  · exact .inl ⟨.inr ⟨o, g.kp h n⟩, g.out h n⟩
  · exact .inr h
mutual
theorem DV.mono (g : Gr io H io' H') : ∀ {v : V} {d : D}, DV io K H v d → DV io' K H' v d
  | _, _, .non => .non
  | _, _, .bl b => .bl b
  | _, _, .int i => .int i
  | _, _, .str x => .str x
  | _, _, .lst h n hs => .lst (g.kp h n) (g.out h n) (DVs.mono g hs)
  | _, _, .tup h hs => .tup (h.mono g) (DVs.mono g hs)
theorem DVs.mono (g : Gr io H io' H') : ∀ {vs : List V} {ds : List D}, DVs io K H vs ds → DVs io' K H' vs ds
  | _, _, .nil => .nil
  | _, _, .cons h hs => .cons (DV.mono g h) (DVs.mono g hs)
end
/-! fewer objects in the memory -/
mutual
theorem DV.less (g : ∀ a, a ∈ io'.no → a ∈ io.no) : ∀ {v : V} {d : D}, DV io K H v d → DV io' K H v d
  | _, _, .non => .non
  | _, _, .bl b => .bl b
  | _, _, .int i => .int i
  | _, _, .str x => .str x
  | _, _, .lst h n hs => .lst h (fun z => n (g _ z)) (DVs.less g hs)
  | _, _, .tup h hs => .tup (h.elim (fun ⟨h, n⟩ => .inl ⟨h, fun z => n (g _ z)⟩) .inr) (DVs.less g hs)
theorem DVs.less (g : ∀ a, a ∈ io'.no → a ∈ io.no) : ∀ {vs : List V} {ds : List D}, DVs io K H vs ds → DVs io' K H vs ds
  | _, _, .nil => .nil
  | _, _, .cons h hs => .cons (DV.less g h) (DVs.less g hs)
end
/-! the rest of the heap stands -/
mutual
theorem DV.stay (g : ∀ a o, a ∉ io.no → H a = some o → H' a = some o) : ∀ {v : V} {d : D}, DV io K H v d → DV io K H' v d
  | _, _, .non => .non
  | _, _, .bl b => .bl b
  | _, _, .int i => .int i
  | _, _, .str x => .str x
  | _, _, .lst h n hs => .lst (g _ _ n h) n (DVs.stay g hs)
  | _, _, .tup h hs => .tup (h.elim (fun ⟨⟨o, h, k⟩, n⟩ => .inl ⟨⟨o, g _ _ n h, k⟩, n⟩) .inr) (DVs.stay g hs)
theorem DVs.stay (g : ∀ a o, a ∉ io.no → H a = some o → H' a = some o) : ∀ {vs : List V} {ds : List D}, DVs io K H vs ds → DVs io K H' vs ds
  | _, _, .nil => .nil
  | _, _, .cons h hs => .cons (DV.stay g h) (DVs.stay g hs)
end
theorem DVs.length : ∀ {vs : List V} {ds : List D}, DVs io K H vs ds → vs.length = ds.length
  | _, _, .nil => rfl
  | _, _, .cons _ hs => by rw [List.length_cons, List.length_cons, hs.length]
theorem DVs.get : ∀ {vs : List V} {ds : List D} {i : Nat} {d : D}, DVs io K H vs ds → ds[i]? = some d → ∃ v, vs[i]? = some v ∧ DV io K H v d
  | _, _, _, _, .nil, e => by simp at e
  | _, _, 0, _, .cons h _, e => by simp at e; subst e; exact ⟨_, by simp, h⟩
  | _, _, i + 1, _, .cons _ hs, e => by
    obtain ⟨v, e', h⟩ := hs.get (i := i) (by simpa using e)
    exact ⟨v, by simpa using e', h⟩
theorem DVs.append : ∀ {vs ws : List V} {ds es : List D}, DVs io K H vs ds → DVs io K H ws es → DVs io K H (vs ++ ws) (ds ++ es)
  | _, _, _, _, .nil, k => k
  | _, _, _, _, .cons h hs, k => .cons h (hs.append k)
theorem DVs.take : ∀ {vs : List V} {ds : List D} (n : Nat), DVs io K H vs ds → DVs io K H (vs.take n) (ds.take n)
  | _, _, 0, _ => .nil
  | _, _, _ + 1, .nil => .nil
  | _, _, n + 1, .cons h hs => .cons h (hs.take n)
theorem DVs.drop : ∀ {vs : List V} {ds : List D} (n : Nat), DVs io K H vs ds → DVs io K H (vs.drop n) (ds.drop n)
  | _, _, 0, h => h
  | _, _, _ + 1, .nil => .nil
  | _, _, n + 1, .cons _ hs => hs.drop n
theorem DVs.set {v : V} {d : D} (hv : DV io K H v d) : ∀ {vs : List V} {ds : List D} (n : Nat), DVs io K H vs ds → DVs io K H (vs.set n v) (ds.set n d)
  | _, _, _, .nil => .nil
  | _, _, 0, .cons _ hs => .cons hv hs
  | _, _, n + 1, .cons h hs => .cons h (hs.set hv n)
theorem DVs.erase : ∀ {vs : List V} {ds : List D} (n : Nat), DVs io K H vs ds → DVs io K H (vs.eraseIdx n) (ds.eraseIdx n)
  | _, _, _, .nil => .nil
  | _, _, 0, .cons _ hs => hs
  | _, _, n + 1, .cons h hs => .cons h (hs.erase n)
theorem DVs.dropLast : ∀ {vs : List V} {ds : List D}, DVs io K H vs ds → DVs io K H vs.dropLast ds.dropLast := fun {vs ds} h => by
  rw [List.dropLast_eq_take, List.dropLast_eq_take, h.length]
  exact h.take _
theorem DVs.snoc {v : V} {d : D} {vs : List V} {ds : List D} (h : DVs io K H vs ds) (hv : DV io K H v d) : DVs io K H (vs ++ [v]) (ds ++ [d]) := h.append (.cons hv .nil)
theorem DVs.reverse : ∀ {vs : List V} {ds : List D}, DVs io K H vs ds → DVs io K H vs.reverse ds.reverse
  | _, _, .nil => .nil
  | _, _, .cons h hs => by
    rw [List.reverse_cons, List.reverse_cons]
    exact hs.reverse.snoc h
theorem DVs.rep {vs : List V} {ds : List D} (h : DVs io K H vs ds) : ∀ k : Nat, DVs io K H (List.replicate k vs).flatten (List.replicate k ds).flatten
  | 0 => .nil
  | k + 1 => by
    rw [List.replicate_succ, List.replicate_succ, List.flatten_cons, List.flatten_cons]
    exact h.append (h.rep k)
theorem DVs.ints : ∀ {vs : List V} {ds : List D} {ns : List Int}, DVs io K H vs ds → intsOf ds = some ns → vs = ns.map V.int
  | _, _, _, .nil, e => by simp [intsOf] at e; subst e; rfl
  | _, _, _, .cons h hs, e => by
    cases h with
    | int i =>
      unfold intsOf at e
      obtain ⟨ns, e1, e2⟩ := Option.map_eq_some_iff.mp e
      rw [← e2, List.map_cons, hs.ints e1]
    | _ => simp [intsOf] at e
theorem DVs.bools : ∀ {vs : List V} {ds : List D} {ns : List Bool}, DVs io K H vs ds → boolsOf ds = some ns → vs = ns.map V.bl
  | _, _, _, .nil, e => by simp [boolsOf] at e; subst e; rfl
  | _, _, _, .cons h hs, e => by
    cases h with
    | bl i =>
      unfold boolsOf at e
      obtain ⟨ns, e1, e2⟩ := Option.map_eq_some_iff.mp e
      rw [← e2, List.map_cons, hs.bools e1]
    | _ => simp [boolsOf] at e
theorem DVs.of_ints : ∀ ns : List Int, DVs io K H (ns.map V.int) (ns.map PyData.int)
  | [] => .nil
  | n :: ns => .cons (.int n) (DVs.of_ints ns)
mutual
theorem DV.dp : ∀ {v : V} {d : D}, DV io K H v d → Dp K H v d
  | _, _, .non => .non
  | _, _, .bl b => .bl b
  | _, _, .int i => .int i
  | _, _, .str x => .str x
  | _, _, .lst h _ hs => .lst (SqL.of h) hs.dps
  | _, _, .tup h hs => .tup h.sq hs.dps
theorem DVs.dps : ∀ {vs : List V} {ds : List D}, DVs io K H vs ds → DpAll K H vs ds
  | _, _, .nil => .nil
  | _, _, .cons h hs => .cons h.dp hs.dps
end

/-! ### values, memory -/
def VV (io : Io) (K : PySem.W.Frag) (H : Hp) (u : V) : Vl → Prop
  | .p d => DV io K H u d
  | .r i => ∃ a, u = .ref a ∧ io.ids[i]? = some a
  | .s ds => ∃ a xs, u = .ref a ∧ SQ io K H a xs ∧ DVs io K H xs ds
theorem prefix_get {l l' : List Addr} {a : Addr} {i : Nat} (h : l <+: l') (e : l[i]? = some a) : l'[i]? = some a := by
  obtain ⟨t, rfl⟩ := h
  have hi : i < l.length := (List.getElem?_eq_some_iff.mp e).1
  rw [List.getElem?_append_left hi]
  exact e
theorem VV.mono (g : Gr io H io' H') {u : V} {v : Vl} (h : VV io K H u v) : VV io' K H' u v := by
  cases v with
  | p d => exact DV.mono g h
  | r i => obtain ⟨a, e, h⟩ := h; exact ⟨a, e, prefix_get g.pre h⟩
  | s ds => obtain ⟨a, xs, e, h, hs⟩ := h; exact ⟨a, xs, e, h.mono g, hs.mono g⟩
inductive VVs (io : Io) (K : PySem.W.Frag) (H : Hp) : List V → List Vl → Prop
  | nil : VVs io K H [] []
  | cons {u : V} {us : List V} {v : Vl} {vs : List Vl} : VV io K H u v → VVs io K H us vs → VVs io K H (u :: us) (v :: vs)
theorem VVs.mono (g : Gr io H io' H') : ∀ {us : List V} {vs : List Vl}, VVs io K H us vs → VVs io' K H' us vs
  | _, _, .nil => .nil
  | _, _, .cons h hs => .cons (h.mono g) (VVs.mono g hs)
theorem VVs.length : ∀ {us : List V} {vs : List Vl}, VVs io K H us vs → us.length = vs.length
  | _, _, .nil => rfl
  | _, _, .cons _ hs => by rw [List.length_cons, List.length_cons, hs.length]
theorem VVs.get : ∀ {us : List V} {vs : List Vl} {i : Nat} {v : Vl}, VVs io K H us vs → vs[i]? = some v → ∃ u, us[i]? = some u ∧ VV io K H u v
  | _, _, _, _, .nil, e => by simp at e
  | _, _, 0, _, .cons h _, e => by simp at e; subst e; exact ⟨_, by simp, h⟩
  | _, _, i + 1, _, .cons _ hs, e => by
    obtain ⟨v, e', h⟩ := hs.get (i := i) (by simpa using e)
    exact ⟨v, by simpa using e', h⟩
theorem VVs.plain : ∀ {us : List V} {vs : List Vl} {ds : List D}, VVs io K H us vs → plains vs = some ds → DVs io K H us ds
  | _, _, _, .nil, e => by simp at e; subst e; exact .nil
  | _, v :: _, ds, .cons h hs, e => by
    cases v with
    | p d =>
      rw [plains_cons] at e
      obtain ⟨ds', e1, e2⟩ := Option.map_eq_some_iff.mp e
      subst e2
      exact .cons h (hs.plain e1)
    | r i => simp [plains] at e
    | s i => simp [plains] at e
/-- a key as data; a dict's entries -/
def keyD : Key → D
  | .inl i => .int i
  | .inr x => .str x
inductive DKs (io : Io) (K : PySem.W.Frag) (H : Hp) : List (Key × V) → List (D × D) → Prop
  | nil : DKs io K H [] []
  | cons {k : Key} {v : V} {d : D} {kvs : List (Key × V)} {ds : List (D × D)} : DV io K H v d → DKs io K H kvs ds → DKs io K H ((k, v) :: kvs) ((keyD k, d) :: ds)
theorem DKs.mono (g : Gr io H io' H') : ∀ {kvs : List (Key × V)} {ds : List (D × D)}, DKs io K H kvs ds → DKs io' K H' kvs ds
  | _, _, .nil => .nil
  | _, _, .cons h hs => .cons (h.mono g) (DKs.mono g hs)
theorem DKs.less (g : ∀ a, a ∈ io'.no → a ∈ io.no) : ∀ {kvs : List (Key × V)} {ds : List (D × D)}, DKs io K H kvs ds → DKs io' K H kvs ds
  | _, _, .nil => .nil
  | _, _, .cons h hs => .cons (h.less g) (DKs.less g hs)
theorem DKs.stay (g : ∀ a o, a ∉ io.no → H a = some o → H' a = some o) : ∀ {kvs : List (Key × V)} {ds : List (D × D)}, DKs io K H kvs ds → DKs io K H' kvs ds
  | _, _, .nil => .nil
  | _, _, .cons h hs => .cons (h.stay g) (DKs.stay g hs)
theorem DKs.keys : ∀ {kvs : List (Key × V)} {ds : List (D × D)}, DKs io K H kvs ds → ds.map (·.1) = kvs.map fun q => keyD q.1
  | _, _, .nil => rfl
  | _, _, .cons _ hs => by rw [List.map_cons, List.map_cons, DKs.keys hs]
theorem DKs.length : ∀ {kvs : List (Key × V)} {ds : List (D × D)}, DKs io K H kvs ds → kvs.length = ds.length
  | _, _, .nil => rfl
  | _, _, .cons _ hs => by rw [List.length_cons, List.length_cons, DKs.length hs]
/-! dicts whose keys are tuples of ints: the entries, their keys' tuples by address -/
def tH (ks : List Int) : Int := reduceHash (Builtin.Tuple.tupleHashOf (ks.map hashInt))
abbrev TEs := List (List Int × Addr × V)
def DicO (a : Addr) (xs : TEs) (h : Heap) : Prop :=
  ∃ (ys : List (List Int × Addr × Value)) (o : Obj) (es : Array DictEntry) (ep : Nat), Paired (fun (p : List Int × Addr × V) (q : List Int × Addr × Value) => p.1 = q.1 ∧ p.2.1 = q.2.1 ∧ RelV p.2.2 q.2.2) xs ys ∧
    h.get? a = some o ∧ o.ExactDict ∧ o.data = .dict es ep ∧ es.toList = ys.map (fun y => ⟨tH y.1, .ref y.2.1, y.2.2⟩) ∧ (ys.map (·.1)).Nodup
inductive DTs (io : Io) (K : PySem.W.Frag) (H : Hp) : TEs → List (List Int × D) → Prop
  | nil : DTs io K H [] []
  | cons {k : List Int} {b : Addr} {v : V} {d : D} {xs : TEs} {ds : List (List Int × D)} : TQ io K H b (k.map V.int) → DV io K H v d → DTs io K H xs ds → DTs io K H ((k, b, v) :: xs) ((k, d) :: ds)
theorem DTs.mono (g : Gr io H io' H') : ∀ {xs : TEs} {ds : List (List Int × D)}, DTs io K H xs ds → DTs io' K H' xs ds
  | _, _, .nil => .nil
  | _, _, .cons t h hs => .cons (t.mono g) (h.mono g) (DTs.mono g hs)
theorem DTs.less (g : ∀ a, a ∈ io'.no → a ∈ io.no) : ∀ {xs : TEs} {ds : List (List Int × D)}, DTs io K H xs ds → DTs io' K H xs ds
  | _, _, .nil => .nil
  | _, _, .cons t h hs => .cons (t.elim (fun ⟨h, n⟩ => .inl ⟨h, fun z => n (g _ z)⟩) .inr) (h.less g) (DTs.less g hs)
theorem DTs.stay (g : ∀ a o, a ∉ io.no → H a = some o → H' a = some o) : ∀ {xs : TEs} {ds : List (List Int × D)}, DTs io K H xs ds → DTs io K H' xs ds
  | _, _, .nil => .nil
  | _, _, .cons t h hs => .cons (t.elim (fun ⟨⟨o, h, k⟩, n⟩ => .inl ⟨⟨o, g _ _ n h, k⟩, n⟩) .inr) (h.stay g) (DTs.stay g hs)
theorem DTs.length : ∀ {xs : TEs} {ds : List (List Int × D)}, DTs io K H xs ds → xs.length = ds.length
  | _, _, .nil => rfl
  | _, _, .cons _ _ hs => by rw [List.length_cons, List.length_cons, DTs.length hs]
/-! instances -/
/-- a field's value: data, or a list that came into the memory ahead of the instance, the n-th object -/
def FVr (io : Io) (K : PySem.W.Frag) (H : Hp) (n : Nat) (u : V) : Vl → Prop
  | .p d => DV io K H u d
  | .r j => j < n ∧ ∃ b, u = .ref b ∧ io.ids[j]? = some b
  | .s _ => False
inductive FVs (io : Io) (K : PySem.W.Frag) (H : Hp) (n : Nat) : List (Str × V) → List (Str × Vl) → Prop
  | nil : FVs io K H n [] []
  | cons {f : Str} {u : V} {v : Vl} {us : List (Str × V)} {vs : List (Str × Vl)} : FVr io K H n u v → FVs io K H n us vs → FVs io K H n ((f, u) :: us) ((f, v) :: vs)
theorem FVr.to {n : Nat} {u : V} {v : Vl} (h : FVr io K H n u v) (hd : ∀ d, DV io K H u d → DV io' K H' u d) (hi : ∀ (j : Nat) (b : Addr), j < n → io.ids[j]? = some b → io'.ids[j]? = some b) : FVr io' K H' n u v := by
  cases v with
  | p d => exact hd d h
  | r j => obtain ⟨l, b, e, q⟩ := h; exact ⟨l, b, e, hi j b l q⟩
  | s _ => exact h
theorem FVs.to {n : Nat} (hd : ∀ u d, DV io K H u d → DV io' K H' u d) (hi : ∀ (j : Nat) (b : Addr), j < n → io.ids[j]? = some b → io'.ids[j]? = some b) : ∀ {us : List (Str × V)} {vs : List (Str × Vl)}, FVs io K H n us vs → FVs io' K H' n us vs
  | _, _, .nil => .nil
  | _, _, .cons h hs => .cons (h.to (hd _) hi) (FVs.to hd hi hs)
theorem FVs.grow {n m : Nat} (h : n ≤ m) : ∀ {us : List (Str × V)} {vs : List (Str × Vl)}, FVs io K H n us vs → FVs io K H m us vs
  | _, _, .nil => .nil
  | _, _, .cons (v := v) q hs => .cons (by
      cases v with
      | p d => exact q
      | r j => obtain ⟨l, r⟩ := q; exact ⟨Nat.lt_of_lt_of_le l h, r⟩
      | s _ => exact q) (FVs.grow h hs)
theorem FVs.length {n : Nat} : ∀ {us : List (Str × V)} {vs : List (Str × Vl)}, FVs io K H n us vs → us.length = vs.length
  | _, _, .nil => rfl
  | _, _, .cons _ hs => by rw [List.length_cons, List.length_cons, FVs.length hs]
theorem FVs.snoc {n : Nat} {f : Str} {u : V} {v : Vl} (q : FVr io K H n u v) : ∀ {us : List (Str × V)} {vs : List (Str × Vl)}, FVs io K H n us vs → FVs io K H n (us ++ [(f, u)]) (vs ++ [(f, v)])
  | _, _, .nil => .cons q .nil
  | _, _, .cons h hs => .cons h (FVs.snoc q hs)
theorem FVs.get {n : Nat} {f : Str} {v : Vl} : ∀ {us : List (Str × V)} {vs : List (Str × Vl)}, FVs io K H n us vs → vs.lookup f = some v → ∃ u, us.lookup f = some u ∧ FVr io K H n u v
  | _, _, .nil, e => by cases e
  | _, _, .cons (f := g) h hs, e => by
    rw [List.lookup_cons] at e ⊢
    cases z : f == g with
    | true => rw [z] at e; cases e; exact ⟨_, rfl, h⟩
    | false => rw [z] at e; exact FVs.get hs e
theorem FVs.none {n : Nat} {f : Str} : ∀ {us : List (Str × V)} {vs : List (Str × Vl)}, FVs io K H n us vs → vs.lookup f = none → us.lookup f = none
  | _, _, .nil, _ => rfl
  | _, _, .cons (f := g) h hs, e => by
    rw [List.lookup_cons] at e ⊢
    cases z : f == g with
    | true => rw [z] at e; cases e
    | false => rw [z] at e; exact FVs.none hs e
/-- an object of the memory -/
def MOk (io : Io) (K : PySem.W.Frag) (H : Hp) (a : Addr) : MO → Prop
  | .lst ds => ∃ xs, H a = some (.lst xs) ∧ DVs io K H xs ds
  | .dic ds => ∃ kvs, H a = some (.dK kvs) ∧ DKs io K H kvs ds
  | .dit ds => ∃ xs, H a = some (.ext (DicO a xs)) ∧ xs.length ≤ sizeLine ∧ DTs io K H xs ds
  | .ins c fs => ∃ (n : Nat) (dx : Addr) (fv : List (Str × V)), io.ids[n]? = some a ∧ H a = some (.ins (He.ga K (Str.ofString c)) dx fv) ∧ FVs io K H n fv fs
structure RM (io : Io) (K : PySem.W.Frag) (H : Hp) (M : Mem) : Prop where
  len : io.ids.length = M.length
  nd : io.ids.Nodup
  at_ : ∀ (i : Nat) (a : Addr) (o : MO), io.ids[i]? = some a → M[i]? = some o → MOk io K H a o
  all : ∀ a, a ∈ io.no → ∃ u, H a = some u
theorem RM.fresh {M : Mem} (r : RM io K H M) {p : Addr} (h : H p = none) : p ∉ io.no := fun z => by
  obtain ⟨u, e⟩ := r.all p z
  rw [h] at e
  cases e
/-- the slots -/
structure RS (io : Io) (K : PySem.W.Frag) (H : Hp) (s : L2.St) (g : Sg) : Prop where
  len : s.length = g.length
  at_ : ∀ (i : Nat) (v : Vl), g[i]? = some (some v) → ∃ u, s[i]? = some (some u) ∧ VV io K H u v
theorem RS.mono {s : L2.St} {g : Sg} (x : Gr io H io' H') (h : RS io K H s g) : RS io' K H' s g :=
  ⟨h.len, fun i v e => let ⟨u, e', r⟩ := h.at_ i v e; ⟨u, e', r.mono x⟩⟩
theorem RS.set {s : L2.St} {g : Sg} {u : V} {v : Vl} (h : RS io K H s g) (i : Nat) (hv : VV io K H u v) : RS io K H (s.set i (some u)) (g.set i (some v)) := by
  refine ⟨by rw [List.length_set, List.length_set, h.len], fun j w e => ?_⟩
  by_cases hj : i = j
  · subst hj
    by_cases hi : i < g.length
    · rw [List.getElem?_set_self hi] at e
      cases e
      exact ⟨u, List.getElem?_set_self (by rw [h.len]; exact hi), hv⟩
    · rw [List.getElem?_eq_none (by rw [List.length_set]; omega)] at e
      cases e
  · rw [List.getElem?_set_ne hj] at e ⊢
    exact h.at_ j w e
theorem RS.setNone {s : L2.St} {g : Sg} (h : RS io K H s g) (i : Nat) : RS io K H (s.set i none) (g.set i none) := by
  refine ⟨by rw [List.length_set, List.length_set, h.len], fun j w e => ?_⟩
  by_cases hj : i = j
  · subst hj
    by_cases hi : i < g.length
    · rw [List.getElem?_set_self hi] at e
      cases e
    · rw [List.getElem?_eq_none (by rw [List.length_set]; omega)] at e
      cases e
  · rw [List.getElem?_set_ne hj] at e ⊢
    exact h.at_ j w e
theorem RS.wipe {s : L2.St} {g : Sg} (h : RS io K H s g) : ∀ is : List Nat, RS io K H (L2.wipe s is) (Eg.wipe g is)
  | [] => h
  | i :: is => (h.wipe is).setNone i

/-! ### new objects, changed objects -/
theorem Gr.upd {p : Addr} {o : HO} (h : H p = none) : Gr io H io (upd H p o) :=
  ⟨List.prefix_refl _, fun _ h => h, fun _ h n => absurd h n, fun _ h n => absurd h n, fun a u e _ => by rw [upd_ne (ne_of_none e h)]; exact e⟩
theorem MOk.mono {a : Addr} {o : MO} (h : MOk io K H a o) (g : Gr io H io' H') (k : H' a = H a) : MOk io' K H' a o := by
  cases o with
  | lst ds => obtain ⟨xs, e, hs⟩ := h; exact ⟨xs, by rw [k]; exact e, hs.mono g⟩
  | dic ds => obtain ⟨xs, e, hs⟩ := h; exact ⟨xs, by rw [k]; exact e, hs.mono g⟩
  | dit ds => obtain ⟨xs, e, l, hs⟩ := h; exact ⟨xs, by rw [k]; exact e, l, hs.mono g⟩
  | ins c fs => obtain ⟨n, dx, fv, i, e, hs⟩ := h; exact ⟨n, dx, fv, prefix_get g.pre i, by rw [k]; exact e, hs.to (fun _ _ q => q.mono g) fun j b _ q => prefix_get g.pre q⟩
theorem upd_some {p a : Addr} {o : HO} (h : ∃ u, H a = some u) : ∃ u, L2.upd H p o a = some u := by
  by_cases e : a = p
  · subst e; exact ⟨o, upd_same⟩
  · obtain ⟨u, hu⟩ := h
    exact ⟨u, by rw [upd_ne e]; exact hu⟩
theorem RM.upd {M : Mem} {p : Addr} {o : HO} (r : RM io K H M) (h : H p = none) : RM io K (L2.upd H p o) M :=
  ⟨r.len, r.nd, fun i a u e e' => (r.at_ i a u e e').mono (Gr.upd h) (by
    have hp : a ≠ p := fun z => by subst z; exact r.fresh h (io.sub _ (List.mem_of_getElem? e))
    rw [upd_ne hp]), fun a ha => upd_some (r.all a ha)⟩
/-- one more object of the memory -/
def Io.push (io : Io) (p : Addr) : Io := ⟨io.ids ++ [p], p :: io.no, fun a h => by
  rcases List.mem_append.mp h with z | z
  · exact List.mem_cons_of_mem _ (io.sub a z)
  · rw [List.mem_singleton.mp z]; exact List.mem_cons_self⟩
/-- an address that plain data do not hold -/
def Io.guard (io : Io) (p : Addr) : Io := ⟨io.ids, p :: io.no, fun a h => List.mem_cons_of_mem _ (io.sub a h)⟩
theorem Gr.guard {p : Addr} {o : HO} (h : H p = none) : Gr io H (io.guard p) (L2.upd H p o) :=
  ⟨List.prefix_refl _, fun _ h => List.mem_cons_of_mem _ h, fun _ h n => absurd h n, fun a ha n => by
    rcases List.mem_cons.mp ha with z | z
    · rw [z]; exact h
    · exact absurd z n, fun a u e _ => by rw [upd_ne (ne_of_none e h)]; exact e⟩
theorem RM.guard {M : Mem} {p : Addr} {o : HO} (r : RM io K H M) (h : H p = none) : RM (io.guard p) K (L2.upd H p o) M :=
  ⟨r.len, r.nd, fun i a u e e' => (r.at_ i a u e e').mono (Gr.guard h) (by
    have hp : a ≠ p := fun z => by subst z; exact r.fresh h (io.sub _ (List.mem_of_getElem? e))
    rw [upd_ne hp]), fun a ha => by
      rcases List.mem_cons.mp ha with z | z
      · rw [z]; exact ⟨o, upd_same⟩
      · exact upd_some (r.all a z)⟩
/-- a guarded list comes into the memory -/
def Io.take (io : Io) (p : Addr) (h : p ∈ io.no) : Io := ⟨io.ids ++ [p], io.no, fun a z => by
  rcases List.mem_append.mp z with z | z
  · exact io.sub a z
  · rw [List.mem_singleton.mp z]; exact h⟩
theorem MOk.less {a : Addr} {o : MO} (h : MOk io K H a o) (g : ∀ a, a ∈ io'.no → a ∈ io.no) (hi : ∀ (j : Nat) (b : Addr) (n : Nat), j ≤ n → io.ids[n]? = some a → io.ids[j]? = some b → io'.ids[j]? = some b) : MOk io' K H a o := by
  cases o with
  | lst ds => obtain ⟨xs, e, hs⟩ := h; exact ⟨xs, e, hs.less g⟩
  | dic ds => obtain ⟨xs, e, hs⟩ := h; exact ⟨xs, e, hs.less g⟩
  | dit ds => obtain ⟨xs, e, l, hs⟩ := h; exact ⟨xs, e, l, hs.less g⟩
  | ins c fs => obtain ⟨n, dx, fv, i, e, hs⟩ := h; exact ⟨n, dx, fv, hi n a n (Nat.le_refl _) i i, e, hs.to (fun _ _ q => q.less g) fun j b l q => hi j b n (Nat.le_of_lt l) i q⟩
theorem MOk.lessD {a : Addr} {o : MO} (h : MOk io K H a o) (g : ∀ a, a ∈ io'.no → a ∈ io.no) (hn : ∀ c fs, o ≠ .ins c fs) : MOk io' K H a o := by
  cases o with
  | lst ds => obtain ⟨xs, e, hs⟩ := h; exact ⟨xs, e, hs.less g⟩
  | dic ds => obtain ⟨xs, e, hs⟩ := h; exact ⟨xs, e, hs.less g⟩
  | dit ds => obtain ⟨xs, e, l, hs⟩ := h; exact ⟨xs, e, l, hs.less g⟩
  | ins c fs => exact absurd rfl (hn c fs)
theorem ids_app {l l2 : List Addr} {a : Addr} : ∀ (j : Nat) (b : Addr) (n : Nat), j ≤ n → l[n]? = some a → l[j]? = some b → (l ++ l2)[j]? = some b := fun j b n _ _ q => prefix_get (List.prefix_append _ _) q
theorem ids_same {l : List Addr} {a : Addr} : ∀ (j : Nat) (b : Addr) (n : Nat), j ≤ n → l[n]? = some a → l[j]? = some b → l[j]? = some b := fun _ _ _ _ _ q => q
theorem RM.take {M : Mem} {p : Addr} {xs : List V} {ds : List D} (r : RM io K H M) (hp : p ∈ io.no) (hi : p ∉ io.ids) (e : H p = some (.lst xs)) (hs : DVs io K H xs ds) : RM (io.take p hp) K H (M ++ [.lst ds]) := by
  refine ⟨by show (io.ids ++ [p]).length = _; rw [List.length_append, List.length_append, r.len]; rfl, ?_, fun i a o e1 e2 => ?_, r.all⟩
  · show (io.ids ++ [p]).Nodup
    rw [List.nodup_append]
    refine ⟨r.nd, List.pairwise_singleton _ _, fun a ha b hb => ?_⟩
    rw [List.mem_singleton.mp hb]
    exact fun z => by subst z; exact hi ha
  · have e1 : (io.ids ++ [p])[i]? = some a := e1
    have l : ∀ a, a ∈ (io.take p hp).no → a ∈ io.no := fun _ h => h
    by_cases hi : i < io.ids.length
    · rw [List.getElem?_append_left hi] at e1
      rw [List.getElem?_append_left (by rw [← r.len]; exact hi)] at e2
      exact (r.at_ i a o e1 e2).less l ids_app
    · rw [List.getElem?_append_right (by omega)] at e1
      rw [List.getElem?_append_right (by rw [← r.len]; omega), ← r.len] at e2
      by_cases h0 : i - io.ids.length = 0
      · rw [h0] at e1 e2
        simp at e1 e2
        subst e1 e2
        exact ⟨xs, e, hs.less l⟩
      · rw [List.getElem?_eq_none (by simp; omega)] at e1
        cases e1
theorem Gr.take {p : Addr} (g : Gr io H io' H') (hp : p ∈ io'.no) (hn : H p = none) : Gr io H (io'.take p hp) H' :=
  ⟨g.pre.trans (List.prefix_append _ _), g.mor, fun a h n => by
    rcases List.mem_append.mp h with z | z
    · exact g.newi a z n
    · rw [List.mem_singleton.mp z]; exact hn, g.new, g.keep⟩
/-- a guard is let go -/
def Io.drop (io : Io) (p : Addr) (h : p ∉ io.ids) : Io := ⟨io.ids, io.no.filter (fun a => decide (a ≠ p)), fun a z => List.mem_filter.mpr ⟨io.sub a z, decide_eq_true fun e => h (e ▸ z)⟩⟩
theorem Io.drop_no {p : Addr} (h : p ∉ io.ids) : p ∉ (io.drop p h).no := fun z => (of_decide_eq_true (List.mem_filter.mp z).2) rfl
theorem Io.drop_less {p : Addr} (h : p ∉ io.ids) : ∀ a, a ∈ (io.drop p h).no → a ∈ io.no := fun _ z => (List.mem_filter.mp z).1
theorem RM.drop {M : Mem} {p : Addr} (r : RM io K H M) (h : p ∉ io.ids) : RM (io.drop p h) K H M :=
  ⟨r.len, r.nd, fun i a o e e' => (r.at_ i a o e e').less (Io.drop_less h) ids_same, fun a z => r.all a (Io.drop_less h a z)⟩
theorem Gr.drop {p : Addr} (g : Gr io H io' H') (h : p ∉ io'.ids) (hn : p ∉ io.no) : Gr io H (io'.drop p h) H' :=
  ⟨g.pre, fun a z => List.mem_filter.mpr ⟨g.mor a z, decide_eq_true fun e => hn (e ▸ z)⟩, g.newi, fun a z n => g.new a (Io.drop_less h a z) n, g.keep⟩
/-- a guarded list is written -/
theorem RM.over {M : Mem} {p : Addr} {o : HO} (r : RM io K H M) (hp : p ∈ io.no) (hi : p ∉ io.ids) : RM io K (L2.upd H p o) M := by
  have st : ∀ a u, a ∉ io.no → H a = some u → L2.upd H p o a = some u := fun a u n e => by rw [upd_ne (fun z => by subst z; exact n hp)]; exact e
  refine ⟨r.len, r.nd, fun i a u e e' => ?_, fun a ha => upd_some (r.all a ha)⟩
  have k := r.at_ i a u e e'
  cases u with
  | lst ds =>
    obtain ⟨xs, ex, hs⟩ := k
    exact ⟨xs, by rw [upd_ne (fun z => by subst z; exact hi (List.mem_of_getElem? e))]; exact ex, hs.stay st⟩
  | dic ds =>
    obtain ⟨xs, ex, hs⟩ := k
    exact ⟨xs, by rw [upd_ne (fun z => by subst z; exact hi (List.mem_of_getElem? e))]; exact ex, hs.stay st⟩
  | dit ds =>
    obtain ⟨xs, ex, l, hs⟩ := k
    exact ⟨xs, by rw [upd_ne (fun z => by subst z; exact hi (List.mem_of_getElem? e))]; exact ex, l, hs.stay st⟩
  | ins c fs =>
    obtain ⟨n, dx, fv, i, ex, hs⟩ := k
    exact ⟨n, dx, fv, i, by rw [upd_ne (fun z => by subst z; exact hi (List.mem_of_getElem? e))]; exact ex, hs.to (fun _ _ q => q.stay st) fun _ _ _ q => q⟩
theorem DVs.over {p : Addr} {o : HO} {xs : List V} {ds : List D} (hp : p ∈ io.no) (h : DVs io K H xs ds) : DVs io K (L2.upd H p o) xs ds :=
  h.stay fun a u n e => by rw [upd_ne (fun z => by subst z; exact n hp)]; exact e
theorem Gr.over {p : Addr} {o : HO} (g : Gr io H io' H') (hn : H p = none) : Gr io H io' (L2.upd H' p o) :=
  ⟨g.pre, g.mor, g.newi, g.new, fun a u e n => by rw [upd_ne (ne_of_none e hn)]; exact g.keep a u e n⟩
theorem Gr.write {a : Addr} {o : HO} (h : a ∈ io.ids) : Gr io H io (L2.upd H a o) :=
  ⟨List.prefix_refl _, fun _ h => h, fun _ h n => absurd h n, fun _ h n => absurd h n, fun b u e n => by rw [upd_ne (fun z => by subst z; exact n h)]; exact e⟩
theorem RM.write {M : Mem} {i : Nat} {a : Addr} {xs : List V} {ds : List D} (r : RM io K H M) (e : io.ids[i]? = some a) (hs : DVs io K H xs ds) : RM io K (L2.upd H a (.lst xs)) (M.set i (.lst ds)) := by
  have g : Gr io H io (L2.upd H a (.lst xs)) := Gr.write (List.mem_of_getElem? e)
  refine ⟨by rw [List.length_set, r.len], r.nd, fun j b o ej eo => ?_, fun b hb => upd_some (r.all b hb)⟩
  by_cases hj : i = j
  · subst hj
    rw [e] at ej
    cases ej
    have hi : i < M.length := by rw [← r.len]; exact (List.getElem?_eq_some_iff.mp e).1
    rw [List.getElem?_set_self hi] at eo
    cases eo
    exact ⟨xs, upd_same, hs.mono g⟩
  · rw [List.getElem?_set_ne hj] at eo
    refine (r.at_ j b o ej eo).mono g ?_
    refine upd_ne fun z => ?_
    subst z
    have h1 := (List.getElem?_eq_some_iff.mp e)
    obtain ⟨l1, q1⟩ := h1
    exact hj ((List.getElem?_inj l1 r.nd).mp (by rw [e, ej]))
theorem RM.writeO {M : Mem} {i : Nat} {a : Addr} {u : HO} {o : MO} (r : RM io K H M) (e : io.ids[i]? = some a) (hm : MOk io K (L2.upd H a u) a o) : RM io K (L2.upd H a u) (M.set i o) := by
  have g : Gr io H io (L2.upd H a u) := Gr.write (List.mem_of_getElem? e)
  refine ⟨by rw [List.length_set, r.len], r.nd, fun j b o' ej eo => ?_, fun b hb => upd_some (r.all b hb)⟩
  by_cases hj : i = j
  · subst hj
    rw [e] at ej
    cases ej
    have hi : i < M.length := by rw [← r.len]; exact (List.getElem?_eq_some_iff.mp e).1
    rw [List.getElem?_set_self hi] at eo
    cases eo
    exact hm
  · rw [List.getElem?_set_ne hj] at eo
    refine (r.at_ j b o' ej eo).mono g ?_
    refine upd_ne fun z => ?_
    subst z
    obtain ⟨l1, q1⟩ := List.getElem?_eq_some_iff.mp e
    exact hj ((List.getElem?_inj l1 r.nd).mp (by rw [e, ej]))
theorem RM.takeM {M : Mem} {p : Addr} {o : MO} (r : RM io K H M) (hp : p ∈ io.no) (hi : p ∉ io.ids) (hm : MOk (io.take p hp) K H p o) : RM (io.take p hp) K H (M ++ [o]) := by
  have less : ∀ a, a ∈ (io.take p hp).no → a ∈ io.no := fun _ h => h
  refine ⟨by show (io.ids ++ [p]).length = _; rw [List.length_append, List.length_append, r.len]; rfl, ?_, fun i a o' e1 e2 => ?_, r.all⟩
  · show (io.ids ++ [p]).Nodup
    refine List.nodup_append.mpr ⟨r.nd, by simp, fun a ha b hb => ?_⟩
    rw [List.mem_singleton.mp hb]
    exact fun z => hi (z ▸ ha)
  · have e1 : (io.ids ++ [p])[i]? = some a := e1
    rcases Nat.lt_or_ge i io.ids.length with h | h
    · rw [List.getElem?_append_left h] at e1
      rw [List.getElem?_append_left (by rw [← r.len]; exact h)] at e2
      exact (r.at_ i a o' e1 e2).less less ids_app
    · rw [List.getElem?_append_right h] at e1
      rw [List.getElem?_append_right (by rw [← r.len]; exact h), ← r.len] at e2
      cases k : i - io.ids.length with
      | zero =>
        rw [k] at e1 e2
        cases e1
        cases e2
        exact hm
      | succ j => rw [k] at e1; cases e1
/-- a list of the memory -/
theorem RM.list {M : Mem} {i : Nat} {a : Addr} {ds : List D} (r : RM io K H M) (e : io.ids[i]? = some a) (m : M[i]? = some (.lst ds)) : ∃ xs, H a = some (.lst xs) ∧ DVs io K H xs ds := r.at_ i a _ e m

/-! ### a value's data, for operations that only read -/
inductive DB (io : Io) (K : PySem.W.Frag) (H : Hp) : V → D → Prop
  | non : DB io K H .non .none
  | bl (b : Bool) : DB io K H (.bl b) (.bool b)
  | int (i : Int) : DB io K H (.int i) (.int i)
  | str (x : Str) : DB io K H (.str x) (.str x)
  | lst {a : Addr} {xs : List V} {ds : List D} : H a = some (.lst xs) → DVs io K H xs ds → DB io K H (.ref a) (.list ds)
  | tup {a : Addr} {xs : List V} {ds : List D} : TQ io K H a xs → DVs io K H xs ds → DB io K H (.ref a) (.tuple ds)
theorem DV.db {v : V} {d : D} (h : DV io K H v d) : DB io K H v d := by
  cases h with
  | non => exact .non
  | bl b => exact .bl b
  | int i => exact .int i
  | str x => exact .str x
  | lst h _ hs => exact .lst h hs
  | tup h hs => exact .tup h hs
theorem VV.db {M : Mem} {u : V} {v : Vl} {d : D} (r : RM io K H M) (h : VV io K H u v) (e : look M v = some d) : DB io K H u d := by
  cases v with
  | p x => cases e; exact DV.db h
  | r i =>
    obtain ⟨a, rfl, ea⟩ := h
    unfold look at e
    dsimp only at e
    cases q : M[i]? with
    | none => rw [q] at e; cases e
    | some o =>
      rw [q] at e
      cases o with
      | lst ds =>
        cases e
        obtain ⟨xs, hx, hs⟩ := r.list ea q
        exact .lst hx hs
      | dic _ => cases e
      | dit _ => cases e
      | ins _ _ => cases e
  | s ds => cases e
theorem DB.dp {v : V} {d : D} (h : DB io K H v d) : Dp K H v d := by
  cases h with
  | non => exact .non
  | bl b => exact .bl b
  | int i => exact .int i
  | str x => exact .str x
  | lst h hs => exact .lst (SqL.of h) hs.dps
  | tup h hs => exact .tup h.sq hs.dps
end
end Eg

/-! Engine, part C: what it is that an expression keeps its meaning; operations. By an AI agent. -/
namespace Eg
open PySem PySem.Spec PyProof.Rows L2

/-- an exception in the air: its class, its own dict -/
def XR (io : Io) (K : PySem.W.Frag) (H : Hp) (cls : Value) (d : Option Addr) (c : String) (fs : List (String × D)) : Prop :=
  cls = .ref (He.ga K (Str.ofString c)) ∧ ∃ (dd : Addr) (fv : List (Str × V)), d = some dd ∧ H dd = some (.xd fv) ∧ dd ∉ io.no ∧
    ∀ (f : String) (v : D), fs.lookup f = some v → ∃ u, fv.lookup (Str.ofString f) = some u ∧ DV io K H u v
theorem XR.mono {io io' : Io} {K : PySem.W.Frag} {H H' : Hp} {cls : Value} {d : Option Addr} {c : String} {fs : List (String × D)} (g : Gr io H io' H') (h : XR io K H cls d c fs) : XR io' K H' cls d c fs := by
  obtain ⟨e, dd, fv, ed, hd, n, hf⟩ := h
  exact ⟨e, dd, fv, ed, g.kp hd n, g.out hd n, fun f v e => let ⟨u, e1, r⟩ := hf f v e; ⟨u, e1, r.mono g⟩⟩

/-- what a result asks of what is wanted -/
def Post {α ν : Type} (K : PySem.W.Frag) (R : Io → Hp → ν → α → Prop) (io : Io) (H : Hp) (r : Rs α) (Q : ν → Hp → Prop) (E : XK) : Prop :=
  match r with
  | .bad => False
  | .ok a M' => ∀ io' H' u, Gr io H io' H' → RM io' K H' M' → R io' H' u a → Q u H'
  | .exc c fs M' => ∀ io' H' cls d, Gr io H io' H' → RM io' K H' M' → XR io' K H' cls d c fs → E cls d H'
section
variable {α β ν μ : Type} {K : PySem.W.Frag} {R : Io → Hp → ν → α → Prop} {R' : Io → Hp → μ → β → Prop} {io io1 : Io} {H H1 : Hp}
theorem Post.shift {r : Rs α} {Q : ν → Hp → Prop} {E : XK} (g : Gr io H io1 H1) (h : Post K R io H r Q E) : Post K R io1 H1 r Q E := by
  cases r with
  | bad => exact h
  | ok a M => exact fun io' H' u g' => h io' H' u (g.trans g')
  | exc c fs M => exact fun io' H' cls d g' => h io' H' cls d (g.trans g')
theorem Post.seq {r : Rs β} {k : β → Mem → Rs α} {Q : ν → Hp → Prop} {E : XK} {Q' : μ → Hp → Prop} (h : Post K R io H (r.bind k) Q E)
    (hk : ∀ (b : β) (M1 : Mem) (io1 : Io) (H1 : Hp) (u : μ), r = .ok b M1 → Gr io H io1 H1 → RM io1 K H1 M1 → R' io1 H1 u b → Post K R io1 H1 (k b M1) Q E → Q' u H1) : Post K R' io H r Q' E := by
  cases r with
  | bad => exact h
  | ok b M1 => exact fun io1 H1 u g rm ru => hk b M1 io1 H1 u rfl g rm ru (Post.shift g h)
  | exc c fs M => exact h
theorem Post.done {a : α} {M : Mem} {u : ν} {Q : ν → Hp → Prop} {E : XK} (h : Post K R io H (.ok a M) Q E) (rm : RM io K H M) (ru : R io H u a) : Q u H := h io H u .refl rm ru
end

/-! ### judgements with their meanings -/
def SE (X : Cx) (W : WX) (t : TE) (f : Sg → Mem → Rs Vl) : Prop :=
  ∀ (io : Io) (s : L2.St) (H : Hp) (g : Sg) (M : Mem) (Q : VK), RS io X.K H s g → RM io X.K H M → Post X.K (fun io H u v => VV io X.K H u v) io H (f g M) Q (fun cls d H' => W cls d s H') → t s H Q
def OkE (X : Cx) (W : WX) (e : Expr) (f : Sg → Mem → Rs Vl) : Prop := ∃ t, PE X e t ∧ SE X W t f
def STt (X : Cx) (W : WX) (t : TT) (f : Sg → Mem → Rs Bool) : Prop :=
  ∀ (io : Io) (s : L2.St) (H : Hp) (g : Sg) (M : Mem) (Q : Bool → Hp → Prop), RS io X.K H s g → RM io X.K H M → Post X.K (fun _ _ u v => u = v) io H (f g M) Q (fun cls d H' => W cls d s H') → t s H Q
def OkT (X : Cx) (W : WX) (e : Expr) (f : Sg → Mem → Rs Bool) : Prop := ∃ t, PT X e t ∧ STt X W t f
def SA (X : Cx) (W : WX) (t : TA) (f : Sg → Mem → Rs (List Vl)) : Prop :=
  ∀ (io : Io) (s : L2.St) (H : Hp) (g : Sg) (M : Mem) (Q : List V → Hp → Prop), RS io X.K H s g → RM io X.K H M → Post X.K (fun io H u v => VVs io X.K H u v) io H (f g M) Q (fun cls d H' => W cls d s H') → t s H Q
def OkA (X : Cx) (W : WX) (es : List Expr) (f : Sg → Mem → Rs (List Vl)) : Prop := ∃ t, PA X es t ∧ SA X W t f
/-- not starred -/
def Pln (e : Expr) : Prop := match e with
  | .Starred _ _ => False
  | .Set _ _ _ => False
  | _ => True
theorem star_of {e : Expr} {es : List Expr} {env : Env} (h : Pln e) : starEach (e :: es) env = (false, eval e env) :: starEach es env := by
  cases e <;> first | rfl | exact h.elim
theorem mark_of {e : Expr} {op : CmpOp} (h : Pln e) : behindInMarks op e = false := by
  cases e <;> first | rfl | exact h.elim
theorem set_of {e : Expr} {env : Env} (h : Pln e) (x : Value) : foldedSetIterable e env x = pure x := by
  cases e <;> first | rfl | exact h.elim
def AllP : List Expr → Prop
  | [] => True
  | e :: es => Pln e ∧ AllP es
theorem any_of {pos : Pos} {env : Env} : ∀ {es : List Expr}, AllP es → (backTo pos (starEach es env)).any (·.1) = false := by
  intro es h
  have z : ∀ es : List Expr, AllP es → (starEach es env).any (·.1) = false := by
    intro es
    induction es with
    | nil => intro _; rfl
    | cons e es ih =>
      intro h
      rw [star_of h.1, List.any_cons, ih h.2]
      rfl
  unfold backTo
  rw [List.any_map]
  exact z es h
end Eg

/-! Engine, part Tu: tuples whose object is known (no own dict), so that their methods may be called; order of data. By an AI agent. -/
namespace Eg
open PySem PySem.Spec PyProof.Rows L2
/-- the object of a new tuple -/
def tupO (us : List Value) : Obj := { cls := .type "tuple", data := .seq us.toArray }
theorem ktup_new (us : List Value) : KTup (tupO us) := ⟨rfl, rfl⟩
section
variable {X : Cx} {pins : List (Addr × Obj)} {σ : L2.St} {H : Hp} {s : Shared}
theorem Inv.newT {us : List Value} {xs : List V} (I : Inv X pins σ H s) (hv : Vals xs us) (hz : xs.length ≤ sizeLine) :
    Inv X pins σ (upd H s.heap.objs.size (.frz (tupO us) (.tup xs))) { s with heap := s.heap.push (tupO us) } := by
  have at_ : (s.heap.push (tupO us)).get? s.heap.objs.size = some (tupO us) := Heap.get?_push_size _ rfl
  exact I.laid (t' := s.toks) (fun b u e => Heap.get?_push_of_some _ e) (Nat.le_refl _) ⟨at_, hz, us, hv, ⟨_, at_, rfl, 0, rfl⟩⟩
end
section
variable {X : Cx} {es : List Expr} {t : TA} {pos : Pos} {k : Nat}
/-- (a, b, ..) -/
theorem pe_tupK (h : PA X es t) : PE X (.Tuple es k pos) (fun σ H Q => t σ H fun xs H1 => xs.length ≤ sizeLine ∧ ∀ p o, KTup o → H1 p = none → Q (.ref p) (upd H1 p (.frz o (.tup xs)))) := by
  refine ⟨fun pins s σ H Q I hq => wpAny_Tuple_spliced (thn (h.run pos pins s σ H _ I hq) fun us s1 ⟨xs, H1, I1, r, z, q⟩ => ?_)⟩
  exact ⟨by rw [← r.length]; exact z, .ref s1.heap.objs.size, _, Inv.newT I1 r z, rfl, q _ _ (ktup_new us) (I1.hok.fresh (Nat.le_refl _))⟩
end
/-- t + u -/
def rCatK (K : PySem.W.Frag) : R2 := fun x y H Q => ∃ a b xs ys, x = .ref a ∧ y = .ref b ∧ SqT K H a xs ∧ SqT K H b ys ∧ xs.length + ys.length ≤ sizeLine ∧ (xs = [] → Q (.ref b) H) ∧ (xs ≠ [] → ys = [] → Q (.ref a) H) ∧
  (xs ≠ [] → ys ≠ [] → ∀ p o, KTup o → H p = none → Q (.ref p) (upd H p (.frz o (.tup (xs ++ ys)))))
theorem op_catK {X : Cx} : OpR X (binaryOp .Add) (rCatK X.K) := by
  intro pins s σ H x y v u Q I rx ry h
  obtain ⟨a, b, xs, ys, rfl, rfl, ha, hb, hz, q0, q1, q2⟩ := h
  cases rx
  cases ry
  obtain ⟨its, r1, p1, _⟩ := I.tuple ha
  obtain ⟨its2, r2, p2, _⟩ := I.tuple hb
  by_cases hx : xs = []
  · subst hx
    cases r1
    exact cat_tup0 p1 p2 ⟨.ref b, H, I, rfl, q0 rfl⟩
  · refine HT.cat_tup p1 p2 (fun z => hx (r1.nil_iff.mp z)) (fun z => ⟨.ref a, H, I, rfl, q1 hx (r2.nil_iff.mp z)⟩) (fun z => ?_) (by rw [← r1.length, ← r2.length]; exact hz)
    exact ⟨.ref s.heap.objs.size, _, Inv.newT I (r1.append r2) (by rw [List.length_append]; exact hz), rfl, q2 hx (fun w => z (r2.nil_iff.mpr w)) _ _ (ktup_new _) (I.hok.fresh (Nat.le_refl _))⟩
/-- t[lo:hi] -/
def rSlK (K : PySem.W.Frag) : V → Option Int → Option Int → Hp → VK → Prop := fun x lo hi H Q => ∃ a xs, x = .ref a ∧ SqT K H a xs ∧
  (HT.sIx xs.length 0 lo = 0 ∧ HT.sIx xs.length xs.length hi = xs.length → Q (.ref a) H) ∧ (¬ (HT.sIx xs.length 0 lo = 0 ∧ HT.sIx xs.length xs.length hi = xs.length) → ∀ p o, KTup o → H p = none → Q (.ref p) (upd H p (.frz o (.tup (cutV xs lo hi)))))
theorem sl_tupK {X : Cx} : SlR X (rSlK X.K) := by
  intro pins s σ H x v vl vu lo hi sl Q I rx hs pl pu h
  obtain ⟨a, xs, rfl, hx, q1, q2⟩ := h
  cases rx
  obtain ⟨its, r, ht, hz⟩ := I.tuple hx
  have hlen : its.toArray.size = xs.length := by rw [List.size_toArray, ← r.length]
  refine ⟨"tuple", _, PyProof.Rows.slot_tuple_getitem.lookup, ht.typeIs, ?_⟩
  by_cases hw : HT.sIx xs.length 0 lo = 0 ∧ HT.sIx xs.length xs.length hi = xs.length
  · exact getItem_tuple_whole ht hs pl pu (by rw [hlen]; exact hw) ⟨.ref a, H, I, rfl, q1 hw⟩
  · refine HT.getItem_tuple_cut ht hs pl pu (by rw [hlen]; exact hw) ?_ (by rw [hlen]; exact hz)
    rw [hlen]
    exact ⟨.ref s.heap.objs.size, _, Inv.newT I ((r.drop (HT.sIx xs.length 0 lo)).take (HT.sIx xs.length xs.length hi - HT.sIx xs.length 0 lo)) (Nat.le_trans (cutV_length xs lo hi) hz), rfl, q2 hw _ _ (ktup_new _) (I.hok.fresh (Nat.le_refl _))⟩
/-- tuple(xs) -/
theorem call_tupleK {X : Cx} : CallR X (.type "tuple") (fun vs H Q => ∃ p ys, vs = [.ref p] ∧ ((SqL X.K H p ys ∧ ∀ l o, KTup o → H l = none → Q (.ref l) (upd H l (.frz o (.tup ys)))) ∨ (SqT X.K H p ys ∧ Q (.ref p) H))) := by
  intro pins s σ H vs us Q I r h
  obtain ⟨p, ys, rfl, h⟩ := h
  obtain ⟨u, rfl, rx⟩ := vals1 r
  cases rx
  rcases h with ⟨hq, q⟩ | ⟨hq, q⟩
  · obtain ⟨its, r', pl, hz⟩ := I.list hq
    refine call_tuple_list pl.isList (fun h' kp => ?_) (by have := r'.length; simp only [List.size_toArray]; omega)
    have I1 : Inv X pins σ H { s with heap := h' } := I.kept (t' := s.toks) kp
    exact ⟨.ref h'.objs.size, _, Inv.newT I1 r' hz, rfl, q _ _ (ktup_new _) (I1.hok.fresh (Nat.le_refl _))⟩
  · obtain ⟨its, r', pl, hz⟩ := I.tuple hq
    exact call_tuple_same pl ⟨.ref p, H, I, rfl, q⟩

/-! ### t * k -/
def rRepK (K : PySem.W.Frag) : R2 := fun x y H Q => ∃ l k xs, x = .ref l ∧ y = .int k ∧ SqT K H l xs ∧ xs ≠ [] ∧ 2 ≤ k ∧ k ≤ 1000 ∧ xs.length ≤ 1000 ∧ ∀ p o, KTup o → H p = none → Q (.ref p) (upd H p (.frz o (.tup (List.replicate k.toNat xs).flatten)))
theorem op_repK {X : Cx} : OpR X (binaryOp .Mult) (rRepK X.K) := by
  intro pins s σ H x y v u Q I rx ry h
  obtain ⟨l, k, xs, rfl, rfl, hT, hne, h1, h2, hz, q⟩ := h
  cases rx
  obtain ⟨t, rfl⟩ := ry
  obtain ⟨its, r, ⟨⟨cls, dd, data, sl⟩, ho, hc, n, hd⟩, hs⟩ := I.tuple hT
  simp only at hc hd
  subst hc hd
  have hle : its.length = xs.length := r.length.symm
  have hn : its ≠ [] := fun e => hne (by
    rw [e] at hle
    exact List.eq_nil_of_length_eq_zero hle.symm)
  have hi : its.toArray.isEmpty = false := by
    cases its with
    | nil => exact absurd rfl hn
    | cons a b => rfl
  have hsz0 : its.toArray.size = xs.length := by rw [List.size_toArray, hle]
  have hm : ((its.toArray.size : Nat) : Int) * k ≤ 1000000 := by
    rw [hsz0]
    have a1 : ((xs.length : Nat) : Int) * k ≤ 1000 * k := Int.mul_le_mul_of_nonneg_right (by omega) (by omega)
    omega
  have flen : (List.replicate k.toNat its).flatten.length ≤ sizeLine := by
    rw [PyProof.Rows.lm_len_rep_flat, hle, sizeLine_eq]
    have a1 : k.toNat * xs.length ≤ 1000 * 1000 := Nat.mul_le_mul (by omega) hz
    omega
  have c0 : (decide (k < -(2 ^ 63)) || decide (k ≥ 2 ^ 63)) = false := by
    rw [decide_eq_false (by omega), decide_eq_false (by omega)] <;> rfl
  have c1 : (its.toArray.isEmpty || k == 1) = false := by
    rw [hi, Bool.false_or]
    exact beq_eq_false_iff_ne.mpr (by omega)
  have c2 : (decide (k ≤ 0) || its.toArray.isEmpty) = false := by
    rw [hi, Bool.or_false]
    exact decide_eq_false (by omega)
  have c4 : Builtin.Tuple.tupleTooMany (((its.toArray.size : Nat) : Int) * k) = false := by
    unfold Builtin.Tuple.tupleTooMany
    rw [sizeLine_eq]
    exact decide_eq_false (by omega)
  refine wpAny_binaryOp_repeat_ref (T := "tuple") (U := "int") (by decide) ⟨_, ho, rfl⟩ (fun s' => typeIs_int s' k t) noFill_tuple_mul F.fills_int_mul F.slot_int_rmul repeat_tuple F.slot_int_index.lookup
    (call_meets F.slot_int_rmul (typeIs_int s k t) F.entry_int_rmul (F.args_int_rmul_2 _ _) (int_rmul_tuple k t l its.toArray n dd sl)
      ⟨ho, rfl, ⟨_, ho, rfl⟩, call_meets F.slot_tuple_mul ⟨_, ho, rfl⟩ F.entry_tuple_mul (F.args_tuple_mul_2 _ _) (tuple_mulW l its.toArray n dd sl k t c0 c1 c2 (by omega) c4 (by rw [size_rep, List.size_toArray]; exact flen)) ⟨ho, ?_⟩⟩)
  rw [size_rep]
  exact ⟨.ref s.heap.objs.size, _, Inv.newT I (r.rep k.toNat) (by rw [PyProof.Rows.lm_len_rep_flat, sizeLine_eq]; have a1 : k.toNat * xs.length ≤ 1000 * 1000 := Nat.mul_le_mul (by omega) hz; omega), rfl, q _ _ (ktup_new _) (I.hok.fresh (Nat.le_refl _))⟩
/-! ### t * 1 -/
theorem tuple_mul1 (l : Addr) (items : Array Value) (n : Nat) (dd : Option Addr) (sl : Array (Option Value)) (u : Tok) :
    Meets (Builtin.«tuple.__mul__» ⟨[.ref l, .int 1 u], []⟩) (fun _ R s => s.heap.get? l = some { cls := .type "tuple", dict := dd, data := .seq items n, slots := sl } ∧ R (.ok (.ret (Value.ref l))) s) :=
  .of_wp fun prog w A R s h => by
    obtain ⟨hp, g, d, tk, os⟩ := s
    obtain ⟨hl, h⟩ := h
    have f1 := AutoSeq1.idx_int
    wp_walk using wpAny_loadPart' hl
    repeat (first
      | (refine wpAny_ite_false (decide_eq_false (by decide)) ?_; wp_walk using wpAny_loadPart' hl)
      | (refine wpAny_ite_true (decide_eq_true (by simp)) ?_; wp_walk using wpAny_loadPart' hl))
    exact ⟨_, rfl, h⟩
def rRep1 (K : PySem.W.Frag) : R2 := fun x y H Q => ∃ l xs, x = .ref l ∧ y = .int 1 ∧ SqT K H l xs ∧ Q (.ref l) H
theorem op_rep1 {X : Cx} : OpR X (binaryOp .Mult) (rRep1 X.K) := by
  intro pins s σ H x y v u Q I rx ry h
  obtain ⟨l, xs, rfl, rfl, hT, q⟩ := h
  cases rx
  obtain ⟨t, rfl⟩ := ry
  obtain ⟨its, r, ⟨⟨cls, dd, data, sl⟩, ho, hc, n, hd⟩, hs⟩ := I.tuple hT
  simp only at hc hd
  subst hc hd
  refine wpAny_binaryOp_repeat_ref (T := "tuple") (U := "int") (by decide) ⟨_, ho, rfl⟩ (fun s' => typeIs_int s' 1 t) noFill_tuple_mul F.fills_int_mul F.slot_int_rmul repeat_tuple F.slot_int_index.lookup
    (call_meets F.slot_int_rmul (typeIs_int s 1 t) F.entry_int_rmul (F.args_int_rmul_2 _ _) (int_rmul_tuple 1 t l its.toArray n dd sl)
      ⟨ho, rfl, ⟨_, ho, rfl⟩, call_meets F.slot_tuple_mul ⟨_, ho, rfl⟩ F.entry_tuple_mul (F.args_tuple_mul_2 _ _) (tuple_mul1 l its.toArray n dd sl t) ⟨ho, ?_⟩⟩)
  exact ⟨.ref l, H, I, rfl, q⟩
/-! ### tuple(range(..)) -/
def tTupRgK (te : L2.St → Hp → (Int → Int → Hp → Prop) → Prop) : TE := fun σ H Q => te σ H fun a b H1 => RgOk a b ∧ ∀ q o, KTup o → H1 q = none → Q (.ref q) (upd H1 q (.frz o (.tup (rgV a b))))
theorem pe_tupRgK {X : Cx} {e : Expr} {te : L2.St → Hp → (Int → Int → Hp → Prop) → Prop} {p pos : Pos} (hc : X.calm = true) (hg : Gl X "tuple") (hm : X.mg "tuple" = none) (he : PRg X e te) (na : starEach [e] X.env = (false, eval e X.env) :: starEach [] X.env := by rfl) : PE X (.Call (.Name "tuple" p) [e] [] pos) (tTupRgK te) := by
  refine ⟨fun pins s σ H Q I h => ?_⟩
  refine Call_ (ld_blt I hg hm boot_tuple (PyProof.Rows.callWith_type1 (args_cons (thn (he pins s σ H _ I h) fun x s1 ⟨r, a, b, t, u, v, H1, ex, hr, I1, ok, q⟩ => args_nil ?_) na) na))
  subst ex
  obtain ⟨b1, b2, b3, b4, b5⟩ := ok
  refine call_tuple_range (n := (b - a).toNat) (I1.ok.hd hc) hr (small_one b1 b2 b3 b4) (rangeSize_nat a b) b5 fun h' tk acc hk hi => ?_
  have I2 : Inv X pins σ H1 { s1 with heap := h', toks := tk } := I1.kept hk
  have I3 := Inv.newT I2 (us := acc.toList) (xs := rgV a b) (vals_rg hi) (by rw [rgV_length, sizeLine_eq]; omega)
  have eo : tupO acc.toList = { cls := .type "tuple", data := .seq acc } := by unfold tupO; rw [Array.toArray_toList]
  rw [eo] at I3
  exact ⟨.ref h'.objs.size, _, I3, rfl, q _ _ ⟨rfl, rfl⟩ (I2.hok.fresh (Nat.le_refl _))⟩
/-! ### t.index(x) -/
def tyT (K : PySem.W.Frag) (u : V) (H : Hp) : Prop := ∃ p, u = .ref p ∧ ((∃ o xs, H p = some (.frz o (.tup xs)) ∧ KTup o) ∨ ∃ o, K.lookup p = some o ∧ o.cls = .type "tuple" ∧ o.dict = none)
theorem tyT_is {X : Cx} {pins : List (Addr × Obj)} {σ : L2.St} {H : Hp} {s : Shared} {x : V} {v : Value} (I : Inv X pins σ H s) (r : RelV x v) (ty : tyT X.K x H) :
    s.TypeIs v "tuple" ∧ ∀ a, v = .ref a → ∃ ob, s.heap.get? a = some ob ∧ ob.dict = none := by
  obtain ⟨p, rfl, h⟩ := ty
  cases r
  rcases h with ⟨o, xs, h, hc, hd⟩ | ⟨o, h, hc, hd⟩
  · have e : s.heap.get? p = some o := (I.hok p _ h).1
    exact ⟨⟨o, e, hc⟩, fun a q => by cases q; exact ⟨o, e, hd⟩⟩
  · have e := I.kIn p o h
    exact ⟨⟨o, e, hc⟩, fun a q => by cases q; exact ⟨o, e, hd⟩⟩
def tBMT (K : PySem.W.Frag) (r : V → List V → Hp → VK → Prop) (to : TE) (t : TA) : TE := fun σ H Q => to σ H fun x H1 => tyT K x H1 ∧ t σ H1 fun xs H2 => r x xs H2 Q
theorem pe_bmT {X : Cx} {o e : Expr} {es : List Expr} {to : TE} {t : TA} {name : Str} {apos cpos : Pos} {id : String} {r : V → List V → Hp → VK → Prop} (pa : PlainAttrs "tuple") (slot : Slot "tuple" name id) (hty : typeOf (.builtin id) = pure (.type "method_descriptor")) (hm : MtR X id r) (ho : PE X o to) (ha : PA X (e :: es) t)
    (hbase : attributeBase o name X.env (eval o X.env) = eval o X.env)
    (hfew : ((backTo cpos (starEach (e :: es) X.env)).all (fun x => !x.1) && (backToKw cpos (keywordEach [] X.env)).all (fun x => x.1.isSome)
      && decide ((e :: es).length + ([] : List Keyword).length + (if ([] : List Keyword).isEmpty then 0 else 1) < 30)) = true)
    (hline : (apos.endLine == cpos.line) = true) (hs : starEach (e :: es) X.env = (false, eval e X.env) :: starEach es X.env) (hplain : (backTo cpos (starEach es X.env)).any (·.1) = false) :
    PE X (.Call (.Attribute o name apos) (e :: es) [] cpos) (tBMT X.K r to t) := by
  refine ⟨fun pins s σ H Q I h => ?_⟩
  refine wpAny_Call_method_late hbase hfew hline rfl (thn (ho.run pins s σ H _ I h) fun v s1 ⟨x, H1, I1, r1, ty, q1⟩ => ?_)
  obtain ⟨h1, h2⟩ := tyT_is I1 r1 ty
  refine ⟨"tuple", id, pa, slot, hty, h1, h2, ?_⟩
  have hA := ha.run cpos pins s1 σ H1 _ I1 q1
  rw [hs] at hA ⊢
  refine Calls.callWith_builtin (by show (false || (backTo cpos (starEach es X.env)).any (·.1)) = false; rw [hplain] <;> rfl) (Calls.evalArgs_plain ?_)
  exact thn hA fun us s2 ⟨vs, H2, I2, r2, q2⟩ => hm pins s2 σ H2 x vs v us Q I2 r1 r2 q2
def rIndexT (K : PySem.W.Frag) : V → List V → Hp → VK → Prop := fun x xs H Q => ∃ (a : Addr) (y : V) (d : PyData) (ds : List PyData) (j : Nat) (z : PyData), x = V.ref a ∧ xs = [y] ∧ Dp K H (V.ref a) (.tuple ds) ∧ Dp K H y d ∧
  SeqAt.shaped (.tuple ds) = true ∧ SeqAt.shaped d = true ∧ ds[j]? = some z ∧ PyData.eqv z d = true ∧ (∀ (m : Nat) (z' : PyData), m < j → ds[m]? = some z' → PyData.eqv z' d = false) ∧ Q (.int (j : Nat)) H
theorem mt_indexT {X : Cx} (hu : X.A.units + 65 < cLine) : MtR X "tuple.index" (rIndexT X.K) := by
  intro pins s σ H x xs v us Q I rx rxs h
  obtain ⟨a, y, d, ds, j, z, rfl, rfl, hl, hy, sl, sd, hz, hzj, hno, q⟩ := h
  cases rx
  cases rxs with
  | cons ry rt =>
    rename_i uy ut
    cases rt
    obtain ⟨bs, r1⟩ := Dp.reads I d y uy hy ry
    have hxs : PyData.canLayAll0 ds = true := SeqAt.canLay_of_shaped sl
    have hroom : X.A.units + 1 + min (PyData.depthAll ds) d.depth < cLine := room_in_shaped sd hu
    cases hl with
    | tup hs ha =>
      obtain ⟨its, rv, ⟨⟨cls, dd, data, sls⟩, ho, hc, n, hdt⟩, hlen⟩ := I.tuple hs
      simp only at hc hdt
      subst hc hdt
      obtain ⟨as, h4⟩ := Dp.readsAll I ds _ its ha rv
      have hn : its.length = ds.length := SeqAt.ReadsAll.length ds its as h4
      have hmap : its.map (SeqAt.readOf s.heap) = ds := SeqAt.readsAll_map ds its as hxs h4
      obtain ⟨hjd, _⟩ := List.getElem?_eq_some_iff.mp hz
      have hjl : j < its.length := by omega
      have hj : j < its.toArray.size := by simpa using hjl
      have at_ : ∀ (m : Nat) (hm : m < its.toArray.size) (z' : PyData), ds[m]? = some z' → SeqAt.readOf s.heap its.toArray[m] = z' := by
        intro m hm z' hz'
        have hml : m < its.length := by simpa using hm
        rw [← hmap, List.getElem?_map, List.getElem?_eq_getElem hml] at hz'
        have e1 : SeqAt.readOf s.heap its[m] = z' := Option.some.inj (show some (SeqAt.readOf s.heap its[m]) = some z' from hz')
        simpa using e1
      refine call_meets PySem.F.slot_tuple_index ⟨_, ho, rfl⟩ PySem.F.entry_tuple_index (PySem.F.args_tuple_index_2 _ _)
        (_root_.TI.tuple_indexAt a its.toArray n dd sls uy (fun u => PyData.eqv (SeqAt.readOf s.heap u) d) j hj ?_ ?_) ⟨ho, SeqAt.items_eqAt (vs := its.toArray) (show ReadsAll s.heap its.toArray.toList ds as from h4) r1 hxs (SeqAt.canLay_of_shaped sd) hroom, ?_⟩
      · show PyData.eqv (SeqAt.readOf s.heap its.toArray[j]) d = true
        rw [at_ j hj z hz]
        exact hzj
      · intro m hm hmj
        have hmd : m < ds.length := by omega
        have hz' : ds[m]? = some ds[m] := List.getElem?_eq_getElem hmd
        show PyData.eqv (SeqAt.readOf s.heap its.toArray[m]) d = false
        rw [at_ m hm _ hz']
        exact hno m _ hmj hz'
      · exact ⟨.int (j : Nat), H, I.tok _, ⟨_, rfl⟩, q⟩
/-! ### the least, the greatest of data; data sorted -/
section
variable {X : Cx}
theorem DpAll.at_ {K : PySem.W.Frag} {H : Hp} : ∀ {ds : List PyData} {xs : List V} {i : Nat} {x : V}, DpAll K H xs ds → xs[i]? = some x → ∃ d, ds[i]? = some d ∧ Dp K H x d
  | [], _, _, _, h, e => by cases h; simp at e
  | _ :: _, _, 0, _, h, e => by
    cases h with
    | cons r rs => simp at e; subst e; exact ⟨_, by simp, r⟩
  | _ :: _, _, i + 1, _, h, e => by
    cases h with
    | cons r rs =>
      obtain ⟨d, e', q⟩ := DpAll.at_ rs (i := i) (by simpa using e)
      exact ⟨d, by simpa using e', q⟩
def mmD (big : Bool) (d : PyData) (r : List PyData) : PyData := if big then PySem.W.maxD d r else PySem.W.minD d r
def rMmD (K : PySem.W.Frag) (big : Bool) : List V → Hp → VK → Prop := fun vs H Q => ∃ (a : Addr) (xs : List V) (d : PyData) (r : List PyData), vs = [V.ref a] ∧ SqL K H a xs ∧ DpAll K H xs (d :: r) ∧ PySem.W.AlikeAll (d :: r) ∧
  PyData.canLayAll0 (d :: r) = true ∧ PyData.depthAll (d :: r) ≤ 60 ∧ ∀ (i : Nat) (x : V), xs[i]? = some x → (d :: r)[i]? = some (mmD big d r) → Q x H
theorem mm_in {pins : List (Addr × Obj)} {σ : L2.St} {H : Hp} {s : Shared} {xs : List V} {its : List Value} {ds : List PyData} {bs : List Addr} {m : PyData} {v : Value} {h' : Heap} {i : Nat} (I : Inv X pins σ H s) (rv : Vals xs its) (hd : DpAll X.K H xs ds) (hl : PyData.canLayAll0 ds = true)
    (hv : its.toArray[i]? = some v) (r : Reads h' v m bs) (hk : ∀ b o, s.heap.get? b = some o → h'.get? b = some o) : ∃ x, xs[i]? = some x ∧ RelV x v ∧ ds[i]? = some m := by
  have hv' : its[i]? = some v := by simpa using hv
  have hi : i < its.length := (List.getElem?_eq_some_iff.mp hv').1
  have hx : xs[i]? = some (xs[i]'(by rw [rv.length]; exact hi)) := List.getElem?_eq_getElem (by rw [rv.length]; exact hi)
  obtain ⟨u, hu, ru⟩ := rv.get hx
  rw [hv'] at hu
  cases hu
  obtain ⟨d, e, q⟩ := DpAll.at_ hd hx
  refine ⟨_, hx, ru, ?_⟩
  obtain ⟨as', rd⟩ := Dp.reads I d _ v q ru
  have hc : d.canLay0 = true := by
    have : ∀ (ds : List PyData) (i : Nat), PyData.canLayAll0 ds = true → ds[i]? = some d → d.canLay0 = true := by
      intro ds
      induction ds with
      | nil => intro i _ e; simp at e
      | cons y ys ih =>
        intro i h e
        simp only [PyData.canLayAll0, Bool.and_eq_true] at h
        cases i with
        | zero => simp at e; subst e; exact h.1
        | succ i => exact ih i h.2 (by simpa using e)
    exact this _ _ hl e
  rw [e, SeqAt.Reads.unique d m v as' bs hc (PyProof.Rows.Reads.keeps hk rd) r]
theorem cr_mmD (hc : X.calm = true) (hu : X.A.units + 65 < cLine) (big : Bool) : CallR X (.builtin (if big then "max" else "min")) (rMmD X.K big) := by
  intro pins s σ H vs us Q I r h
  obtain ⟨a, xs, d, ds, rfl, hs, hd, ha, hl, hz, q⟩ := h
  obtain ⟨its, rv, pl, _⟩ := I.list hs
  rw [Vals.ref1 r]
  obtain ⟨as, rr⟩ := Dp.readsAll I _ _ its hd rv
  have rr : ReadsAll s.heap its.toArray.toList (d :: ds) as := rr
  cases big with
  | false =>
    refine PySem.W.min_list_data (I.ok.hd hc) pl.isList rr ha (by omega) fun i v h' tk bs hv rd hk => ?_
    obtain ⟨x, e1, e2, e3⟩ := mm_in I rv hd hl hv rd hk
    exact ⟨x, H, I.kept (t' := tk) hk, e2, q i x e1 e3⟩
  | true =>
    refine PySem.W.max_list_data (I.ok.hd hc) pl.isList rr ha (by omega) fun i v h' tk bs hv rd hk => ?_
    obtain ⟨x, e1, e2, e3⟩ := mm_in I rv hd hl hv rd hk
    exact ⟨x, H, I.kept (t' := tk) hk, e2, q i x e1 e3⟩

def rMmT (K : PySem.W.Frag) (big : Bool) : List V → Hp → VK → Prop := fun vs H Q => ∃ (a : Addr) (xs : List V) (d : PyData) (r : List PyData), vs = [V.ref a] ∧ SqT K H a xs ∧ DpAll K H xs (d :: r) ∧ PySem.W.AlikeAll (d :: r) ∧
  PyData.canLayAll0 (d :: r) = true ∧ PyData.depthAll (d :: r) ≤ 60 ∧ ∀ (i : Nat) (x : V), xs[i]? = some x → (d :: r)[i]? = some (mmD big d r) → Q x H
theorem cr_mmT (hc : X.calm = true) (hu : X.A.units + 65 < cLine) (big : Bool) : CallR X (.builtin (if big then "max" else "min")) (rMmT X.K big) := by
  intro pins s σ H vs us Q I r h
  obtain ⟨a, xs, d, ds, rfl, hs, hd, ha, hl, hz, q⟩ := h
  obtain ⟨its, rv, pl, _⟩ := I.tuple hs
  rw [Vals.ref1 r]
  obtain ⟨as, rr⟩ := Dp.readsAll I _ _ its hd rv
  have rr : ReadsAll s.heap its.toArray.toList (d :: ds) as := rr
  cases big with
  | false =>
    refine PySem.W.min_tuple_data (I.ok.hd hc) pl rr ha (by omega) fun i v h' tk bs hv rd hk => ?_
    obtain ⟨x, e1, e2, e3⟩ := mm_in I rv hd hl hv rd hk
    exact ⟨x, H, I.kept (t' := tk) hk, e2, q i x e1 e3⟩
  | true =>
    refine PySem.W.max_tuple_data (I.ok.hd hc) pl rr ha (by omega) fun i v h' tk bs hv rd hk => ?_
    obtain ⟨x, e1, e2, e3⟩ := mm_in I rv hd hl hv rd hk
    exact ⟨x, H, I.kept (t' := tk) hk, e2, q i x e1 e3⟩

theorem vals_of_each : ∀ {out : List Value} {ps : List (V × PyData)}, PySem.W.EachIs (fun (v : Value) (p : V × PyData) => RelV p.1 v) out ps → Vals (ps.map (·.1)) out
  | _, _, .nil => .nil
  | _, _, .cons r t => .cons r (vals_of_each t)
theorem each_of_vals : ∀ {out : List Value} {ps : List (V × PyData)}, Vals (ps.map (·.1)) out → PySem.W.EachIs (fun (v : Value) (p : V × PyData) => RelV p.1 v) out ps
  | _, [], .nil => .nil
  | _, _ :: _, .cons r t => .cons r (each_of_vals t)
theorem each_reads {pins : List (Addr × Obj)} {σ : L2.St} {H : Hp} {s : Shared} (I : Inv X pins σ H s) : ∀ {out : List Value} {ps : List (V × PyData)}, Vals (ps.map (·.1)) out → DpAll X.K H (ps.map (·.1)) (ps.map (·.2)) → PySem.W.EachIs (fun (v : Value) (p : V × PyData) => ∃ as, Reads s.heap v p.2 as) out ps
  | _, [], .nil, _ => .nil
  | _, _ :: _, .cons r t, .cons q qs => .cons (Dp.reads I _ _ _ q r) (each_reads I t qs)
theorem depth_mem : ∀ {ds : List PyData} {d : PyData}, d ∈ ds → d.depth ≤ PyData.depthAll ds
  | y :: ys, d, h => by
    rcases List.mem_cons.mp h with rfl | h
    · exact Nat.le_max_left _ _
    · exact Nat.le_trans (depth_mem h) (Nat.le_max_right _ _)
def rSortD (K : PySem.W.Frag) : List V → Hp → VK → Prop := fun vs H Q => ∃ (a : Addr) (ps : List (V × PyData)), vs = [V.ref a] ∧ SqL K H a (ps.map (·.1)) ∧ DpAll K H (ps.map (·.1)) (ps.map (·.2)) ∧ PySem.W.AllAlike (ps.map (·.2)) ∧ PySem.W.Sortable (ps.map (·.2)) ∧
  PyData.depthAll (ps.map (·.2)) ≤ 60 ∧ ∀ p, H p = none → Q (.ref p) (upd H p (.lst ((ps.mergeSort (PySem.W.dataLe false (·.2))).map (·.1))))
theorem cr_sortedD (hu : X.A.units + 65 < cLine) : CallR X (.builtin "sorted") (rSortD X.K) := by
  intro pins s σ H vs us Q I r h
  obtain ⟨a, ps, rfl, hs, hd, ha, hk, hz, q⟩ := h
  obtain ⟨its, rv, pl, hl⟩ := I.list hs
  rw [Vals.ref1 r]
  rw [List.length_map] at hl
  refine PySem.W.sorted_data (bs := ps) (enc := (·.2)) pl.isList (each_of_vals rv) (each_reads I rv hd) ha hk hl (fun b hb => ?_) fun out h1 h2 => ?_
  · have := depth_mem (List.mem_map.mpr ⟨b, hb, rfl⟩ : b.2 ∈ ps.map (·.2))
    omega
  · obtain ⟨ep, he'⟩ := PyProof.Rows.sortedAll_at s.heap its out.toArray
    have hlen : ((ps.mergeSort (PySem.W.dataLe false (·.2))).map (·.1)).length ≤ sizeLine := by rw [List.length_map, List.length_mergeSort]; exact hl
    exact ⟨.ref _, upd H (s.heap.objs.size + 1) (.lst ((ps.mergeSort (PySem.W.dataLe false (·.2))).map (·.1))), I.laid (t' := s.toks) (fun _ _ => PyProof.Rows.sortedAll_old) (Nat.le_succ _) ⟨hlen, out, ep, vals_of_each h2, by simpa using he'⟩, rfl, q _ (I.hok.fresh (Nat.le_succ _))⟩

/-! ### x[::-1] -/
theorem pick_rev (xs : Array Value) : ((List.range xs.size).filterMap fun (m : Nat) => xs[((((xs.size : Nat) : Int) - 1) + (m : Int) * (-1)).toNat]?) = xs.toList.reverse := by
  have e : ∀ m, m ∈ List.range xs.size → xs[((((xs.size : Nat) : Int) - 1) + (m : Int) * (-1)).toNat]? = xs.toList.reverse[m]? := by
    intro m hm
    have hm := List.mem_range.mp hm
    rw [show ((((xs.size : Nat) : Int) - 1) + (m : Int) * (-1)).toNat = xs.size - 1 - m by omega, List.getElem?_reverse (by simpa using hm)]
    simp
  have go : ∀ (l : List Nat), (∀ m ∈ l, m ∈ List.range xs.size) → (l.filterMap fun (m : Nat) => xs[((((xs.size : Nat) : Int) - 1) + (m : Int) * (-1)).toNat]?) = l.filterMap fun m => xs.toList.reverse[m]? := by
    intro l
    induction l with
    | nil => intro _; rfl
    | cons a l ih =>
      intro h
      rw [List.filterMap_cons, List.filterMap_cons, e a (h a List.mem_cons_self), ih fun m hm => h m (List.mem_cons_of_mem _ hm)]
  rw [go _ fun _ h => h]
  have k := PySem.W.krv_all xs.toList.reverse.toArray
  simpa using k
theorem sliceApplied_rev {prog : Program} {w : World} {A : Around} {E : Value → Shared → Prop} {s : Shared} {sl : Addr} {vl vu vs : Value} {n : Nat} {Q : Int × Int × Nat → Shared → Prop} (hs : s.heap.IsSliceOf sl vl vu vs) (pl : IsPart vl none) (pu : IsPart vu none) (ps : IsPart vs (some (-1)))
    (h : Q (((n : Int) - 1), -1, n) s) : wpAny (model prog w) A (Builtin.Slice.sliceApplied (.ref sl) (pure (n : Int))) Q E s := by
  obtain ⟨os, hos, hcs, hds⟩ := id hs
  unfold Builtin.Slice.sliceApplied Builtin.Slice.sliceFields
  refine wpAny_bind (wpAny_bind (wpAny_field hos hds (x := vl) rfl (wpAny_bind (wpAny_field hos hds (x := vu) rfl (wpAny_bind (wpAny_field hos hds (x := vs) rfl (wpAny_pure ?_)))))))
  refine wpAny_bind (HT.slicePart_ ps ?_)
  show wpAny _ _ (if ((-1 : Int) == 0) = true then _ else _) _ _ s
  rw [if_neg (by decide)]
  refine wpAny_bind (HT.slicePart_ pl (wpAny_bind (HT.slicePart_ pu (wpAny_bind (wpAny_pure ?_)))))
  have e1 : Builtin.Slice.sliceAdjust none none (-1) (n : Int) = (((n : Int) - 1), -1) := rfl
  have e2 : Builtin.Slice.slicePlaces ((n : Int) - 1) (-1) (-1) = n := by
    unfold Builtin.Slice.slicePlaces
    rw [if_neg (by decide)]
    by_cases hn : n = 0
    · subst hn; rfl
    · rw [if_pos (by omega)]
      have : ((n : Int) - 1 - -1 - 1) / (- -1) + 1 = n := by rw [show (- -1 : Int) = 1 from rfl, Int.ediv_one]; omega
      rw [this]
      rfl
  show wpAny _ _ (match Builtin.Slice.sliceAdjust none none (-1) (n : Int) with | (lo, hi) => pure (lo, (-1 : Int), Builtin.Slice.slicePlaces lo hi (-1))) _ _ s
  rw [e1]
  show wpAny _ _ (pure (((n : Int) - 1), (-1 : Int), Builtin.Slice.slicePlaces ((n : Int) - 1) (-1) (-1))) _ _ s
  rw [e2]
  exact wpAny_pure h
theorem getItem_tuple_rev {prog : Program} {w : World} {A : Around} {E : Value → Shared → Prop} {s : Shared} {t sl : Addr} {items : Array Value} {vl vu vs : Value} {Q : Value → Shared → Prop} (ht : IsTup s.heap t items) (hs : s.heap.IsSliceOf sl vl vu vs) (pl : IsPart vl none) (pu : IsPart vu none) (ps : IsPart vs (some (-1)))
    (h : Q (.ref s.heap.objs.size) { s with heap := s.heap.push { cls := .type "tuple", data := .seq items.toList.reverse.toArray } })
    (hsz : items.size ≤ sizeLine) : wpAny (model prog w) A (getItem (.ref t) (.ref sl)) Q E s := by
  have htake : sizeOk (.seq items.toList.reverse.toArray) := by
    show items.toList.reverse.toArray.size ≤ sizeLine
    rw [List.size_toArray, List.length_reverse, Array.length_toList]
    omega
  obtain ⟨os, hos, hcs, hds⟩ := id hs
  have hTs : s.TypeIs (.ref sl) "slice" := ⟨os, hos, hcs⟩
  unfold getItem
  try with_reducible refine wpAny_holding ?_
  first | refine wpAny_bind (wpAny_pure ?_) | skip
  refine wpAny_bind (wpAny_sequenceKey ht.typeIs (by decide) ?_)
  refine wpAny_bind (wpAny_callSpecial?_slot (name := Str.ofString "__getitem__") ht.typeIs PyProof.Rows.slot_tuple_getitem
    (wpAny_call_entry PyProof.Rows.slot_tuple_getitem ht.typeIs entry_tuple_getitem ?_ (args_tuple_getitem _ _)))
  show wpAny _ _ (Builtin.Tuple.tupleItemsOf (.ref t) >>= _) _ _ s
  refine wpAny_bind (tupleItemsOf_ ht ?_)
  refine wpAny_bind (wpAny_typeOf hTs ?_)
  rw [if_pos (by decide)]
  refine wpAny_bind (sliceApplied_rev hs pl pu ps ?_)
  have hno : ¬ ((((items.size : Nat) : Int) - 1 == 0 && (-1 : Int) == 1 && items.size == items.size) = true) := by
    intro q
    rw [Bool.and_eq_true, Bool.and_eq_true] at q
    exact absurd q.1.2 (by decide)
  show wpAny _ _ (if ((((items.size : Nat) : Int) - 1 == 0 && (-1 : Int) == 1 && items.size == items.size) = true) then _ else _) _ _ s
  rw [if_neg hno, pick_rev]
  first
    | exact wpAny_bind (m := Builtin.Tuple.tupleExact _) (wpAny_newObj_type (wpAny_pure ⟨_, rfl, wpAny_pure h⟩) htake)
    | exact wpAny_bind (m := Builtin.Tuple.tupleExact _) (wpAny_newObj_type (wpAny_bind (wpAny_pure (wpAny_pure ⟨_, rfl, wpAny_pure h⟩))) htake)
    | exact wpAny_bind (wpAny_bind (m := Builtin.Tuple.tupleExact _) (wpAny_newObj_type (wpAny_pure (wpAny_pure ⟨_, rfl, wpAny_pure h⟩)) htake))
    | exact wpAny_bind (wpAny_bind (m := Builtin.Tuple.tupleExact _) (wpAny_newObj_type (wpAny_pure ⟨_, rfl, wpAny_pure h⟩) htake))
def tRevA (K : PySem.W.Frag) (te : TE) : TE := fun σ H Q => te σ H fun x H1 => (∃ a xs, x = .ref a ∧ SqL K H1 a xs ∧ ∀ p, H1 p = none → Q (.ref p) (upd H1 p (.lst xs.reverse))) ∨ (∃ a xs, x = .ref a ∧ SqT K H1 a xs ∧ ∀ p o, KTup o → H1 p = none → Q (.ref p) (upd H1 p (.frz o (.tup xs.reverse))))
theorem pe_revA {e : Expr} {te : TE} {k : Nat} {p1 p2 p3 pos : Pos} (he : PE X e te) : PE X (.Subscript e (.Slice none none (some (.UnaryOp .USub (.Constant (.int 1) k p1) p2)) p3) pos) (tRevA X.K te) := by
  refine ⟨fun pins s σ H Q I h => ?_⟩
  refine Subscript_ (thn (he.run pins s σ H _ I h) fun v s1 ⟨x, H1, I1, r1, q1⟩ => ?_)
  have hst : PO X (some (.UnaryOp .USub (.Constant (.int 1) k p1) p2)) (tPart (tUn (rU fun i => .int (-i)) (tC (.int 1)))) := po_some (pe_un un_neg pe_int)
  have go : ∀ (a : Addr) (vl vu vs : Value) (s4 : Shared) (H4 : Hp) (I4 : Inv X pins σ H4 s4) (pl : IsPart vl none) (pu : IsPart vu none) (ps : IsPart vs (some (-1))) (q1 : (∃ b xs, V.ref a = .ref b ∧ SqL X.K H4 b xs ∧ ∀ p, H4 p = none → Q (.ref p) (upd H4 p (.lst xs.reverse))) ∨ (∃ b xs, V.ref a = .ref b ∧ SqT X.K H4 b xs ∧ ∀ p o, KTup o → H4 p = none → Q (.ref p) (upd H4 p (.frz o (.tup xs.reverse))))),
      wpAny (model X.prog X.w) X.A (subscriptTail e (.Slice none none (some (.UnaryOp .USub (.Constant (.int 1) k p1) p2)) p3) (.ref a) (.ref s4.heap.objs.size)) (EP X pins σ Q) X.xe { s4 with heap := s4.heap.push { cls := .type "slice", data := .fields #[vl, vu, vs] } } := by
    intro a vl vu vs s4 H4 I4 pl pu ps q1
    have I5 : Inv X pins σ H4 { s4 with heap := s4.heap.push { cls := .type "slice", data := .fields #[vl, vu, vs] } } := I4.kept (t' := s4.toks) fun b ob q => Heap.get?_push_of_some _ q
    rcases q1 with ⟨b, xs, eb, hx, q⟩ | ⟨b, xs, eb, hx, q⟩
    · cases eb
      obtain ⟨its, r, ht, hz⟩ := I5.list hx
      have hlen := r.length
      refine tail_any (ops := [.ref a, .ref s4.heap.objs.size]) ht.isList.typeIs (PySem.slot_list_getitem.lookup) ?_ (by with_unfolding_all rfl)
      refine wpAny_getItem_list_slice ht.isList (Heap.IsSliceOf.new _ vl vu vs) pl pu ps (by decide) ?_ (by rw [List.size_toArray]; omega)
      rw [PySem.W.krv_pick]
      refine ⟨.ref _, _, I5.laid (t' := s4.toks) (o := .lst xs.reverse) (fun b ob q => Heap.get?_push_of_some _ q) (Nat.le_refl _) ?_, rfl, q _ (I5.hok.fresh (Nat.le_refl _))⟩
      exact ⟨by rw [List.length_reverse]; exact hz, _, 0, r.reverse, Heap.get?_push_size _ rfl⟩
    · cases eb
      obtain ⟨its, r, ht, hz⟩ := I5.tuple hx
      have hlen := r.length
      refine tail_any (ops := [.ref a, .ref s4.heap.objs.size]) ht.typeIs (PyProof.Rows.slot_tuple_getitem.lookup) ?_ (by with_unfolding_all rfl)
      refine getItem_tuple_rev ht (Heap.IsSliceOf.new _ vl vu vs) pl pu ps ?_ (by rw [List.size_toArray]; omega)
      exact ⟨.ref _, _, Inv.newT I5 (us := its.reverse) (xs := xs.reverse) r.reverse (by rw [List.length_reverse]; exact hz), rfl, q _ _ ⟨rfl, rfl⟩ (I5.hok.fresh (Nat.le_refl _))⟩
  have ha : ∃ a, x = .ref a := by
    rcases q1 with ⟨a, _, e, _⟩ | ⟨a, _, e, _⟩
    · exact ⟨a, e⟩
    · exact ⟨a, e⟩
  obtain ⟨a, rfl⟩ := ha
  cases r1
  refine wpAny_Slice (thn (po_none.run pins s1 σ H1 (fun o H2 => o = none ∧ H2 = H1) I1 ⟨rfl, rfl⟩) fun vl s2 ⟨l, H2, I2, pl, el, e2⟩ => ?_)
  subst el e2
  refine thn (po_none.run pins s2 σ H2 (fun o H3 => o = none ∧ H3 = H2) I2 ⟨rfl, rfl⟩) fun vu s3 ⟨u, H3, I3, pu, eu, e3⟩ => ?_
  subst eu e3
  refine thn (hst.run pins s3 σ H3 (fun o H4 => o = some (-1) ∧ H4 = H3) I3 ⟨1, rfl, -1, rfl, rfl, rfl⟩) fun vs s4 ⟨o, H4, I4, ps, eo, e4⟩ => ?_
  subst eo e4
  exact go a vl vu vs s4 H4 I4 pl pu ps q1
end
end Eg

/-! Engine, part Tv: sorted(t) of a tuple. By an AI agent. -/
namespace PySem
open Sem (wp)
section
variable {prog : Program} {w : World} {A : Around} {E : Value → Shared → Prop} {s : Shared}
/-- collect, its heap told -/
theorem collect_exact {Q : List Value → Shared → Prop} (q : Addr) {T : String} {o : Obj} {its : Array Value} {n : Nat} (hT : T = "list" ∨ T = "tuple") (ho : s.heap.get? q = some o) (hc : o.cls = .type T) (hd : o.data = .seq its n) (hz : its.size ≤ sizeLine)
    (hQ : ∀ h1 : Heap, (∀ b u, s.heap.get? b = some u → h1.get? b = some u) → s.heap.objs.size ≤ h1.objs.size → Q its.toList { s with heap := h1 }) : wpAny (model prog w) A (collect (.ref q)) Q E s := by
  unfold collect
  refine wpAny_bind (wpAny_runValue (codeAny_builtin F.entry_proto_collect ?_))
  rw [Around.under_plainId F.plain_proto_collect _]
  show wpAny _ A.in1 (newList [] >>= fun l => again (.builtin "list.__iadd__" ⟨[l, .ref q], []⟩)) _ _ s
  refine wpAny_bind (wpAny_newObj_type (wpAny_pure ⟨plainId_quiet F.plain_list_iadd _, codeAny_builtin F.entry_list_iadd ?_⟩))
  rw [Around.under_plainId F.plain_list_iadd _]
  show wpAny _ A.in1 (Builtin.List.listExtendWith (.ref s.heap.objs.size) (.ref q) (.ref s.heap.objs.size)) _ _ _
  have g0 : (s.heap.push { cls := .type "list", data := .seq ([] : List Value).toArray }).get? s.heap.objs.size = some { cls := .type "list", data := .seq #[] 0 } := Heap.get?_push_size _ rfl
  have g1 := Heap.get?_update_self (Obj.mapSeq (· ++ its)) g0 rfl
  have last : wpAny (model prog w) A (match Value.ref s.heap.objs.size with
      | Value.ref a => do
        match (← load a).data with
          | Data.seq xs _ => pure xs.toList
          | _ => unsupported "internal:collect"
      | _ => unsupported "internal:collect") Q E { s with heap := (s.heap.push { cls := .type "list", data := .seq ([] : List Value).toArray }).update s.heap.objs.size (Obj.mapSeq (· ++ its)) } := by
    show wpAny _ A (load s.heap.objs.size >>= _) _ _ _
    refine wpAny_bind (wpAny_load g1 (wpAny_pure ?_))
    have e : ((#[] : Array Value) ++ its).toList = its.toList := by simp
    show Q ((#[] : Array Value) ++ its).toList _
    rw [e]
    refine hQ _ (fun b u hb => (Heap.get?_update_other _ _ (Nat.ne_of_gt (Heap.lt_size hb))).trans (Heap.get?_push_of_some _ hb)) ?_
    rw [Heap.size_update, Heap.size_push]
    omega
  refine wpAny_mono (wpAny_extend_seq (hsz := hz) (A := A) (R := fun r s' => r = .ok (.ret (.ref s.heap.objs.size)) ∧ s' = { s with heap := (s.heap.push { cls := .type "list", data := .seq ([] : List Value).toArray }).update s.heap.objs.size (Obj.mapSeq (· ++ its)) })
    (s := { s with heap := s.heap.push { cls := .type "list", data := .seq ([] : List Value).toArray } }) _ q _ 0 hT g0 (Heap.get?_push_of_some _ ho) hc hd ⟨rfl, rfl⟩) (fun fl s' h => ?_) fun e s' h => absurd h.1 (by simp)
  cases fl with
  | again c' => exact ⟨h.1, codeAny_mono h.2 fun r s'' hr => by obtain ⟨rfl, rfl⟩ := hr; exact last⟩
  | done f =>
    obtain ⟨e, rfl⟩ := h
    cases e
    exact last
end
end PySem
namespace PySem.W
open PySem PySem.Spec PySem.Calls PyProof.Rows
section
variable {prog : Program} {w : World} {A : Around} {E : Value → Shared → Prop} {s : Shared} {B : Type} {R : Value → B → Prop} {vs : List Value} {bs : List B} {enc : B → PyData}
theorem sorted_dataT {a : Addr} {o : Obj} {n : Nat} {Q : Value → Shared → Prop} (ho : s.heap.get? a = some o) (hc : o.cls = .type "tuple") (hd : o.data = .seq vs.toArray n) (e : EachIs R vs bs) (er : EachIs (fun v b => ∃ as, Reads s.heap v (enc b) as) vs bs)
    (hal : AllAlike (bs.map enc)) (hk : Sortable (bs.map enc)) (hL : bs.length ≤ sizeLine) (hu : ∀ b, b ∈ bs → A.units + 2 + (enc b).depth < cLine)
    (h : ∀ (h1 : Heap) (out : List Value), (∀ b u, s.heap.get? b = some u → h1.get? b = some u) → s.heap.objs.size ≤ h1.objs.size → out.length = bs.length → EachIs R out (bs.mergeSort (dataLe false enc)) → Q (.ref h1.objs.size) { s with heap := sortedHeap (h1.push (seqObj "list" vs.toArray 0)) h1.objs.size vs (List.toArray out) }) :
    wpAny (model prog w) A (call (.builtin "sorted") [.ref a]) Q E s := by
  have hZ : vs.length ≤ sizeLine := by rw [e.length]; exact hL
  refine call_function_entry_kw kind_sorted plain_sorted entry_sorted (args_sorted1 _) ?_
  unfold Builtin.«sorted»
  refine wpAny_bind (m := checkCount "sorted" 1 1 _) (wpAny_pure ?_)
  refine wpAny_bind (collect_exact a (.inr rfl) ho hc hd (by rw [List.size_toArray]; exact hZ) (fun h1 k hsz => ?_))
  have et : vs.toArray.toList = vs := by simp
  rw [et]
  refine wpAny_bind (wpAny_newList ?_ hZ)
  have hat : (h1.push (seqObj "list" vs.toArray 0)).get? h1.objs.size = some (seqObj "list" vs.toArray 0) := Heap.get?_push_size _ rfl
  have er' : EachIs (fun v b => ∃ as, Reads (sortingHeap (h1.push (seqObj "list" vs.toArray 0)) h1.objs.size vs) v (enc b) as) vs bs := er.mono fun _ _ ⟨as, r⟩ => ⟨as, PyProof.Rows.Reads.keeps (fun b u q => sortingHeap_old (Nat.ne_of_lt (Heap.lt_size (k b u q))) (Heap.get?_push_of_some _ (k b u q))) r⟩
  have S := SortsAt.data (prog := prog) (w := w) (A := A.in1.in1) (s := { s with heap := sortingHeap (h1.push (seqObj "list" vs.toArray 0)) h1.objs.size vs }) (each_map (R := fun v d => ∃ as, Reads (sortingHeap (h1.push (seqObj "list" vs.toArray 0)) h1.objs.size vs) v d as) enc er') hal hk (bound_map hu)
  show wpAny _ _ _ _ _ { s with heap := h1.push (seqObj "list" vs.toArray 0) }
  refine wpAny_bind (wpAny_holding (wpAny_call_entry_kw slot_list_sort ⟨_, hat, rfl⟩ entry_list_sort ?body (args_list_sort _)))
  case body =>
    show wpAny (model prog w) A.in1.in1 (Builtin.«list.sort» ⟨[.ref h1.objs.size], []⟩) _ _ _
    exact list_sort_vals (s := { s with heap := h1.push (seqObj "list" vs.toArray 0) }) hat S hZ ⟨_, rfl, wpAny_pure ⟨_, rfl, h h1 _ k hsz (by rw [sortVals_length false rfl]; exact e.length) (sortVals_data false e er' hal)⟩⟩
end
end PySem.W
namespace Eg
open PySem PySem.Spec PyProof.Rows L2
section
variable {X : Cx}
def rSortT (K : PySem.W.Frag) : List V → Hp → VK → Prop := fun vs H Q => ∃ (a : Addr) (ps : List (V × PyData)), vs = [V.ref a] ∧ SqT K H a (ps.map (·.1)) ∧ DpAll K H (ps.map (·.1)) (ps.map (·.2)) ∧ PySem.W.AllAlike (ps.map (·.2)) ∧ PySem.W.Sortable (ps.map (·.2)) ∧
  PyData.depthAll (ps.map (·.2)) ≤ 60 ∧ ∀ p, H p = none → Q (.ref p) (upd H p (.lst ((ps.mergeSort (PySem.W.dataLe false (·.2))).map (·.1))))
theorem cr_sortedTu (hu : X.A.units + 65 < cLine) : CallR X (.builtin "sorted") (rSortT X.K) := by
  intro pins s σ H vs us Q I r h
  obtain ⟨a, ps, rfl, hs, hd, ha, hk, hz, q⟩ := h
  obtain ⟨its, rv, ⟨o, ho, hc, n, hdt⟩, hl⟩ := I.tuple hs
  have hl : ps.length ≤ sizeLine := by first | (rw [List.length_map] at hl; exact hl) | (have := rv.length; rw [List.length_map] at this; omega)
  rw [Vals.ref1 r]
  refine PySem.W.sorted_dataT (bs := ps) (enc := (·.2)) ho hc hdt (each_of_vals rv) (each_reads I rv hd) ha hk hl (fun b hb => ?_) fun h1 out k hsz h2 h3 => ?_
  · have := depth_mem (List.mem_map.mpr ⟨b, hb, rfl⟩ : b.2 ∈ ps.map (·.2))
    omega
  · have hat : (h1.push (seqObj "list" its.toArray 0)).get? h1.objs.size = some (seqObj "list" its.toArray 0) := Heap.get?_push_size _ rfl
    obtain ⟨ep, he'⟩ := PyProof.Rows.sortedHeap_at (vs := its) (out := out.toArray) hat
    have hlen : ((ps.mergeSort (PySem.W.dataLe false (·.2))).map (·.1)).length ≤ sizeLine := by rw [List.length_map, List.length_mergeSort]; exact hl
    have hnew : H h1.objs.size = none := I.hok.fresh hsz
    exact ⟨.ref _, upd H h1.objs.size (.lst ((ps.mergeSort (PySem.W.dataLe false (·.2))).map (·.1))), I.laid (t' := s.toks) (fun b u e => by
      have hb := k b u e
      have hlt := Heap.lt_size hb
      rw [PyProof.Rows.sortedHeap_old (Nat.ne_of_lt hlt) (by rw [Heap.size_push]; exact Nat.lt_succ_of_lt hlt)]
      exact Heap.get?_push_of_some _ hb) hsz ⟨hlen, out, ep, vals_of_each h3, by simpa using he'⟩, rfl, q _ hnew⟩
/-- sorted(l) of a list of one item at most, whatever it is -/
def rSort1 (K : PySem.W.Frag) : List V → Hp → VK → Prop := fun vs H Q => ∃ (a : Addr) (xs : List V), vs = [V.ref a] ∧ SqL K H a xs ∧ xs.length < 2 ∧ ∀ p, H p = none → Q (.ref p) (upd H p (.lst xs))
theorem cr_sorted1 : CallR X (.builtin "sorted") (rSort1 X.K) := by
  intro pins s σ H vs us Q I r h
  obtain ⟨a, xs, rfl, hs, h1, q⟩ := h
  obtain ⟨its, rv, pl, hl⟩ := I.list hs
  rw [Vals.ref1 r]
  have hlen : its.length < 2 := by have := rv.length; omega
  refine SrtO.sorted_ord (ltv := fun _ _ => false) ⟨fun _ _ _ => rfl, fun _ _ _ _ _ => rfl⟩ pl.isList (by have := rv.length; omega) (fun h2 => absurd h2 (by omega)) fun out _ stb => ?_
  have eo : out = its := by
    match its, hlen, stb.perm with
    | [], _, p => exact List.Perm.eq_nil p
    | [v], _, p => exact List.perm_singleton.mp p
    | _ :: _ :: l, h, _ => exact absurd h (by rw [List.length_cons, List.length_cons]; omega)
  rw [eo]
  obtain ⟨ep, he'⟩ := PyProof.Rows.sortedAll_at s.heap its its.toArray
  exact ⟨.ref _, upd H (s.heap.objs.size + 1) (.lst xs), I.laid (t' := s.toks) (fun _ _ => PyProof.Rows.sortedAll_old) (Nat.le_succ _) ⟨hl, its, ep, rv, by simpa using he'⟩, rfl, q _ (I.hok.fresh (Nat.le_succ _))⟩
end
end Eg

/-! Engine, part D: operations on values. By an AI agent. -/
namespace Eg
open PySem PySem.Spec PyProof.Rows L2
section
variable {X : Cx} {W : WX} {io : Io} {K : PySem.W.Frag} {H : Hp} {M : Mem} {Q : VK} {E : XK}
abbrev RV (K : PySem.W.Frag) : Io → Hp → V → Vl → Prop := fun io H u v => VV io K H u v
theorem res_p {d : D} {u : V} (h : Post K (RV K) io H (.ok (.p d) M) Q E) (rm : RM io K H M) (r : DV io K H u d) : Q u H := h io H u .refl rm r
theorem res_lst {ds : List D} {xs : List V} (h : Post K (RV K) io H (.ok (.p (.list ds)) M) Q E) (rm : RM io K H M) (r : DVs io K H xs ds) {p : Addr} (hp : H p = none) : Q (.ref p) (upd H p (.lst xs)) :=
  h io _ _ (Gr.upd hp) (rm.upd hp) (.lst upd_same (rm.fresh hp) (r.mono (Gr.upd hp)))
theorem res_tup {ds : List D} {xs : List V} (h : Post K (RV K) io H (.ok (.p (.tuple ds)) M) Q E) (rm : RM io K H M) (r : DVs io K H xs ds) {p : Addr} {o : Obj} (ko : KTup o) (hp : H p = none) : Q (.ref p) (upd H p (.frz o (.tup xs))) :=
  h io _ _ (Gr.upd hp) (rm.upd hp) (.tup (.inl ⟨⟨o, upd_same, ko⟩, rm.fresh hp⟩) (r.mono (Gr.upd hp)))
theorem data1 {α ν : Type} {R : Io → Hp → ν → α → Prop} {Q : ν → Hp → Prop} {x : Vl} {f : D → Option α} (h : Post K R io H (Rs.of M ((look M x).bind f)) Q E) :
    ∃ dx r, look M x = some dx ∧ f dx = some r ∧ Post K R io H (.ok r M) Q E := by
  cases e : look M x with
  | none => rw [e] at h; exact h.elim
  | some dx =>
    rw [e] at h
    cases e2 : f dx with
    | none => simp only [Option.bind_some, e2] at h; exact h.elim
    | some r => simp only [Option.bind_some, e2] at h; exact ⟨dx, r, rfl, e2, h⟩
theorem data2 {α ν : Type} {R : Io → Hp → ν → α → Prop} {Q : ν → Hp → Prop} {x y : Vl} {f : D → D → Option α} (h : Post K R io H (Rs.of M ((look M x).bind fun x => (look M y).bind fun y => f x y)) Q E) :
    ∃ dx dy r, look M x = some dx ∧ look M y = some dy ∧ f dx dy = some r ∧ Post K R io H (.ok r M) Q E := by
  obtain ⟨dx, r, e, e2, h⟩ := data1 h
  cases e3 : look M y with
  | none => rw [e3] at e2; cases e2
  | some dy => rw [e3] at e2; exact ⟨dx, dy, r, e, rfl, e2, h⟩

theorem ite_some {α : Type} {c : Prop} [Decidable c] {a b : α} (e : (if c then some a else none) = some b) : c ∧ a = b := by
  by_cases h : c
  · rw [if_pos h] at e; exact ⟨h, Option.some.inj e⟩
  · rw [if_neg h] at e; cases e

/-! ### tuples that are read -/
theorem TQ.cat {a b : Addr} {xs ys : List V} {ds es : List D} (ha : TQ io K H a xs) (hb : TQ io K H b ys) (hx : DVs io K H xs ds) (hy : DVs io K H ys es) (rm : RM io K H M) (hz : ds.length + es.length ≤ line)
    (h : Post K (RV K) io H (.ok (.p (.tuple (ds ++ es))) M) Q E) : rCatK K (.ref a) (.ref b) H Q := by
  refine ⟨a, b, xs, ys, rfl, rfl, ha.sq, hb.sq, ?_, fun e => ?_, fun _ e => ?_, fun _ _ p o ko hp => ?_⟩
  · rw [hx.length, hy.length, sizeLine_eq]; exact hz
  · subst e
    cases hx
    exact res_p h rm (.tup hb hy)
  · subst e
    cases hy
    rw [List.append_nil] at h
    exact res_p h rm (.tup ha hx)
  · exact res_tup h rm (hx.append hy) ko hp

/-! ### texts -/
theorem reps_fold (x : Array Nat) : ∀ (n : Nat) (acc : Array Nat), (List.replicate n x).foldl (· ++ ·) acc = acc ++ (List.replicate n x.toList).flatten.toArray
  | 0, acc => by simp
  | n + 1, acc => by
    rw [List.replicate_succ, List.foldl_cons, reps_fold x n, List.replicate_succ, List.flatten_cons]
    apply Array.toList_inj.mp
    simp
theorem mul_rep (x : Str) (j : Int) (h : 0 ≤ j) : Txt.mul x j = repS x j.toNat := by
  unfold Txt.mul repS
  by_cases h1 : j < 1
  · have : j = 0 := by omega
    subst this
    simp [Str.empty]
  · rw [if_neg h1]
    by_cases h2 : (j == 1 || x.length == 0) = true
    · rw [if_pos h2]
      rcases Bool.or_eq_true_iff.mp h2 with z | z
      · have : j = 1 := by simpa using z
        subst this
        obtain ⟨c⟩ := x
        simp
      · have z : x.cps.size = 0 := by simpa [Str.length] using z
        obtain ⟨c⟩ := x
        have : c = #[] := Array.eq_empty_of_size_eq_zero z
        subst this
        simp
    · rw [if_neg h2, reps_fold]
      simp
def rRepS : R2 := fun x y H Q => ∃ (z : Str) (j : Int), x = .str z ∧ y = .int j ∧ (0 ≤ j ∧ j ≤ 1000 ∧ z.length ≤ 1000) ∧ Q (.str (repS z j.toNat)) H
theorem op_repS : OpR X (binaryOp .Mult) rRepS := by
  intro pins s σ H x y v u Q I rx ry h
  obtain ⟨z, j, rfl, rfl, ⟨h0, h1, h2⟩, q⟩ := h
  obtain ⟨t, rfl⟩ := rx
  obtain ⟨t', rfl⟩ := ry
  have hj : j.toNat ≤ 1000 := by omega
  have hm : z.length * j.toNat ≤ 1000000 := Nat.le_trans (Nat.mul_le_mul h2 hj) (by decide)
  refine SB.mul ⟨?_, fun a b => ?_, fun a b => ?_⟩ fun t' k => ?_
  · rw [decide_eq_false (by omega), decide_eq_false (by omega)]; rfl
  · have h3 : (1 : Int) ≤ j := by omega
    have h4 : (2 ^ 63 - 1 : Int) / 1000 ≤ (2 ^ 63 - 1) / j := by
      refine Int.le_ediv_of_mul_le (by omega) ?_
      have : (2 ^ 63 - 1 : Int) / 1000 * j ≤ (2 ^ 63 - 1 : Int) / 1000 * 1000 := Int.mul_le_mul_of_nonneg_left h1 (by decide)
      omega
    omega
  · have e : (z.length * j.toNat : Nat) ≤ 1000000 := hm
    show decide _ = false
    exact decide_eq_false (by first | omega | (have := sizeLine_eq; omega))
  · rw [mul_rep z j h0]
    exact ⟨.str _, H, I.tok _, ⟨_, rfl⟩, q⟩
/-! ### binary operators -/
def rBin (K : PySem.W.Frag) : BOp → R2
  | .add => fun x y H Q => rI0 (fun i j => .int (i + j)) x y H Q ∨ (∃ i j, x = .str i ∧ y = .str j ∧ i.length + j.length ≤ sizeLine ∧ Q (.str (i ++ j)) H) ∨ rCat x y H Q ∨ rCatK K x y H Q
  | .sub => rI0 fun i j => .int (i - j)
  | .mul => fun x y H Q => rI CMul (fun i j => .int (i * j)) x y H Q ∨ rRep x y H Q ∨ rRepK K x y H Q ∨ rRep1 K x y H Q ∨ rRepS x y H Q
  | .fdiv => rI CDivN fun i j => .int (i.fdiv j)
  | .mod => rI (fun _ j => j ≠ 0) fun i j => .int (i.fmod j)
  | .pow => rI CPow fun i j => .int (i ^ j.toNat)
def bopOf : BOp → Operator
  | .add => .Add | .sub => .Sub | .mul => .Mult | .fdiv => .FloorDiv | .mod => .Mod | .pow => .Pow
theorem opr_bin (o : BOp) : OpR X (binaryOp (bopOf o)) (rBin X.K o) := by
  cases o with
  | add => exact op_add.or (op_add_str.or (op_cat.or op_catK))
  | sub => exact op_sub
  | mul => exact op_mul.or (op_rep.or (op_repK.or (op_rep1.or op_repS)))
  | fdiv => exact op_fdivN
  | mod => exact op_modN
  | pow => exact op_pow
theorem line_eq : line = sizeLine := by rw [sizeLine_eq]; rfl
theorem bin_ok {o : BOp} {u1 u2 : V} {d1 d2 d : D} (r1 : DB io K H u1 d1) (r2 : DB io K H u2 d2) (rm : RM io K H M) (e : binop o d1 d2 = some d) (h : Post K (RV K) io H (.ok (.p d) M) Q E) : rBin K o u1 u2 H Q := by
  cases o with
  | add =>
    cases r1 with
    | int i => cases r2 with
      | int j => cases e; exact .inl ⟨i, j, rfl, rfl, res_p h rm (.int _)⟩
      | _ => cases e
    | str x => cases r2 with
      | str y =>
        obtain ⟨hz, he⟩ := ite_some e
        subst he
        exact .inr (.inl ⟨x, y, rfl, rfl, by rw [← line_eq]; exact hz, res_p h rm (.str _)⟩)
      | _ => cases e
    | lst hx hxs => cases r2 with
      | lst hy hys =>
        obtain ⟨hz, he⟩ := ite_some e
        subst he
        exact .inr (.inr (.inl ⟨_, _, _, _, rfl, rfl, hx, hy, by rw [hxs.length, hys.length, ← line_eq]; exact hz, fun p hp => res_lst h rm (hxs.append hys) hp⟩))
      | _ => cases e
    | tup hx hxs => cases r2 with
      | tup hy hys =>
        obtain ⟨hz, he⟩ := ite_some e
        subst he
        exact .inr (.inr (.inr (TQ.cat hx hy hxs hys rm hz h)))
      | _ => cases e
    | _ => cases r2 <;> cases e
  | sub =>
    cases r1 with
    | int i => cases r2 with
      | int j => cases e; exact ⟨i, j, rfl, rfl, res_p h rm (.int _)⟩
      | _ => cases e
    | _ => cases r2 <;> cases e
  | mul =>
    cases r1 with
    | int i => cases r2 with
      | int j =>
        obtain ⟨hz, he⟩ := ite_some e
        subst he
        refine .inl ⟨i, j, rfl, rfl, ?_, res_p h rm (.int _)⟩
        show (_ ∧ _) ∨ (_ ∧ _)
        rcases Bool.or_eq_true_iff.mp hz with z | z
        · exact .inl (of_decide_eq_true z)
        · exact .inr (of_decide_eq_true z)
      | _ => cases e
    | lst hx hxs => cases r2 with
      | int j =>
        obtain ⟨hz, he⟩ := ite_some e
        subst he
        obtain ⟨h1, h2, h3⟩ := hz
        refine .inr (.inl ⟨_, j, _, rfl, rfl, hx, by omega, by omega, by rw [hxs.length, ← line_eq]; exact h3, fun p hp => res_lst h rm (hxs.rep _) hp⟩)
      | _ => cases e
    | tup hx hxs => cases r2 with
      | int j =>
        have e : (if _ ≠ [] ∧ 2 ≤ j ∧ j ≤ 1000 ∧ _ ≤ 1000 then some (PyData.tuple (List.replicate j.toNat _).flatten) else if j = 1 then some (PyData.tuple _) else none) = some _ := e
        split at e
        · rename_i hz
          cases e
          obtain ⟨h0, h1, h2, h3⟩ := hz
          refine .inr (.inr (.inl ⟨_, j, _, rfl, rfl, hx.sq, ?_, h1, h2, by rw [hxs.length]; exact h3, fun p o ko hp => res_tup h rm (hxs.rep _) ko hp⟩))
          intro z
          subst z
          cases hxs
          exact h0 rfl
        · obtain ⟨hz, he⟩ := ite_some e
          subst he
          subst hz
          exact .inr (.inr (.inr (.inl ⟨_, _, rfl, rfl, hx.sq, res_p h rm (.tup hx hxs)⟩)))
      | _ => cases e
    | str x => cases r2 with
      | int j =>
        obtain ⟨hz, he⟩ := ite_some e
        subst he
        exact .inr (.inr (.inr (.inr ⟨x, j, rfl, rfl, hz, res_p h rm (.str _)⟩)))
      | _ => cases e
    | _ => cases r2 <;> cases e
  | fdiv =>
    cases r1 with
    | int i => cases r2 with
      | int j =>
        obtain ⟨hz, he⟩ := ite_some e
        subst he
        exact ⟨i, j, rfl, rfl, hz, res_p h rm (.int _)⟩
      | _ => cases e
    | _ => cases r2 <;> cases e
  | mod =>
    cases r1 with
    | int i => cases r2 with
      | int j =>
        obtain ⟨hz, he⟩ := ite_some e
        subst he
        exact ⟨i, j, rfl, rfl, hz, res_p h rm (.int _)⟩
      | _ => cases e
    | _ => cases r2 <;> cases e
  | pow =>
    cases r1 with
    | int i => cases r2 with
      | int j =>
        obtain ⟨hz, he⟩ := ite_some e
        subst he
        exact ⟨i, j, rfl, rfl, hz, res_p h rm (.int _)⟩
      | _ => cases e
    | _ => cases r2 <;> cases e

/-! ### comparisons -/
mutual
theorem flat_lay : ∀ (n : Nat) (d : D), flat n d = true → d.canLay0 = true ∧ d.depth ≤ n
  | n, .none, _ => by simp [PyData.canLay0, PyData.depth]
  | n, .bool _, _ => by simp [PyData.canLay0, PyData.depth]
  | n, .int _, _ => by simp [PyData.canLay0, PyData.depth]
  | n, .str x, h => by
    have h' : PyData.strOk x = true := by cases n <;> simpa [flat] using h
    simp [PyData.canLay0, PyData.depth, h']
  | 0, .list ds, h => by simp [flat] at h
  | 0, .tuple ds, h => by simp [flat] at h
  | n + 1, .list ds, h => by
    obtain ⟨h1, h2⟩ := flats_lay n ds (by simpa [flat] using h)
    simp only [PyData.canLay0, PyData.depth]
    exact ⟨h1, by omega⟩
  | n + 1, .tuple ds, h => by
    obtain ⟨h1, h2⟩ := flats_lay n ds (by simpa [flat] using h)
    simp only [PyData.canLay0, PyData.depth]
    exact ⟨h1, by omega⟩
  | 0, .dict _, h => by simp [flat] at h
  | n + 1, .dict _, h => by simp [flat] at h
theorem flats_lay : ∀ (n : Nat) (ds : List D), flats n ds = true → PyData.canLayAll0 ds = true ∧ PyData.depthAll ds ≤ n
  | n, [], _ => by simp [PyData.canLayAll0, PyData.depthAll]
  | n, d :: ds, h => by
    obtain ⟨h1, h2⟩ := Bool.and_eq_true_iff.mp (show (flat n d && flats n ds) = true by simpa [flats] using h)
    obtain ⟨a1, a2⟩ := flat_lay n d h1
    obtain ⟨b1, b2⟩ := flats_lay n ds h2
    simp only [PyData.canLayAll0, PyData.depthAll, a1, b1]
    exact ⟨rfl, by omega⟩
end
theorem shaped_of {d : D} (h : flat 60 d = true) : SeqAt.shaped d = true := by
  obtain ⟨h1, h2⟩ := flat_lay 60 d h
  unfold SeqAt.shaped
  rw [h1, decide_eq_true (by omega)]
  rfl
theorem shapeds_of {ds : List D} (h : flats 60 ds = true) : SeqAt.shaped (.list ds) = true ∧ SeqAt.shaped (.tuple ds) = true := by
  obtain ⟨h1, h2⟩ := flats_lay 60 ds h
  unfold SeqAt.shaped
  have e1 : (PyData.list ds).depth ≤ 64 := by simp only [PyData.depth]; omega
  have e2 : (PyData.tuple ds).depth ≤ 64 := by simp only [PyData.depth]; omega
  rw [decide_eq_true e1, decide_eq_true e2]
  simp only [PyData.canLay0, h1]
  exact ⟨rfl, rfl⟩
/-- x in c, c a list or a tuple -/
def rInT (K : PySem.W.Frag) (neg : Bool) : R2 := fun x y H Q => ∃ d ds, Dp K H x d ∧ Dp K H y (.tuple ds) ∧ SeqAt.shaped d = true ∧ SeqAt.shaped (.tuple ds) = true ∧ Q (.bl (if neg then !ds.any fun z => PyData.eqv z d else ds.any fun z => PyData.eqv z d)) H
theorem op_inT (hu : X.A.units + 65 < cLine) : OpR X (compareOp .In) (rInT X.K false) := by
  intro pins s σ H x y v u Q I rx ry h
  obtain ⟨d, ds, hd, he, sd, se, q⟩ := h
  obtain ⟨as, r1⟩ := Dp.reads I d x v hd rx
  obtain ⟨bs, r2⟩ := Dp.reads I (.tuple ds) y u he ry
  exact SeqAt.in_tuple_reads r2 r1 (SeqAt.canLay_of_shaped se) (SeqAt.canLay_of_shaped sd) (PyProof.Rows.room_in_shaped sd hu) ⟨.bl _, H, I, rfl, q⟩
theorem op_notInT (hu : X.A.units + 65 < cLine) : OpR X (compareOp .NotIn) (rInT X.K true) := by
  intro pins s σ H x y v u Q I rx ry h
  obtain ⟨d, ds, hd, he, sd, se, q⟩ := h
  obtain ⟨as, r1⟩ := Dp.reads I d x v hd rx
  obtain ⟨bs, r2⟩ := Dp.reads I (.tuple ds) y u he ry
  exact SeqAt.notIn_tuple_reads r2 r1 (SeqAt.canLay_of_shaped se) (SeqAt.canLay_of_shaped sd) (PyProof.Rows.room_in_shaped sd hu) ⟨.bl _, H, I, rfl, q⟩
def rCmp (K : PySem.W.Frag) : COp → R2
  | .lt => fun x y H Q => rI0 (fun i j => .bl (decide (i < j))) x y H Q ∨ rLtT K x y H Q
  | .le => fun x y H Q => rI0 (fun i j => .bl (decide (i ≤ j))) x y H Q ∨ rLeT K x y H Q
  | .gt => rI0 fun i j => .bl (decide (j < i))
  | .ge => rI0 fun i j => .bl (decide (j ≤ i))
  | .eq => rEqD K
  | .ne => rNeD K
  | .isin => fun x y H Q => rInD K x y H Q ∨ rInT K false x y H Q ∨ ∃ (c : Nat) (z : Str), x = .str ⟨#[c]⟩ ∧ y = .str z ∧ Q (.bl (decide (c ∈ z.cps.toList))) H
  | .notin => fun x y H Q => rNotInD K x y H Q ∨ rInT K true x y H Q ∨ ∃ (c : Nat) (z : Str), x = .str ⟨#[c]⟩ ∧ y = .str z ∧ Q (.bl (!decide (c ∈ z.cps.toList))) H
  | .is_ => fun x y H Q => (y = .non ∧ Q (.bl (decide (x = .non))) H) ∨ ∃ a b, x = .bl a ∧ y = .bl b ∧ Q (.bl (decide (a = b))) H
  | .isn => fun x y H Q => (y = .non ∧ Q (.bl (!decide (x = .non))) H) ∨ ∃ a b, x = .bl a ∧ y = .bl b ∧ Q (.bl (!decide (a = b))) H
def copOf : COp → CmpOp
  | .lt => .Lt | .le => .LtE | .gt => .Gt | .ge => .GtE | .eq => .Eq | .ne => .NotEq | .isin => .In | .notin => .NotIn | .is_ => .Is | .isn => .IsNot
theorem opr_cmp {k : Nat} (hr : Room k X.A) (o : COp) : OpR X (compareOp (copOf o)) (rCmp X.K o) := by
  have hu : X.A.units + 65 < cLine := by have := hr.un; omega
  cases o with
  | lt => exact op_lt.or (op_ltT hr.units0)
  | le => exact op_le.or (op_leT hr.units0)
  | gt => exact op_gt
  | ge => exact op_ge
  | eq => exact op_eqD hr.units
  | ne => exact op_neD hr.units
  | isin => exact (op_inD hu).or ((op_inT hu).or op_in_sign)
  | notin => exact (op_notInD hu).or ((op_notInT hu).or op_notIn_sign)
  | is_ => exact op_isN.or op_is_bl
  | isn => exact op_notN.or op_isnot_bl
theorem lexLt_eq : ∀ a b : List Int, lexLt a b = HT.lexLt a b
  | [], [] => rfl
  | [], _ :: _ => rfl
  | _ :: _, [] => rfl
  | x :: xs, y :: ys => by
    unfold lexLt
    rw [lexLt_eq xs ys]
    rfl
theorem inS_of {x y : Str} {c : Bool} (e : inS x y = some c) : ∃ k, x = ⟨#[k]⟩ ∧ c = decide (k ∈ y.cps.toList) := by
  unfold inS at e
  split at e
  · rename_i k hk
    cases e
    refine ⟨k, ?_, rfl⟩
    obtain ⟨a⟩ := x
    have : a = #[k] := Array.toList_inj.mp (by simpa using hk)
    rw [this]
  · cases e
theorem DB.non_iff {u : V} {d : D} (r : DB io K H u d) : decide (u = .non) = decide (d = .none) := by
  cases r <;> simp
theorem cmp_ok {o : COp} {u1 u2 : V} {d1 d2 : D} {c : Bool} (r1 : DB io K H u1 d1) (r2 : DB io K H u2 d2) (e : cmpop o d1 d2 = some c) (h : Q (.bl c) H) : rCmp K o u1 u2 H Q := by
  cases o with
  | lt =>
    cases r1 with
    | int i => cases r2 with
      | int j => cases e; exact .inl ⟨i, j, rfl, rfl, h⟩
      | _ => cases e
    | tup hx hxs => cases r2 with
      | tup hy hys =>
        rename_i a1 xs1 ds1 a2 xs2 ds2
        have e' : (match intsOf ds1, intsOf ds2 with
          | some a, some b => some (lexLt a b)
          | _, _ => none) = some c := e
        cases e1 : intsOf ds1 with
        | none => rw [e1] at e'; cases e'
        | some a =>
          rw [e1] at e'
          cases e2 : intsOf ds2 with
          | none => rw [e2] at e'; cases e'
          | some b =>
            rw [e2] at e'
            cases e'
            refine .inr ⟨_, _, a, b, rfl, rfl, ?_, ?_, ?_⟩
            · rw [← hxs.ints e1]; exact hx.sq
            · rw [← hys.ints e2]; exact hy.sq
            · rw [← lexLt_eq]; exact h
      | _ => cases e
    | _ => cases r2 <;> cases e
  | le =>
    cases r1 with
    | int i => cases r2 with
      | int j => cases e; exact .inl ⟨i, j, rfl, rfl, h⟩
      | _ => cases e
    | tup hx hxs => cases r2 with
      | tup hy hys =>
        rename_i a1 xs1 ds1 a2 xs2 ds2
        have e' : (match intsOf ds1, intsOf ds2 with
          | some a, some b => some (leI a b)
          | _, _ => none) = some c := e
        cases e1 : intsOf ds1 with
        | none => rw [e1] at e'; cases e'
        | some a =>
          rw [e1] at e'
          cases e2 : intsOf ds2 with
          | none => rw [e2] at e'; cases e'
          | some b =>
            rw [e2] at e'
            cases e'
            refine .inr ⟨_, _, a, b, rfl, rfl, ?_, ?_, h⟩
            · rw [← hxs.ints e1]; exact hx.sq
            · rw [← hys.ints e2]; exact hy.sq
      | _ => cases e
    | _ => cases r2 <;> cases e
  | gt =>
    cases r1 with
    | int i => cases r2 with
      | int j => cases e; exact ⟨i, j, rfl, rfl, h⟩
      | _ => cases e
    | _ => cases r2 <;> cases e
  | ge =>
    cases r1 with
    | int i => cases r2 with
      | int j => cases e; exact ⟨i, j, rfl, rfl, h⟩
      | _ => cases e
    | _ => cases r2 <;> cases e
  | eq =>
    obtain ⟨hz, he⟩ := ite_some e
    subst he
    obtain ⟨h1, h2⟩ := Bool.and_eq_true_iff.mp hz
    exact ⟨d1, d2, r1.dp, r2.dp, shaped_of h1, shaped_of h2, h⟩
  | ne =>
    obtain ⟨hz, he⟩ := ite_some e
    subst he
    obtain ⟨h1, h2⟩ := Bool.and_eq_true_iff.mp hz
    exact ⟨d1, d2, r1.dp, r2.dp, shaped_of h1, shaped_of h2, h⟩
  | isin =>
    cases d2 with
    | list ds =>
      obtain ⟨hz, he⟩ := ite_some e
      subst he
      obtain ⟨h1, h2⟩ := Bool.and_eq_true_iff.mp hz
      exact .inl ⟨d1, ds, r1.dp, r2.dp, shaped_of h1, (shapeds_of h2).1, h⟩
    | tuple ds =>
      obtain ⟨hz, he⟩ := ite_some e
      subst he
      obtain ⟨h1, h2⟩ := Bool.and_eq_true_iff.mp hz
      exact .inr (.inl ⟨d1, ds, r1.dp, r2.dp, shaped_of h1, (shapeds_of h2).2, h⟩)
    | str z =>
      cases r1 with
      | str w =>
        obtain ⟨k, rfl, rfl⟩ := inS_of (show inS w z = some c from e)
        cases r2
        exact .inr (.inr ⟨k, z, rfl, rfl, h⟩)
      | _ => cases e
    | _ => cases r1 <;> cases e
  | notin =>
    cases d2 with
    | list ds =>
      obtain ⟨hz, he⟩ := ite_some e
      subst he
      obtain ⟨h1, h2⟩ := Bool.and_eq_true_iff.mp hz
      exact .inl ⟨d1, ds, r1.dp, r2.dp, shaped_of h1, (shapeds_of h2).1, h⟩
    | tuple ds =>
      obtain ⟨hz, he⟩ := ite_some e
      subst he
      obtain ⟨h1, h2⟩ := Bool.and_eq_true_iff.mp hz
      exact .inr (.inl ⟨d1, ds, r1.dp, r2.dp, shaped_of h1, (shapeds_of h2).2, h⟩)
    | str z =>
      cases r1 with
      | str w =>
        obtain ⟨b, e1, rfl⟩ := Option.map_eq_some_iff.mp (show (inS w z).map (!·) = some c from e)
        obtain ⟨k, rfl, rfl⟩ := inS_of e1
        cases r2
        exact .inr (.inr ⟨k, z, rfl, rfl, h⟩)
      | _ => cases e
    | _ => cases r1 <;> cases e
  | is_ =>
    cases r2 with
    | non =>
      have e' : some (decide (d1 = .none)) = some c := by cases d1 <;> exact e
      cases e'
      exact .inl ⟨rfl, by rw [r1.non_iff]; exact h⟩
    | bl b => cases r1 with
      | bl a => cases e; exact .inr ⟨a, b, rfl, rfl, h⟩
      | _ => cases e
    | _ => cases r1 <;> cases e
  | isn =>
    cases r2 with
    | non =>
      have e' : some (!decide (d1 = .none)) = some c := by cases d1 <;> exact e
      cases e'
      exact .inl ⟨rfl, by rw [r1.non_iff]; exact h⟩
    | bl b => cases r1 with
      | bl a => cases e; exact .inr ⟨a, b, rfl, rfl, h⟩
      | _ => cases e
    | _ => cases r1 <;> cases e

/-! ### truth, items, slices -/
theorem tru_of {u : V} {d : D} {k : Bool} (r : DB io K H u d) (e : truth d = some k) : TruV K u H k := by
  cases r with
  | non => cases e; exact rfl
  | bl b => cases e; exact rfl
  | int i => cases e; exact rfl
  | str x =>
    obtain ⟨hz, he⟩ := ite_some e
    subst he
    refine ⟨by rw [← line_eq]; exact hz, ?_⟩
    simp only [bne]
    congr 1
    rw [Bool.eq_iff_iff, beq_iff_eq, beq_iff_eq]
    omega
  | lst h hs =>
    cases e
    refine .inl ⟨_, SqL.of h, ?_⟩
    cases hs <;> rfl
  | tup h hs =>
    cases e
    refine .inr (.inl ⟨_, h.sq, ?_⟩)
    cases hs <;> rfl
theorem place_ix {n : Nat} {i : Int} : place n i = ixN n i := by
  unfold place ixN
  by_cases h : 0 ≤ i
  · rw [if_pos h, if_pos h]
  · rw [if_neg h, if_neg h]
    by_cases h2 : 0 ≤ i + (n : Int)
    · rw [if_pos h2, if_pos (by omega)]
    · rw [if_neg h2, if_neg (by omega)]
theorem at_of {xs : List V} {ds : List D} {i : Int} {d : D} (hs : DVs io K H xs ds) (e : ((place ds.length i).bind fun k => ds[k]?) = some d) : ∃ v, atI xs i = some v ∧ DV io K H v d := by
  obtain ⟨k, e1, e2⟩ := Option.bind_eq_some_iff.mp e
  obtain ⟨v, e3, r⟩ := hs.get e2
  refine ⟨v, ?_, r⟩
  unfold atI
  rw [hs.length, ← place_ix, e1]
  exact e3
theorem ix_ok {u1 u2 : V} {d1 d2 d : D} (r1 : DB io K H u1 d1) (r2 : DV io K H u2 d2) (rm : RM io K H M) (e : getIx d1 d2 = some d) (h : Post K (RV K) io H (.ok (.p d) M) Q E) : rIxL K u1 u2 H Q ∨ rIxT K u1 u2 H Q ∨ rIxS u1 u2 H Q := by
  cases r1 with
  | lst hx hxs => cases r2 with
    | int i =>
      obtain ⟨v, e1, r⟩ := at_of hxs e
      exact .inl ⟨_, _, i, v, rfl, rfl, SqL.of hx, e1, res_p h rm r⟩
    | _ => cases e
  | tup hx hxs => cases r2 with
    | int i =>
      obtain ⟨v, e1, r⟩ := at_of hxs e
      exact .inr (.inl ⟨_, _, i, v, rfl, rfl, hx.sq, e1, res_p h rm r⟩)
    | _ => cases e
  | str x => cases r2 with
    | int i =>
      have e : (if x.length ≤ line then (place x.cps.toList.length i).bind fun k => (x.cps.toList[k]?).map fun c => PyData.str (chS c) else none) = some d := e
      split at e
      · rename_i hz
        obtain ⟨k, e1, e2⟩ := Option.bind_eq_some_iff.mp e
        obtain ⟨c, e3, rfl⟩ := Option.map_eq_some_iff.mp e2
        refine .inr (.inr ⟨x, i, c, rfl, rfl, by rw [← line_eq]; exact hz, ?_, res_p h rm (.str _)⟩)
        unfold atI
        rw [← place_ix, e1]
        exact e3
      · cases e
    | _ => cases e
  | _ => cases r2 <;> cases e
theorem clip_eq : clip = HT.sIx := by
  funext n d o
  cases o <;> rfl
theorem cut_ok {xs : List V} {ds : List D} (hs : DVs io K H xs ds) (lo hi : Option Int) : DVs io K H (cutV xs lo hi) (cut ds lo hi) := by
  unfold cutV cut
  rw [clip_eq, hs.length]
  exact (hs.drop _).take _
theorem sl_ok {u : V} {d d' : D} {lo hi : Option Int} (r : DB io K H u d) (rm : RM io K H M) (e : getSl d lo hi = some d') (h : Post K (RV K) io H (.ok (.p d') M) Q E) : rSlL K u lo hi H Q ∨ rSlK K u lo hi H Q ∨ rSlS u lo hi H Q := by
  cases r with
  | lst hx hxs =>
    cases e
    exact .inl ⟨_, _, rfl, SqL.of hx, fun p hp => res_lst h rm (cut_ok hxs lo hi) hp⟩
  | tup hx hxs =>
    cases e
    refine .inr (.inl ⟨_, _, rfl, hx.sq, fun hw => ?_, fun _ p o ko hp => res_tup h rm (cut_ok hxs lo hi) ko hp⟩)
    refine res_p h rm (.tup hx ?_)
    have c := cut_ok hxs lo hi
    have e1 : ∀ {zs : List V}, HT.sIx zs.length 0 lo = 0 → HT.sIx zs.length zs.length hi = zs.length → cutV zs lo hi = zs := by
      intro zs h1 h2
      unfold cutV
      rw [h1, h2, List.drop_zero, Nat.sub_zero, List.take_length]
    rw [e1 hw.1 hw.2] at c
    exact c
  | str x =>
    obtain ⟨hz, he⟩ := ite_some (show (if x.length ≤ line then some (PyData.str (cutT x lo hi)) else none) = some d' from e)
    subst he
    refine .inr (.inr ⟨x, rfl, by rw [← line_eq]; exact hz, ?_⟩)
    have ec : cutT x lo hi = L2.cutS x lo hi := by unfold cutT L2.cutS; rw [clip_eq]
    rw [← ec]
    exact res_p h rm (.str _)
  | _ => cases e
end
end Eg

/-! Engine, part E: expressions keep their meaning. By an AI agent. -/
namespace Eg
open PySem PySem.Spec PyProof.Rows L2
section
variable {X : Cx} {W : WX} {a b c e : Expr} {es : List Expr} {pos : Pos} {fa fb fc : Sg → Mem → Rs Vl} {fs : Sg → Mem → Rs (List Vl)} {ft : Sg → Mem → Rs Bool}
theorem okE_var {i : Nat} {x : Str} (hN : X.N[i]? = some x) (hv : Vis X.env.scope x) (hd : (x == ("__debug__" : Str)) = false) (hcd : (x == ("__classdict__" : Str)) = false) :
    OkE X W (.Name x pos) (fun g M => match g[i]? with
      | some (some v) => .ok v M
      | _ => .bad) := by
  refine ⟨_, pe_var hN hv hd hcd, fun io s H g M Q rs rm h => ?_⟩
  cases e : g[i]? with
  | none => simp only [e] at h; exact h.elim
  | some o =>
    cases o with
    | none => simp only [e] at h; exact h.elim
    | some v =>
      simp only [e] at h
      obtain ⟨u, e1, r⟩ := rs.at_ i v e
      exact ⟨u, e1, h.done rm r⟩
/-- a constant as it is written -/
def conOf : D → Const → Bool
  | .none, .none => true
  | .bool a, .bool b => a == b
  | .int a, .int b => a == b
  | .str a, .str b => decide (a = b)
  | _, _ => false
theorem okE_con {d : D} {k : Const} {j : Nat} (h : conOf d k = true) : OkE X W (.Constant k j pos) (fun _ M => .ok (.p d) M) := by
  cases d with
  | none => cases k with
    | none => exact ⟨_, pe_non, fun io s H g M Q rs rm h => h.done rm .non⟩
    | _ => cases h
  | bool x => cases k with
    | bool y => cases (beq_iff_eq.mp h); exact ⟨_, pe_bl, fun io s H g M Q rs rm h => h.done rm (.bl _)⟩
    | _ => cases h
  | int x => cases k with
    | int y => cases (beq_iff_eq.mp h); exact ⟨_, pe_int, fun io s H g M Q rs rm h => h.done rm (.int _)⟩
    | _ => cases h
  | str x => cases k with
    | str y => cases (of_decide_eq_true h); exact ⟨_, pe_str, fun io s H g M Q rs rm h => h.done rm (.str _)⟩
    | _ => cases h
  | _ => cases k <;> cases h
/-- a module's constant -/
def ConstOk (K : PySem.W.Frag) (mg : Str → Option Value) (x : Str) (d : D) : Prop := ∃ u v, mg x = some u ∧ RelV v u ∧ ∀ io H, DV io K H v d
theorem okE_gcon {d : D} {x : Str} (hg : Gl X x) (k : ConstOk X.K X.mg x d) (hd : (x == ("__debug__" : Str)) = false) : OkE X W (.Name x pos) (fun _ M => .ok (.p d) M) := by
  obtain ⟨u, v, hm, r, hv⟩ := k
  exact ⟨_, pe_glob hg hm r hd, fun io s H g M Q rs rm h => h.done rm (hv io H)⟩
/-- two values -/
theorem se_op {r : R2} {ta tb : TE} {g : Mem → Vl → Vl → Rs Vl} (ha : SE X W ta fa) (hb : SE X W tb fb)
    (h : ∀ (io : Io) (H : Hp) (M : Mem) (u1 u2 : V) (v1 v2 : Vl) (Q : VK) (E : XK), RM io X.K H M → VV io X.K H u1 v1 → VV io X.K H u2 v2 → Post X.K (RV X.K) io H (g M v1 v2) Q E → r u1 u2 H Q) :
    SE X W (tOp r ta tb) (fun s M => (fa s M).bind fun x M1 => (fb s M1).bind fun y M2 => g M2 x y) := by
  intro io s H sg M Q rs rm hp
  refine ha io s H sg M _ rs rm (hp.seq fun x M1 io1 H1 u1 e1 g1 rm1 r1 hp1 => ?_)
  refine hb io1 s H1 sg M1 _ (rs.mono g1) rm1 (hp1.seq fun y M2 io2 H2 u2 e2 g2 rm2 r2 hp2 => ?_)
  exact h io2 H2 M2 u1 u2 x y Q _ rm2 (r1.mono g2) r2 hp2
theorem okE_bin {o : BOp} (ha : OkE X W a fa) (hb : OkE X W b fb) : OkE X W (.BinOp a (bopOf o) b pos) (fun s M => (fa s M).bind fun x M1 => (fb s M1).bind fun y M2 => Rs.of M2 ((look M2 x).bind fun x => (look M2 y).bind fun y => (binop o x y).map .p)) := by
  obtain ⟨ta, pa, sa⟩ := ha
  obtain ⟨tb, pb, sb⟩ := hb
  refine ⟨_, pe_op (opr_bin o) pa pb, se_op (g := fun M x y => Rs.of M ((look M x).bind fun x => (look M y).bind fun y => (binop o x y).map .p)) sa sb fun io H M u1 u2 v1 v2 Q E rm r1 r2 h => ?_⟩
  obtain ⟨dx, dy, r, e1, e2, e3, h⟩ := data2 h
  obtain ⟨d, e4, rfl⟩ := Option.map_eq_some_iff.mp e3
  exact bin_ok (r1.db rm e1) (r2.db rm e2) rm e4 h
theorem se_cmp {o : COp} {ta tb : TE} (ha : SE X W ta fa) (hb : SE X W tb fb) :
    SE X W (tOp (rCmp X.K o) ta tb) (fun s M => (fa s M).bind fun x M1 => (fb s M1).bind fun y M2 => Rs.of M2 ((look M2 x).bind fun x => (look M2 y).bind fun y => (cmpop o x y).map fun c => .p (.bool c))) :=
  se_op (g := fun M x y => Rs.of M ((look M x).bind fun x => (look M y).bind fun y => (cmpop o x y).map fun c => .p (.bool c))) ha hb fun io H M u1 u2 v1 v2 Q E rm r1 r2 h => by
    obtain ⟨dx, dy, r, e1, e2, e3, h⟩ := data2 h
    obtain ⟨d, e4, rfl⟩ := Option.map_eq_some_iff.mp e3
    exact cmp_ok (r1.db rm e1) (r2.db rm e2) e4 (res_p h rm (.bl _))
theorem okE_cmp {o : COp} {k : Nat} (hr : Room k X.A) (hm : Pln b) (ha : OkE X W a fa) (hb : OkE X W b fb) : OkE X W (.Compare a [copOf o] [b] pos)
    (fun s M => (fa s M).bind fun x M1 => (fb s M1).bind fun y M2 => Rs.of M2 ((look M2 x).bind fun x => (look M2 y).bind fun y => (cmpop o x y).map fun c => .p (.bool c))) := by
  obtain ⟨ta, pa, sa⟩ := ha
  obtain ⟨tb, pb, sb⟩ := hb
  exact ⟨_, pe_cmpR (opr_cmp hr o) pa pb (mark_of hm), se_cmp sa sb⟩
theorem stt_bool {t : TE} {f : Sg → Mem → Rs Vl} (h : SE X W t f) (hb : ∀ g M v M', f g M = .ok v M' → ∃ c, v = .p (.bool c)) : STt X W (tTest t) (fun s M => (f s M).bind fun x M1 => Rs.of M1 ((look M1 x).bind truth)) := by
  intro io s H sg M Q rs rm hp
  refine h io s H sg M _ rs rm (hp.seq fun x M1 io1 H1 u1 e1 g1 rm1 r1 hp1 => ?_)
  obtain ⟨c, rfl⟩ := hb _ _ _ _ e1
  cases r1
  exact ⟨c, rfl, hp1.done rm1 rfl⟩
theorem of_bool {M M' : Mem} {o : Option Bool} {v : Vl} (h : Rs.of M (o.map fun c => Vl.p (.bool c)) = .ok v M') : ∃ c, v = .p (.bool c) := by
  cases o with
  | none => cases h
  | some c => cases h; exact ⟨c, rfl⟩
theorem bind_ok_of {α β : Type} {r : Rs α} {k : α → Mem → Rs β} {b : β} {M' : Mem} (h : r.bind k = .ok b M') : ∃ a M1, r = .ok a M1 ∧ k a M1 = .ok b M' := by
  cases r with
  | bad => cases h
  | ok a M1 => exact ⟨a, M1, rfl, h⟩
  | exc => cases h
theorem cmp_bool {o : COp} {g : Sg} {M M' : Mem} {v : Vl}
    (h : ((fa g M).bind fun x M1 => (fb g M1).bind fun y M2 => Rs.of M2 ((look M2 x).bind fun x => (look M2 y).bind fun y => (cmpop o x y).map fun c => Vl.p (.bool c))) = .ok v M') : ∃ c, v = .p (.bool c) := by
  obtain ⟨x, M1, _, h⟩ := bind_ok_of h
  obtain ⟨y, M2, _, h⟩ := bind_ok_of h
  cases e1 : look M2 x with
  | none => rw [e1] at h; cases h
  | some dx =>
    cases e2 : look M2 y with
    | none => rw [e1, e2] at h; cases h
    | some dy =>
      rw [e1, e2] at h
      exact of_bool h
theorem okT_cmp {o : COp} {k : Nat} (hr : Room k X.A) (hm : Pln b) (ha : OkE X W a fa) (hb : OkE X W b fb) : OkT X W (.Compare a [copOf o] [b] pos)
    (fun s M => ((fa s M).bind fun x M1 => (fb s M1).bind fun y M2 => Rs.of M2 ((look M2 x).bind fun x => (look M2 y).bind fun y => (cmpop o x y).map fun c => .p (.bool c))).bind fun x M1 => Rs.of M1 ((look M1 x).bind truth)) := by
  obtain ⟨ta, pa, sa⟩ := ha
  obtain ⟨tb, pb, sb⟩ := hb
  exact ⟨_, pt_cmpR (opr_cmp hr o) pa pb (mark_of hm), stt_bool (se_cmp sa sb) fun g M v M' => cmp_bool⟩
/-- a chain of two comparisons -/
def fChain (o o' : COp) (fa fb fc : Sg → Mem → Rs Vl) : Sg → Mem → Rs Vl := fun s M => (fa s M).bind fun x M1 => (fb s M1).bind fun y M2 => (Rs.of M2 ((look M2 x).bind fun x => (look M2 y).bind fun y => cmpop o x y)).bind fun k M3 =>
  if k then (fc s M3).bind fun z M4 => Rs.of M4 ((look M4 y).bind fun y => (look M4 z).bind fun z => (cmpop o' y z).map fun c => .p (.bool c)) else .ok (.p (.bool false)) M3
theorem se_chain {o o' : COp} {ta tb tc : TE} (ha : SE X W ta fa) (hb : SE X W tb fb) (hc : SE X W tc fc) : SE X W (tChain (rCmp X.K o) (rCmp X.K o') ta tb tc) (fChain o o' fa fb fc) := by
  intro io s H sg M Q rs rm hp
  refine ha io s H sg M _ rs rm (hp.seq fun x M1 io1 H1 u1 e1 g1 rm1 r1 hp1 => ?_)
  refine hb io1 s H1 sg M1 _ (rs.mono g1) rm1 (hp1.seq fun y M2 io2 H2 u2 e2 g2 rm2 r2 hp2 => ?_)
  cases e : ((look M2 x).bind fun x => (look M2 y).bind fun y => cmpop o x y) with
  | none => simp only [e] at hp2; exact hp2.elim
  | some k =>
    simp only [e, Rs.of_some, Rs.bind_ok] at hp2
    obtain ⟨dx, e3, e4⟩ := Option.bind_eq_some_iff.mp e
    obtain ⟨dy, e5, e6⟩ := Option.bind_eq_some_iff.mp e4
    refine cmp_ok ((r1.mono g2).db rm2 e3) (r2.db rm2 e5) e6 ⟨k, rfl, ?_⟩
    cases k with
    | false => exact hp2.done rm2 (.bl false)
    | true =>
      simp only [if_true] at hp2 ⊢
      refine hc io2 s H2 sg M2 _ ((rs.mono g1).mono g2) rm2 (hp2.seq fun z M4 io4 H4 u4 e7 g4 rm4 r4 hp4 => ?_)
      obtain ⟨dx, dy, r, e1, e2, e3, h⟩ := data2 hp4
      obtain ⟨d, e4, rfl⟩ := Option.map_eq_some_iff.mp e3
      exact cmp_ok ((r2.mono g4).db rm4 e1) (r4.db rm4 e2) e4 (res_p h rm4 (.bl _))
theorem marks_of {o o' : CmpOp} (hb : Pln b) (hc : Pln c) : lastMarks [o, o'] [b, c] = false := by
  show behindInMarks o' c = false
  exact mark_of hc
theorem okE_chain {o o' : COp} {k : Nat} (hr : Room k X.A) (mb : Pln b) (mc : Pln c) (ha : OkE X W a fa) (hb : OkE X W b fb) (hc : OkE X W c fc) : OkE X W (.Compare a [copOf o, copOf o'] [b, c] pos) (fChain o o' fa fb fc) := by
  obtain ⟨ta, pa, sa⟩ := ha
  obtain ⟨tb, pb, sb⟩ := hb
  obtain ⟨tc, pc, sc⟩ := hc
  exact ⟨_, pe_chain (opr_cmp hr o) (opr_cmp hr o') pa pb pc (marks_of mb mc), se_chain sa sb sc⟩
theorem chain_bool {o o' : COp} {g : Sg} {M M' : Mem} {v : Vl} (h : fChain o o' fa fb fc g M = .ok v M') : ∃ c, v = .p (.bool c) := by
  obtain ⟨x, M1, _, h⟩ := bind_ok_of h
  obtain ⟨y, M2, _, h⟩ := bind_ok_of h
  obtain ⟨k, M3, _, h⟩ := bind_ok_of h
  cases k with
  | false => cases h; exact ⟨_, rfl⟩
  | true =>
    simp only [if_true] at h
    obtain ⟨z, M4, _, h⟩ := bind_ok_of h
    cases e1 : look M4 y with
    | none => rw [e1] at h; cases h
    | some dx =>
      cases e2 : look M4 z with
      | none => rw [e1, e2] at h; cases h
      | some dy =>
        rw [e1, e2] at h
        exact of_bool h
theorem okT_chain {o o' : COp} {k : Nat} (hr : Room k X.A) (mb : Pln b) (mc : Pln c) (ha : OkE X W a fa) (hb : OkE X W b fb) (hc : OkE X W c fc) : OkT X W (.Compare a [copOf o, copOf o'] [b, c] pos)
    (fun s M => (fChain o o' fa fb fc s M).bind fun x M1 => Rs.of M1 ((look M1 x).bind truth)) := by
  obtain ⟨ta, pa, sa⟩ := ha
  obtain ⟨tb, pb, sb⟩ := hb
  obtain ⟨tc, pc, sc⟩ := hc
  exact ⟨_, pt_chain (opr_cmp hr o) (opr_cmp hr o') pa pb pc (marks_of mb mc), stt_bool (se_chain sa sb sc) fun g M v M' => chain_bool⟩
/-! a op b op c op d -/
def tChain3 (r r' r2 : R2) (ta tb tc td : TE) : TE := fun σ H Q => ta σ H fun x H1 => tb σ H1 fun y H2 => r x y H2 fun z H3 => ∃ k, z = .bl k ∧
  (if k = true then tc σ H3 fun w' H4 => r' y w' H4 fun z2 H5 => ∃ k2, z2 = .bl k2 ∧ (if k2 = true then td σ H5 fun v H6 => r2 w' v H6 Q else Q (.bl false) H5) else Q (.bl false) H3)
theorem pe_chain3 {d : Expr} {td : TE} {ta tb tc : TE} {op op' op2 : CmpOp} {r r' r2 : R2} (ho : OpR X (compareOp op) r) (ho' : OpR X (compareOp op') r') (ho2 : OpR X (compareOp op2) r2) (ha : PE X a ta) (hb : PE X b tb) (hc : PE X c tc) (hd : PE X d td)
    (hm : lastMarks [op, op', op2] [b, c, d] = false) : PE X (.Compare a [op, op', op2] [b, c, d] pos) (tChain3 r r' r2 ta tb tc td) := by
  refine ⟨fun pins s σ H Q I h => ?_⟩
  refine Compare_chain (thn (ha.run pins s σ H _ I h) fun v s1 ⟨x, H1, I1, r1, q1⟩ => chain_link (thn (hb.run pins s1 σ H1 _ I1 q1) fun u s2 ⟨y, H2, I2, ry, q2⟩ =>
    thn (ho pins s2 σ H2 x y v u _ I2 r1 ry q2) fun e s3 ⟨z, H3, I3, r3, k, ez, q3⟩ => ?_)) hm
  subst ez
  cases r3
  refine wpAny_truthy_bool ?_
  cases k with
  | false => exact ite_ff ⟨.bl false, H3, I3, rfl, q3⟩
  | true =>
    refine ite_tt (chain_link (thn (hc.run pins s3 σ H3 _ I3 q3) fun w' s4 ⟨z', H4, I4, r4, q4⟩ => thn (ho' pins s4 σ H4 y z' u w' _ I4 ry r4 q4) fun e2 s5 ⟨z2, H5, I5, r5, k2, ez2, q5⟩ => ?_))
    subst ez2
    cases r5
    refine wpAny_truthy_bool ?_
    cases k2 with
    | false => exact ite_ff ⟨.bl false, H5, I5, rfl, q5⟩
    | true => exact ite_tt (chain_last (thn (hd.run pins s5 σ H5 _ I5 q5) fun w6 s6 ⟨z6, H6, I6, r6, q6⟩ => ho2 pins s6 σ H6 z' z6 w' w6 Q I6 r4 r6 q6))
theorem pt_chain3 {d : Expr} {td : TE} {ta tb tc : TE} {op op' op2 : CmpOp} {r r' r2 : R2} (ho : OpR X (compareOp op) r) (ho' : OpR X (compareOp op') r') (ho2 : OpR X (compareOp op2) r2) (ha : PE X a ta) (hb : PE X b tb) (hc : PE X c tc) (hd : PE X d td)
    (hm : lastMarks [op, op', op2] [b, c, d] = false) : PT X (.Compare a [op, op', op2] [b, c, d] pos) (tTest (tChain3 r r' r2 ta tb tc td)) := by
  refine ⟨fun pins s σ H Q I h => ?_⟩
  refine isTrue_chain (thn (ha.run pins s σ H _ I h) fun v s1 ⟨x, H1, I1, r1, q1⟩ => test_link (thn (hb.run pins s1 σ H1 _ I1 q1) fun u s2 ⟨y, H2, I2, ry, q2⟩ =>
    thn (ho pins s2 σ H2 x y v u _ I2 r1 ry q2) fun e s3 ⟨z, H3, I3, r3, k, ez, q3⟩ => ?_)) hm
  subst ez
  cases r3
  refine wpAny_truthy_bool ?_
  cases k with
  | false =>
    obtain ⟨k', e', q'⟩ := q3
    cases e'
    exact ite_ff ⟨H3, I3, q'⟩
  | true =>
    refine ite_tt (test_link (thn (hc.run pins s3 σ H3 _ I3 q3) fun w' s4 ⟨z', H4, I4, r4, q4⟩ => thn (ho' pins s4 σ H4 y z' u w' _ I4 ry r4 q4) fun e2 s5 ⟨z2, H5, I5, r5, k2, ez2, q5⟩ => ?_))
    subst ez2
    cases r5
    refine wpAny_truthy_bool ?_
    cases k2 with
    | false =>
      obtain ⟨k', e', q'⟩ := q5
      cases e'
      exact ite_ff ⟨H5, I5, q'⟩
    | true =>
      refine ite_tt (test_last (thn (hd.run pins s5 σ H5 _ I5 q5) fun w6 s6 ⟨z6, H6, I6, r6, q6⟩ => thn (ho2 pins s6 σ H6 z' z6 w' w6 _ I6 r4 r6 q6) fun d' s7 ⟨z7, H7, I7, r7, k7, e7, q7⟩ => ?_))
      subst e7
      cases r7
      exact wpAny_truthy_bool ⟨H7, I7, q7⟩
def fChain3 (o o' o2 : COp) (fa fb fc fd : Sg → Mem → Rs Vl) : Sg → Mem → Rs Vl := fun s M => (fa s M).bind fun x M1 => (fb s M1).bind fun y M2 => (Rs.of M2 ((look M2 x).bind fun x => (look M2 y).bind fun y => cmpop o x y)).bind fun k M3 =>
  if k then (fc s M3).bind fun z M4 => (Rs.of M4 ((look M4 y).bind fun y => (look M4 z).bind fun z => cmpop o' y z)).bind fun k M5 =>
    if k then (fd s M5).bind fun u M6 => Rs.of M6 ((look M6 z).bind fun z => (look M6 u).bind fun u => (cmpop o2 z u).map fun c => .p (.bool c)) else .ok (.p (.bool false)) M5 else .ok (.p (.bool false)) M3
theorem se_chain3 {o o' o2 : COp} {ta tb tc td : TE} {fd : Sg → Mem → Rs Vl} (ha : SE X W ta fa) (hb : SE X W tb fb) (hc : SE X W tc fc) (hd : SE X W td fd) : SE X W (tChain3 (rCmp X.K o) (rCmp X.K o') (rCmp X.K o2) ta tb tc td) (fChain3 o o' o2 fa fb fc fd) := by
  intro io s H sg M Q rs rm hp
  refine ha io s H sg M _ rs rm (hp.seq fun x M1 io1 H1 u1 e1 g1 rm1 r1 hp1 => ?_)
  refine hb io1 s H1 sg M1 _ (rs.mono g1) rm1 (hp1.seq fun y M2 io2 H2 u2 e2 g2 rm2 r2 hp2 => ?_)
  cases e : ((look M2 x).bind fun x => (look M2 y).bind fun y => cmpop o x y) with
  | none => simp only [e] at hp2; exact hp2.elim
  | some k =>
    simp only [e, Rs.of_some, Rs.bind_ok] at hp2
    obtain ⟨dx, e3, e4⟩ := Option.bind_eq_some_iff.mp e
    obtain ⟨dy, e5, e6⟩ := Option.bind_eq_some_iff.mp e4
    refine cmp_ok ((r1.mono g2).db rm2 e3) (r2.db rm2 e5) e6 ⟨k, rfl, ?_⟩
    cases k with
    | false => exact hp2.done rm2 (.bl false)
    | true =>
      simp only [if_true] at hp2 ⊢
      refine hc io2 s H2 sg M2 _ ((rs.mono g1).mono g2) rm2 (hp2.seq fun z M4 io4 H4 u4 e7 g4 rm4 r4 hp4 => ?_)
      cases f : ((look M4 y).bind fun y => (look M4 z).bind fun z => cmpop o' y z) with
      | none => simp only [f] at hp4; exact hp4.elim
      | some k2 =>
        simp only [f, Rs.of_some, Rs.bind_ok] at hp4
        obtain ⟨dy2, f3, f4⟩ := Option.bind_eq_some_iff.mp f
        obtain ⟨dz, f5, f6⟩ := Option.bind_eq_some_iff.mp f4
        refine cmp_ok ((r2.mono g4).db rm4 f3) (r4.db rm4 f5) f6 ⟨k2, rfl, ?_⟩
        cases k2 with
        | false => exact hp4.done rm4 (.bl false)
        | true =>
          simp only [if_true] at hp4 ⊢
          refine hd io4 s H4 sg M4 _ (((rs.mono g1).mono g2).mono g4) rm4 (hp4.seq fun w M6 io6 H6 u6 e8 g6 rm6 r6 hp6 => ?_)
          obtain ⟨dx, dy, r, e1, e2, e3, h⟩ := data2 hp6
          obtain ⟨c, e4, rfl⟩ := Option.map_eq_some_iff.mp e3
          exact cmp_ok ((r4.mono g6).db rm6 e1) (r6.db rm6 e2) e4 (res_p h rm6 (.bl _))
theorem marks_of3 {d : Expr} {o o' o2 : CmpOp} (hd : Pln d) : lastMarks [o, o', o2] [b, c, d] = false := by
  show behindInMarks o2 d = false
  exact mark_of hd
theorem okE_chain3 {d : Expr} {fd : Sg → Mem → Rs Vl} {o o' o2 : COp} {k : Nat} (hr : Room k X.A) (mb : Pln b) (mc : Pln c) (md : Pln d) (ha : OkE X W a fa) (hb : OkE X W b fb) (hc : OkE X W c fc) (hd : OkE X W d fd) : OkE X W (.Compare a [copOf o, copOf o', copOf o2] [b, c, d] pos) (fChain3 o o' o2 fa fb fc fd) := by
  obtain ⟨ta, pa, sa⟩ := ha
  obtain ⟨tb, pb, sb⟩ := hb
  obtain ⟨tc, pc, sc⟩ := hc
  obtain ⟨td, pd, sd⟩ := hd
  exact ⟨_, pe_chain3 (opr_cmp hr o) (opr_cmp hr o') (opr_cmp hr o2) pa pb pc pd (marks_of3 md), se_chain3 sa sb sc sd⟩
theorem chain_bool3 {fd : Sg → Mem → Rs Vl} {o o' o2 : COp} {g : Sg} {M M' : Mem} {v : Vl} (h : fChain3 o o' o2 fa fb fc fd g M = .ok v M') : ∃ c, v = .p (.bool c) := by
  obtain ⟨x, M1, _, h⟩ := bind_ok_of h
  obtain ⟨y, M2, _, h⟩ := bind_ok_of h
  obtain ⟨k, M3, _, h⟩ := bind_ok_of h
  cases k with
  | false => cases h; exact ⟨_, rfl⟩
  | true =>
    simp only [if_true] at h
    obtain ⟨z, M4, _, h⟩ := bind_ok_of h
    obtain ⟨k2, M5, _, h⟩ := bind_ok_of h
    cases k2 with
    | false => cases h; exact ⟨_, rfl⟩
    | true =>
      simp only [if_true] at h
      obtain ⟨w, M6, _, h⟩ := bind_ok_of h
      cases e1 : look M6 z with
      | none => rw [e1] at h; cases h
      | some dx =>
        cases e2 : look M6 w with
        | none => rw [e1, e2] at h; cases h
        | some dy =>
          rw [e1, e2] at h
          exact of_bool h
theorem okT_chain3 {d : Expr} {fd : Sg → Mem → Rs Vl} {o o' o2 : COp} {k : Nat} (hr : Room k X.A) (mb : Pln b) (mc : Pln c) (md : Pln d) (ha : OkE X W a fa) (hb : OkE X W b fb) (hc : OkE X W c fc) (hd : OkE X W d fd) : OkT X W (.Compare a [copOf o, copOf o', copOf o2] [b, c, d] pos)
    (fun s M => (fChain3 o o' o2 fa fb fc fd s M).bind fun x M1 => Rs.of M1 ((look M1 x).bind truth)) := by
  obtain ⟨ta, pa, sa⟩ := ha
  obtain ⟨tb, pb, sb⟩ := hb
  obtain ⟨tc, pc, sc⟩ := hc
  obtain ⟨td, pd, sd⟩ := hd
  exact ⟨_, pt_chain3 (opr_cmp hr o) (opr_cmp hr o') (opr_cmp hr o2) pa pb pc pd (marks_of3 md), stt_bool (se_chain3 sa sb sc sd) fun g M v M' => chain_bool3⟩
/-- an expression as a test, by its truth -/
def Dfl (e : Expr) : Prop := ∀ env whole, isTrue e env whole = (do let v ← whole; standAt e.pos; holding [v] (truthy v))
theorem okT_dfl (he : Dfl e) (h : OkE X W e fa) : OkT X W e (fun s M => (fa s M).bind fun x M1 => Rs.of M1 ((look M1 x).bind truth)) := by
  obtain ⟨t, p, st⟩ := h
  refine ⟨_, pt_truth p (he _), fun io s H sg M Q rs rm hp => ?_⟩
  refine st io s H sg M _ rs rm (hp.seq fun x M1 io1 H1 u1 e1 g1 rm1 r1 hp1 => ?_)
  obtain ⟨dx, k, e2, e3, hp2⟩ := data1 hp1
  exact ⟨k, tru_of (r1.db rm1 e2) e3, hp2.done rm1 rfl⟩
/-- -a -/
theorem okE_neg (ha : OkE X W a fa) : OkE X W (.UnaryOp .USub a pos) (fun s M => (fa s M).bind fun x M1 => match x with
    | .p (.int i) => .ok (.p (.int (-i))) M1
    | _ => .bad) := by
  obtain ⟨t, p, st⟩ := ha
  refine ⟨_, pe_un un_neg p, fun io s H sg M Q rs rm hp => ?_⟩
  refine st io s H sg M _ rs rm (hp.seq fun x M1 io1 H1 u1 e1 g1 rm1 r1 hp1 => ?_)
  cases x with
  | p d =>
    cases r1 with
    | int i => exact ⟨i, rfl, res_p hp1 rm1 (.int _)⟩
    | _ => exact hp1.elim
  | r i => exact hp1.elim
  | s ds => exact hp1.elim
/-- not a, as a value -/
theorem okE_not (ha : OkE X W a fa) : OkE X W (.UnaryOp .Not a pos) (fun s M => (fa s M).bind fun x M1 => Rs.of M1 ((look M1 x).bind fun x => (truth x).map fun c => .p (.bool (!c)))) := by
  obtain ⟨t, p, st⟩ := ha
  refine ⟨_, pe_notT p, fun io s H sg M Q rs rm hp => ?_⟩
  refine st io s H sg M _ rs rm (hp.seq fun x M1 io1 H1 u1 e1 g1 rm1 r1 hp1 => ?_)
  obtain ⟨dx, r, e2, e3, hp2⟩ := data1 hp1
  obtain ⟨k, e4, rfl⟩ := Option.map_eq_some_iff.mp e3
  exact ⟨k, tru_of (r1.db rm1 e2) e4, res_p hp2 rm1 (.bl _)⟩
theorem okT_not {ft : Sg → Mem → Rs Bool} (ha : OkT X W a ft) : OkT X W (.UnaryOp .Not a pos) (fun s M => (ft s M).bind fun c M1 => .ok (!c) M1) := by
  obtain ⟨t, p, st⟩ := ha
  refine ⟨_, pt_not p, fun io s H sg M Q rs rm hp => ?_⟩
  exact st io s H sg M _ rs rm (hp.seq fun x M1 io1 H1 u1 e1 g1 rm1 r1 hp1 => by cases r1; exact hp1.done rm1 rfl)

/-! ### and, or -/
theorem okE_one {op : BoolOp} (ha : OkE X W a fa) : OkE X W (.BoolOp op [a] pos) fa := by
  obtain ⟨t, p, st⟩ := ha
  exact ⟨_, pe_one p, st⟩
theorem okE_and {rest : List Expr} (ha : OkE X W a fa) (hb : OkE X W (.BoolOp .And (b :: rest) pos) fb) : OkE X W (.BoolOp .And (a :: b :: rest) pos) (fun s M => (fa s M).bind fun v M1 => match v with
    | .p (.bool true) => fb s M1
    | .p (.bool false) => .ok (.p (.bool false)) M1
    | _ => .bad) := by
  obtain ⟨ta, pa, sa⟩ := ha
  obtain ⟨tb, pb, sb⟩ := hb
  refine ⟨_, pe_and pa pb, fun io s H sg M Q rs rm hp => ?_⟩
  refine sa io s H sg M _ rs rm (hp.seq fun x M1 io1 H1 u1 e1 g1 rm1 r1 hp1 => ?_)
  cases x with
  | p d =>
    cases r1 with
    | bl k =>
      refine ⟨k, rfl, ?_⟩
      cases k with
      | true => exact sb io1 s H1 sg M1 Q (rs.mono g1) rm1 hp1
      | false => exact res_p hp1 rm1 (.bl _)
    | _ => exact hp1.elim
  | r i => exact hp1.elim
  | s ds => exact hp1.elim
theorem okE_or {rest : List Expr} (ha : OkE X W a fa) (hb : OkE X W (.BoolOp .Or (b :: rest) pos) fb) : OkE X W (.BoolOp .Or (a :: b :: rest) pos) (fun s M => (fa s M).bind fun v M1 => match v with
    | .p (.bool true) => .ok (.p (.bool true)) M1
    | .p (.bool false) => fb s M1
    | _ => .bad) := by
  obtain ⟨ta, pa, sa⟩ := ha
  obtain ⟨tb, pb, sb⟩ := hb
  refine ⟨_, pe_or pa pb, fun io s H sg M Q rs rm hp => ?_⟩
  refine sa io s H sg M _ rs rm (hp.seq fun x M1 io1 H1 u1 e1 g1 rm1 r1 hp1 => ?_)
  cases x with
  | p d =>
    cases r1 with
    | bl k =>
      refine ⟨k, rfl, ?_⟩
      cases k with
      | false => exact sb io1 s H1 sg M1 Q (rs.mono g1) rm1 hp1
      | true => exact res_p hp1 rm1 (.bl _)
    | _ => exact hp1.elim
  | r i => exact hp1.elim
  | s ds => exact hp1.elim
/-- as tests -/
def OkW (X : Cx) (W : WX) (e : Expr) (f : Sg → Mem → Rs Bool) : Prop := ∃ t, PW X e t ∧ STt X W t f
theorem OkW.t {f : Sg → Mem → Rs Bool} (h : OkW X W e f) : OkT X W e f := let ⟨t, p, s⟩ := h; ⟨t, p.pt, s⟩
variable {ga gb : Sg → Mem → Rs Bool}
theorem okW_and1 (ha : OkT X W a ga) : OkW X W (.BoolOp .And [a] pos) ga := let ⟨t, p, s⟩ := ha; ⟨t, pw_and1 p, s⟩
theorem okW_or1 (ha : OkT X W a ga) : OkW X W (.BoolOp .Or [a] pos) ga := let ⟨t, p, s⟩ := ha; ⟨t, pw_or1 p, s⟩
theorem okW_and {rest : List Expr} (ha : OkT X W a ga) (hb : OkW X W (.BoolOp .And (b :: rest) pos) gb) : OkW X W (.BoolOp .And (a :: b :: rest) pos) (fun s M => (ga s M).bind fun c M1 => if c then gb s M1 else .ok false M1) := by
  obtain ⟨ta, pa, sa⟩ := ha
  obtain ⟨tb, pb, sb⟩ := hb
  refine ⟨_, pw_and pa pb, fun io s H sg M Q rs rm hp => ?_⟩
  refine sa io s H sg M _ rs rm (hp.seq fun x M1 io1 H1 u1 e1 g1 rm1 r1 hp1 => ?_)
  cases r1
  cases x with
  | true => exact sb io1 s H1 sg M1 Q (rs.mono g1) rm1 hp1
  | false => exact hp1.done rm1 rfl
theorem okW_or {rest : List Expr} (ha : OkT X W a ga) (hb : OkW X W (.BoolOp .Or (b :: rest) pos) gb) : OkW X W (.BoolOp .Or (a :: b :: rest) pos) (fun s M => (ga s M).bind fun c M1 => if c then .ok true M1 else gb s M1) := by
  obtain ⟨ta, pa, sa⟩ := ha
  obtain ⟨tb, pb, sb⟩ := hb
  refine ⟨_, pw_or pa pb, fun io s H sg M Q rs rm hp => ?_⟩
  refine sa io s H sg M _ rs rm (hp.seq fun x M1 io1 H1 u1 e1 g1 rm1 r1 hp1 => ?_)
  cases r1
  cases x with
  | false => exact sb io1 s H1 sg M1 Q (rs.mono g1) rm1 hp1
  | true => exact hp1.done rm1 rfl
/-- a if t else b -/
theorem okE_ite (hc : OkT X W c ft) (ha : OkE X W a fa) (hb : OkE X W b fb) : OkE X W (.IfExp c a b pos) (fun s M => (ft s M).bind fun k M1 => if k then fa s M1 else fb s M1) := by
  obtain ⟨tc, pc, sc⟩ := hc
  obtain ⟨ta, pa, sa⟩ := ha
  obtain ⟨tb, pb, sb⟩ := hb
  refine ⟨_, pe_ifExp pc pa pb, fun io s H sg M Q rs rm hp => ?_⟩
  refine sc io s H sg M _ rs rm (hp.seq fun x M1 io1 H1 u1 e1 g1 rm1 r1 hp1 => ?_)
  cases r1
  cases x with
  | true => exact sa io1 s H1 sg M1 Q (rs.mono g1) rm1 hp1
  | false => exact sb io1 s H1 sg M1 Q (rs.mono g1) rm1 hp1
theorem pt_ifExp {X : Cx} {a b c : Expr} {pos : Pos} {tc ta tb : TT} (hc : PT X c tc) (ha : PT X a ta) (hb : PT X b tb) : PT X (.IfExp c a b pos) (fun σ H Q => tc σ H fun k H1 => if k = true then ta σ H1 Q else tb σ H1 Q) := by
  refine ⟨fun pins s σ H Q I h => ?_⟩
  refine isTrue_IfExp (thn (hc.run pins s σ H _ I h) fun d s1 ⟨H1, I1, q1⟩ => ?_)
  cases d with
  | true => exact ha.run pins s1 σ H1 Q I1 q1
  | false => exact hb.run pins s1 σ H1 Q I1 q1
theorem okT_ite (hc : OkT X W c ft) (ha : OkT X W a ga) (hb : OkT X W b gb) : OkT X W (.IfExp c a b pos) (fun s M => (ft s M).bind fun k M1 => if k then ga s M1 else gb s M1) := by
  obtain ⟨tc, pc, sc⟩ := hc
  obtain ⟨ta, pa, sa⟩ := ha
  obtain ⟨tb, pb, sb⟩ := hb
  refine ⟨_, pt_ifExp pc pa pb, fun io s H sg M Q rs rm hp => ?_⟩
  refine sc io s H sg M _ rs rm (hp.seq fun x M1 io1 H1 u1 e1 g1 rm1 r1 hp1 => ?_)
  cases r1
  cases x with
  | true => exact sa io1 s H1 sg M1 Q (rs.mono g1) rm1 hp1
  | false => exact sb io1 s H1 sg M1 Q (rs.mono g1) rm1 hp1

/-! ### argument lists, displays -/
theorem okA_nil : OkA X W [] (fun _ M => .ok [] M) := ⟨_, pa_nil, fun io s H g M Q rs rm h => h.done rm .nil⟩
theorem okA_cons (hp : Pln e) (he : OkE X W e fa) (hs : OkA X W es fs) : OkA X W (e :: es) (fun s M => (fa s M).bind fun v M1 => (fs s M1).bind fun vs M2 => .ok (v :: vs) M2) := by
  obtain ⟨te, pe, se⟩ := he
  obtain ⟨ts, ps, ss⟩ := hs
  refine ⟨_, pa_cons pe ps (star_of hp), fun io s H sg M Q rs rm hp => ?_⟩
  refine se io s H sg M _ rs rm (hp.seq fun x M1 io1 H1 u1 e1 g1 rm1 r1 hp1 => ?_)
  refine ss io1 s H1 sg M1 _ (rs.mono g1) rm1 (hp1.seq fun xs M2 io2 H2 us e2 g2 rm2 r2 hp2 => ?_)
  exact hp2.done rm2 (.cons (r1.mono g2) r2)
theorem okE_tup {k : Nat} (h : OkA X W es fs) (hz : es.length ≤ 1000) (hl : ∀ g M vs M', fs g M = .ok vs M' → vs.length = es.length) : OkE X W (.Tuple es k pos) (fun s M => (fs s M).bind fun vs M1 => Rs.of M1 ((plains vs).map fun ds => .p (.tuple ds))) := by
  obtain ⟨t, p, st⟩ := h
  refine ⟨_, pe_tupK p, fun io s H sg M Q rs rm hp => ?_⟩
  refine st io s H sg M _ rs rm (hp.seq fun xs M1 io1 H1 us e1 g1 rm1 r1 hp1 => ?_)
  cases e : plains xs with
  | none => simp only [e] at hp1; exact hp1.elim
  | some ds =>
    simp only [e] at hp1
    exact ⟨by rw [r1.length, hl _ _ _ _ e1, sizeLine_eq]; omega, fun p o ko hp => res_tup hp1 rm1 (r1.plain e) ko hp⟩
theorem okE_lst (h : OkA X W es fs) (hz : es.length ≤ 1000) (hl : ∀ g M vs M', fs g M = .ok vs M' → vs.length = es.length) : OkE X W (.List es pos) (fun s M => (fs s M).bind fun vs M1 => Rs.of M1 ((plains vs).map fun ds => .p (.list ds))) := by
  obtain ⟨t, p, st⟩ := h
  refine ⟨_, pe_lst p, fun io s H sg M Q rs rm hp => ?_⟩
  refine st io s H sg M _ rs rm (hp.seq fun xs M1 io1 H1 us e1 g1 rm1 r1 hp1 => ?_)
  cases e : plains xs with
  | none => simp only [e] at hp1; exact hp1.elim
  | some ds =>
    simp only [e] at hp1
    exact ⟨by rw [r1.length, hl _ _ _ _ e1, sizeLine_eq]; omega, fun p hp => res_lst hp1 rm1 (r1.plain e) hp⟩

/-! ### items, slices -/
theorem okE_ix (hs : PlainIx b) (ha : OkE X W a fa) (hb : OkE X W b fb) : OkE X W (.Subscript a b pos) (fun s M => (fa s M).bind fun x M1 => (fb s M1).bind fun y M2 => Rs.of M2 ((look M2 x).bind fun x => (plain y).bind fun y => (getIx x y).map .p)) := by
  obtain ⟨ta, pa, sa⟩ := ha
  obtain ⟨tb, pb, sb⟩ := hb
  refine ⟨_, pe_ix (ix_list.or (ix_tup.or ix_str)) pa pb hs, se_op (g := fun M x y => Rs.of M ((look M x).bind fun x => (plain y).bind fun y => (getIx x y).map .p)) sa sb fun io H M u1 u2 v1 v2 Q E rm r1 r2 h => ?_⟩
  obtain ⟨dx, r, e1, e2, h⟩ := data1 h
  cases v2 with
  | p dy =>
    obtain ⟨d, e3, rfl⟩ := Option.map_eq_some_iff.mp e2
    exact ix_ok (r1.db rm e1) r2 rm e3 h
  | r i => cases e2
  | s ds => cases e2
def SO (X : Cx) (W : WX) (t : TO) (f : Sg → Mem → Rs (Option Int)) : Prop :=
  ∀ (io : Io) (s : L2.St) (H : Hp) (g : Sg) (M : Mem) (Q : Option Int → Hp → Prop), RS io X.K H s g → RM io X.K H M → Post X.K (fun _ _ u v => u = v) io H (f g M) Q (fun cls d H' => W cls d s H') → t s H Q
def OkO (X : Cx) (W : WX) (e : Option Expr) (f : Sg → Mem → Rs (Option Int)) : Prop := ∃ t, PO X e t ∧ SO X W t f
theorem okO_none : OkO X W none (fun _ M => .ok none M) := ⟨_, po_none, fun io s H g M Q rs rm h => h.done rm rfl⟩
theorem okO_some (he : OkE X W e fa) : OkO X W (some e) (fun s M => (fa s M).bind fun v M1 => match v with
    | .p (.int i) => .ok (some i) M1
    | _ => .bad) := by
  obtain ⟨t, p, st⟩ := he
  refine ⟨_, po_some p, fun io s H sg M Q rs rm hp => ?_⟩
  refine st io s H sg M _ rs rm (hp.seq fun x M1 io1 H1 u1 e1 g1 rm1 r1 hp1 => ?_)
  cases x with
  | p d =>
    cases r1 with
    | int i => exact ⟨i, rfl, hp1.done rm1 rfl⟩
    | _ => exact hp1.elim
  | r i => exact hp1.elim
  | s ds => exact hp1.elim
theorem okE_sl {lo hi : Option Expr} {p2 : Pos} {fl fh : Sg → Mem → Rs (Option Int)} (ha : OkE X W a fa) (hl : OkO X W lo fl) (hh : OkO X W hi fh) : OkE X W (.Subscript a (.Slice lo hi none p2) pos)
    (fun s M => (fa s M).bind fun x M1 => (fl s M1).bind fun l M2 => (fh s M2).bind fun h M3 => Rs.of M3 ((look M3 x).bind fun x => (getSl x l h).map .p)) := by
  obtain ⟨ta, pa, sa⟩ := ha
  obtain ⟨tl, pl, sl⟩ := hl
  obtain ⟨th, ph, sh⟩ := hh
  have hr : SlR X (fun x lo hi H Q => rSlL X.K x lo hi H Q ∨ rSlK X.K x lo hi H Q ∨ rSlS x lo hi H Q) := sl_list.or (sl_tupK.or sl_str)
  refine ⟨_, pe_slice hr pa pl ph, fun io s H sg M Q rs rm hp => ?_⟩
  refine sa io s H sg M _ rs rm (hp.seq fun x M1 io1 H1 u1 e1 g1 rm1 r1 hp1 => ?_)
  refine sl io1 s H1 sg M1 _ (rs.mono g1) rm1 (hp1.seq fun l M2 io2 H2 u2 e2 g2 rm2 r2 hp2 => ?_)
  refine sh io2 s H2 sg M2 _ ((rs.mono g1).mono g2) rm2 (hp2.seq fun h M3 io3 H3 u3 e3 g3 rm3 r3 hp3 => ?_)
  cases r2
  cases r3
  obtain ⟨dx, r, e4, e5, hp4⟩ := data1 hp3
  obtain ⟨d, e6, rfl⟩ := Option.map_eq_some_iff.mp e5
  exact sl_ok (((r1.mono g2).mono g3).db rm3 e4) rm3 e6 hp4
theorem okE_revL {k : Nat} {p1 p2 p3 : Pos} (ha : OkE X W a fa) : OkE X W (.Subscript a (.Slice none none (some (.UnaryOp .USub (.Constant (.int 1) k p1) p2)) p3) pos)
    (fun s M => (fa s M).bind fun x M1 => Rs.of M1 ((look M1 x).bind fun x => match x with
    | .list ds => some (.p (.list ds.reverse))
    | .tuple ds => some (.p (.tuple ds.reverse))
    | _ => none)) := by
  obtain ⟨ta, pa, sa⟩ := ha
  refine ⟨_, pe_revA pa, fun io s H sg M Q rs rm hp => ?_⟩
  refine sa io s H sg M _ rs rm (hp.seq fun x M1 io1 H1 u1 e1 g1 rm1 r1 hp1 => ?_)
  obtain ⟨dx, r, e2, e3, hp2⟩ := data1 hp1
  cases r1.db rm1 e2 with
  | lst hx hs =>
    cases e3
    exact .inl ⟨_, _, rfl, SqL.of hx, fun p hp => res_lst hp2 rm1 hs.reverse hp⟩
  | tup hx hs =>
    cases e3
    exact .inr ⟨_, _, rfl, hx.sq, fun p o ko hp => res_tup hp2 rm1 hs.reverse ko hp⟩
  | _ => cases e3
end
end Eg

/-! Engine, part F: built-ins, calls, what is walked, comprehensions. By an AI agent. -/
namespace Eg
open PySem PySem.Spec PyProof.Rows L2
section
variable {X : Cx} {W : WX} {a b c e : Expr} {es : List Expr} {pos p : Pos} {fa fb fc : Sg → Mem → Rs Vl} {fs : Sg → Mem → Rs (List Vl)} {ft : Sg → Mem → Rs Bool} {x : Str}
/-! ### built-ins of one argument -/
theorem se_b1 {r : List V → Hp → VK → Prop} {t : TE} {g : Mem → Vl → Rs Vl} (ha : SE X W t fa)
    (h : ∀ (io : Io) (H : Hp) (M : Mem) (u : V) (v : Vl) (Q : VK) (E : XK), RM io X.K H M → VV io X.K H u v → Post X.K (RV X.K) io H (g M v) Q E → r [u] H Q) : SE X W (tCB r (tCons t tNil)) (fun s M => (fa s M).bind fun v M1 => g M1 v) := by
  intro io s H sg M Q rs rm hp
  refine ha io s H sg M _ rs rm (hp.seq fun x M1 io1 H1 u1 e1 g1 rm1 r1 hp1 => ?_)
  exact h io1 H1 M1 u1 x Q _ rm1 r1 hp1
theorem okE_b1 {id : String} {r : List V → Hp → VK → Prop} {g : Mem → Vl → Rs Vl} (hc : CallR X (.builtin id) r) (hg : Gl X x) (hm : X.mg x = none) (hv : bootBuiltins x = some (.builtin id)) (hpa : Pln a) (ha : OkE X W a fa)
    (h : ∀ (io : Io) (H : Hp) (M : Mem) (u : V) (v : Vl) (Q : VK) (E : XK), RM io X.K H M → VV io X.K H u v → Post X.K (RV X.K) io H (g M v) Q E → r [u] H Q)
    (hn : x ≠ "__name__" := by decide) (hdb : (x == ("__debug__" : Str)) = false := by decide) : OkE X W (.Call (.Name x p) [a] [] pos) (fun s M => (fa s M).bind fun v M1 => g M1 v) := by
  obtain ⟨t, pe, se⟩ := ha
  exact ⟨_, pe_callB hc hg hm hv (pa_cons pe pa_nil (star_of hpa)) hn hdb (star_of hpa) rfl, se_b1 se h⟩
theorem okE_t1 {T : String} {r : List V → Hp → VK → Prop} {g : Mem → Vl → Rs Vl} (hc : CallR X (.type T) r) (hg : Gl X x) (hm : X.mg x = none) (hv : bootBuiltins x = some (.type T)) (hpa : Pln a) (ha : OkE X W a fa)
    (h : ∀ (io : Io) (H : Hp) (M : Mem) (u : V) (v : Vl) (Q : VK) (E : XK), RM io X.K H M → VV io X.K H u v → Post X.K (RV X.K) io H (g M v) Q E → r [u] H Q)
    (hn : x ≠ "__name__" := by decide) (hdb : (x == ("__debug__" : Str)) = false := by decide) : OkE X W (.Call (.Name x p) [a] [] pos) (fun s M => (fa s M).bind fun v M1 => g M1 v) := by
  obtain ⟨t, pe, se⟩ := ha
  exact ⟨_, pe_callTy hc hg hm hv (pa_cons pe pa_nil (star_of hpa)) hn hdb (star_of hpa) rfl, se_b1 se h⟩
/-- sum(t) of a tuple of ints -/
def rSumT (K : PySem.W.Frag) : List V → Hp → VK → Prop := fun vs H Q => ∃ (a : Addr) (ns : List Int), vs = [V.ref a] ∧ SqT K H a (ns.map V.int) ∧ Q (.int ns.sum) H
theorem cr_sumT {X : Cx} (hc : X.calm = true) : CallR X (.builtin "sum") (rSumT X.K) := by
  intro pins s σ H vs us Q I r h
  obtain ⟨a, ns, rfl, hs, q⟩ := h
  obtain ⟨its, rv, hl, _⟩ := I.tuple hs
  rw [Vals.ref1 r]
  have hi := rv.ints
  obtain ⟨xs, e⟩ := hi.allInts.items
  have hn : numsOf (intItems xs).toList = ns := by rw [← e]; exact hi.numsOf
  rw [nums_intItems] at hn
  rw [e] at hl
  refine PySem.W.ktm_sumG (I.ok.hd hc) hl fun h' tk t' hk => ?_
  rw [preSum_eq, List.take_of_length_le (by simp), hn]
  exact ⟨.int _, H, I.kept hk, ⟨_, rfl⟩, q⟩
def biName : Bi → Str
  | .len => "len" | .abs => "abs" | .int => "int" | .list => "list" | .tuple => "tuple" | .sum => "sum" | .all => "all" | .any => "any" | .max => "max" | .min => "min" | .str => "str"
theorem foldl_max_le : ∀ (ns : List Int) (n : Int), n ≤ ns.foldl max n ∧ ∀ y, y ∈ ns → y ≤ ns.foldl max n
  | [], n => ⟨Int.le_refl _, fun y h => by cases h⟩
  | m :: ns, n => by
    obtain ⟨h1, h2⟩ := foldl_max_le ns (max n m)
    refine ⟨by show n ≤ ns.foldl max (max n m); omega, fun y hy => ?_⟩
    rcases List.mem_cons.mp hy with rfl | hy
    · show y ≤ ns.foldl max (max n y); omega
    · exact h2 y hy
theorem foldl_max_mem : ∀ (ns : List Int) (n : Int), ns.foldl max n = n ∨ ns.foldl max n ∈ ns
  | [], n => .inl rfl
  | m :: ns, n => by
    rcases foldl_max_mem ns (max n m) with h | h
    · show ns.foldl max (max n m) = n ∨ ns.foldl max (max n m) ∈ m :: ns
      by_cases hc : n ≤ m
      · exact .inr (by rw [h, Int.max_eq_right hc]; exact List.mem_cons_self)
      · exact .inl (by rw [h]; omega)
    · exact .inr (List.mem_cons_of_mem _ h)
theorem foldl_min_le : ∀ (ns : List Int) (n : Int), ns.foldl min n ≤ n ∧ ∀ y, y ∈ ns → ns.foldl min n ≤ y
  | [], n => ⟨Int.le_refl _, fun y h => by cases h⟩
  | m :: ns, n => by
    obtain ⟨h1, h2⟩ := foldl_min_le ns (min n m)
    refine ⟨by show ns.foldl min (min n m) ≤ n; omega, fun y hy => ?_⟩
    rcases List.mem_cons.mp hy with rfl | hy
    · show ns.foldl min (min n y) ≤ y; omega
    · exact h2 y hy
theorem foldl_min_mem : ∀ (ns : List Int) (n : Int), ns.foldl min n = n ∨ ns.foldl min n ∈ ns
  | [], n => .inl rfl
  | m :: ns, n => by
    rcases foldl_min_mem ns (min n m) with h | h
    · show ns.foldl min (min n m) = n ∨ ns.foldl min (min n m) ∈ m :: ns
      by_cases hc : m ≤ n
      · exact .inr (by rw [h, Int.min_eq_right hc]; exact List.mem_cons_self)
      · exact .inl (by rw [h]; omega)
    · exact .inr (List.mem_cons_of_mem _ h)
theorem ite_of {α : Type} {c : Bool} {x : Option α} {b : α} (e : (if c = true then x else none) = some b) : c = true ∧ x = some b := by
  cases c with
  | true => exact ⟨rfl, e⟩
  | false => cases e
theorem and3 {a b c : Bool} (h : (a && b && c) = true) : a = true ∧ b = true ∧ c = true := by
  cases a <;> cases b <;> cases c <;> first | exact ⟨rfl, rfl, rfl⟩ | cases h
theorem fBi_cases {K : PySem.W.Frag} {b : Bi} {M : Mem} {v : Vl} {io : Io} {H : Hp} {Q : VK} {E : XK} (h : Post K (RV K) io H (fBi b M v) Q E) :
    (∃ ds, b = .list ∧ v = .s ds ∧ Post K (RV K) io H (.ok (.p (.list ds)) M) Q E) ∨ ∃ x d, look M v = some x ∧ builtin b x = some d ∧ Post K (RV K) io H (.ok (.p d) M) Q E := by
  have go : Post K (RV K) io H (Rs.of M ((look M v).bind fun x => (builtin b x).map .p)) Q E → ∃ x d, look M v = some x ∧ builtin b x = some d ∧ Post K (RV K) io H (.ok (.p d) M) Q E := fun h => by
    obtain ⟨x, r, e1, e2, h⟩ := data1 h
    obtain ⟨d, e3, rfl⟩ := Option.map_eq_some_iff.mp e2
    exact ⟨x, d, e1, e3, h⟩
  cases v with
  | s ds =>
    cases b with
    | list => exact .inl ⟨ds, rfl, rfl, h⟩
    | _ => exact .inr (go h)
  | p d => exact .inr (go (by cases b <;> exact h))
  | r i => exact .inr (go (by cases b <;> exact h))
theorem alikes_of {ds : List D} (h : alikes ds = true) : ∀ x ∈ ds, ∀ y ∈ ds, PySem.W.alike x y = true := fun x hx y hy => List.all_eq_true.mp (List.all_eq_true.mp h x hx) y hy
theorem noNone_of {ds : List D} (h : noNone ds = true) : ∀ x ∈ ds, x ≠ .none := fun x hx => of_decide_eq_true (List.all_eq_true.mp h x hx)
theorem okE_mm {c : Bool} (hc : X.calm = true) (hu : X.A.units + 65 < cLine) (hg : Gl X (biName (if c then .max else .min))) (hm : X.mg (biName (if c then .max else .min)) = none) (hpa : Pln a) (ha : OkE X W a fa) :
    OkE X W (.Call (.Name (biName (if c then .max else .min)) p) [a] [] pos) (fun s M => (fa s M).bind fun v M1 => fBi (if c then .max else .min) M1 v) := by
  cases c with
  | true =>
    refine okE_b1 (g := fBi .max) ((cr_max hc).or ((cr_mmD hc hu true).or (cr_mmT hc hu true))) hg hm (by decide +kernel) hpa ha fun io H M u v Q E rm r h => ?_
    rcases fBi_cases h with ⟨ds, e, _⟩ | ⟨y, d, e1, e2, h⟩
    · cases e
    · cases r.db rm e1 with
      | @lst a0 xs0 ds hx hs =>
        have e2 : mmL true ds = some d := e2
        unfold mmL at e2
        cases e3 : intsOf ds with
        | none =>
          rw [e3] at e2
          obtain ⟨hz, e2⟩ := ite_of e2
          obtain ⟨h1, h2, h3⟩ := and3 hz
          obtain ⟨c1, c2⟩ := flats_lay _ _ h1
          cases ds with
          | nil => cases e2
          | cons d0 r0 =>
            cases e2
            refine .inr (.inl ⟨_, _, d0, r0, rfl, SqL.of hx, hs.dps, ⟨alikes_of h2, noNone_of h3⟩, c1, by omega, fun i x ex ed => ?_⟩)
            obtain ⟨v, ev, rv⟩ := hs.get ed
            rw [ex] at ev
            cases ev
            exact res_p h rm rv
        | some ns =>
          rw [e3] at e2
          cases ns with
          | nil => cases e2
          | cons n ns =>
            cases e2
            refine .inl ⟨_, n :: ns, rfl, by rw [← hs.ints e3]; exact SqL.of hx, by simp, fun m hm hle => ?_⟩
            have e : m = ns.foldl max n := by
              obtain ⟨h1, h2⟩ := foldl_max_le ns n
              have h3 : m ≤ ns.foldl max n := by
                rcases List.mem_cons.mp hm with rfl | hm
                · exact h1
                · exact h2 m hm
              have h4 : ns.foldl max n ≤ m := by
                rcases foldl_max_mem ns n with q | q
                · rw [q]; exact hle n List.mem_cons_self
                · exact hle _ (List.mem_cons_of_mem _ q)
              omega
            rw [e]
            exact res_p h rm (.int _)
      | @tup a0 xs0 ds hx hs =>
        have e2 : mmT true ds = some d := e2
        unfold mmT at e2
        obtain ⟨hz, e2⟩ := ite_of e2
        obtain ⟨h1, h2, h3⟩ := and3 hz
        obtain ⟨c1, c2⟩ := flats_lay _ _ h1
        cases ds with
        | nil => cases e2
        | cons d0 r0 =>
          cases e2
          refine .inr (.inr ⟨_, _, d0, r0, rfl, hx.sq, hs.dps, ⟨alikes_of h2, noNone_of h3⟩, c1, by omega, fun i x ex ed => ?_⟩)
          obtain ⟨v, ev, rv⟩ := hs.get ed
          rw [ex] at ev
          cases ev
          exact res_p h rm rv
      | _ => cases e2
  | false =>
    refine okE_b1 (g := fBi .min) ((cr_min hc).or ((cr_mmD hc hu false).or (cr_mmT hc hu false))) hg hm (by decide +kernel) hpa ha fun io H M u v Q E rm r h => ?_
    rcases fBi_cases h with ⟨ds, e, _⟩ | ⟨y, d, e1, e2, h⟩
    · cases e
    · cases r.db rm e1 with
      | @lst a0 xs0 ds hx hs =>
        have e2 : mmL false ds = some d := e2
        unfold mmL at e2
        cases e3 : intsOf ds with
        | none =>
          rw [e3] at e2
          obtain ⟨hz, e2⟩ := ite_of e2
          obtain ⟨h1, h2, h3⟩ := and3 hz
          obtain ⟨c1, c2⟩ := flats_lay _ _ h1
          cases ds with
          | nil => cases e2
          | cons d0 r0 =>
            cases e2
            refine .inr (.inl ⟨_, _, d0, r0, rfl, SqL.of hx, hs.dps, ⟨alikes_of h2, noNone_of h3⟩, c1, by omega, fun i x ex ed => ?_⟩)
            obtain ⟨v, ev, rv⟩ := hs.get ed
            rw [ex] at ev
            cases ev
            exact res_p h rm rv
        | some ns =>
          rw [e3] at e2
          cases ns with
          | nil => cases e2
          | cons n ns =>
            cases e2
            refine .inl ⟨_, n :: ns, rfl, by rw [← hs.ints e3]; exact SqL.of hx, by simp, fun m hm hle => ?_⟩
            have e : m = ns.foldl min n := by
              obtain ⟨h1, h2⟩ := foldl_min_le ns n
              have h3 : ns.foldl min n ≤ m := by
                rcases List.mem_cons.mp hm with rfl | hm
                · exact h1
                · exact h2 m hm
              have h4 : m ≤ ns.foldl min n := by
                rcases foldl_min_mem ns n with q | q
                · rw [q]; exact hle n List.mem_cons_self
                · exact hle _ (List.mem_cons_of_mem _ q)
              omega
            rw [e]
            exact res_p h rm (.int _)
      | @tup a0 xs0 ds hx hs =>
        have e2 : mmT false ds = some d := e2
        unfold mmT at e2
        obtain ⟨hz, e2⟩ := ite_of e2
        obtain ⟨h1, h2, h3⟩ := and3 hz
        obtain ⟨c1, c2⟩ := flats_lay _ _ h1
        cases ds with
        | nil => cases e2
        | cons d0 r0 =>
          cases e2
          refine .inr (.inr ⟨_, _, d0, r0, rfl, hx.sq, hs.dps, ⟨alikes_of h2, noNone_of h3⟩, c1, by omega, fun i x ex ed => ?_⟩)
          obtain ⟨v, ev, rv⟩ := hs.get ed
          rw [ex] at ev
          cases ev
          exact res_p h rm rv
      | _ => cases e2
theorem okE_bi {b : Bi} (hc : X.calm = true) (hu : X.A.units + 65 < cLine) (hg : Gl X (biName b)) (hm : X.mg (biName b) = none) (hpa : Pln a) (ha : OkE X W a fa) : OkE X W (.Call (.Name (biName b) p) [a] [] pos) (fun s M => (fa s M).bind fun v M1 => fBi b M1 v) := by
  cases b with
  | len =>
    refine okE_b1 (g := fBi .len) call_len hg hm boot_len hpa ha fun io H M u v Q E rm r h => ?_
    rcases fBi_cases h with ⟨ds, e, _⟩ | ⟨y, d, e1, e2, h⟩
    · cases e
    · cases r.db rm e1 with
      | lst hx hs => cases e2; exact ⟨_, _, rfl, .inl ⟨_, SqL.of hx, hs.length.symm⟩, res_p h rm (.int _)⟩
      | tup hx hs => cases e2; exact ⟨_, _, rfl, .inr ⟨_, hx.sq, hs.length.symm⟩, res_p h rm (.int _)⟩
      | str z =>
        obtain ⟨hz, he⟩ := ite_some e2
        subst he
        exact ⟨_, _, rfl, ⟨by rw [← line_eq]; exact hz, rfl⟩, res_p h rm (.int _)⟩
      | _ => cases e2
  | abs =>
    refine okE_b1 (g := fBi .abs) call_abs hg hm (by decide +kernel) hpa ha fun io H M u v Q E rm r h => ?_
    rcases fBi_cases h with ⟨ds, e, _⟩ | ⟨y, d, e1, e2, h⟩
    · cases e
    · cases r.db rm e1 with
      | int i => cases e2; exact ⟨i, rfl, res_p h rm (.int _)⟩
      | _ => cases e2
  | int =>
    refine okE_t1 (g := fBi .int) (call_int1.or call_int_str) hg hm (by decide +kernel) hpa ha fun io H M u v Q E rm r h => ?_
    rcases fBi_cases h with ⟨ds, e, _⟩ | ⟨y, d, e1, e2, h⟩
    · cases e
    · cases r.db rm e1 with
      | int i => cases e2; exact .inl (.inl ⟨i, rfl, res_p h rm (.int _)⟩)
      | bl i => cases e2; exact .inl (.inr ⟨i, rfl, res_p h rm (.int _)⟩)
      | str z =>
        have e2 : (if z.length ≤ 640 then (PySem.intText? z).map PyData.int else none) = some d := e2
        split at e2
        · rename_i hz
          obtain ⟨n, e3, rfl⟩ := Option.map_eq_some_iff.mp e2
          exact .inr ⟨z, n, rfl, e3, hz, res_p h rm (.int _)⟩
        · cases e2
      | _ => cases e2
  | str =>
    refine okE_t1 (g := fBi .str) (call_str_int.or SkE.call_str_str) hg hm (by decide +kernel) hpa ha fun io H M u v Q E rm r h => ?_
    rcases fBi_cases h with ⟨ds, e, _⟩ | ⟨y, d, e1, e2, h⟩
    · cases e
    · cases r.db rm e1 with
      | int i =>
        obtain ⟨hz, he⟩ := ite_some (show (if small64 i then some (PyData.str (Str.ofString (toString i))) else none) = some d from e2)
        subst he
        refine .inl ⟨i, rfl, ?_, res_p h rm (.str _)⟩
        obtain ⟨a1, a2⟩ := of_decide_eq_true hz
        have hn : i.natAbs < 2 ^ 64 := by omega
        by_cases h0 : i.natAbs = 0
        · rw [h0]; decide
        · have := (Nat.log2_lt h0 (k := 64)).mpr hn
          omega
      | str z => cases e2; exact .inr ⟨z, rfl, res_p h rm (.str _)⟩
      | _ => cases e2
  | list =>
    refine okE_t1 (g := fBi .list) call_list_of hg hm (by decide +kernel) hpa ha fun io H M u v Q E rm r h => ?_
    rcases fBi_cases h with ⟨ds, _, rfl, h⟩ | ⟨y, d, e1, e2, h⟩
    · obtain ⟨q, xs, rfl, hq, hs⟩ := r
      exact ⟨q, xs, rfl, .inl hq.sq, fun p hp => res_lst h rm hs hp⟩
    · cases r.db rm e1 with
      | lst hx hs => cases e2; exact ⟨_, _, rfl, .inl (SqL.of hx), fun p hp => res_lst h rm hs hp⟩
      | tup hx hs => cases e2; exact ⟨_, _, rfl, .inr hx.sq, fun p hp => res_lst h rm hs hp⟩
      | _ => cases e2
  | tuple =>
    refine okE_t1 (g := fBi .tuple) call_tupleK hg hm (by decide +kernel) hpa ha fun io H M u v Q E rm r h => ?_
    rcases fBi_cases h with ⟨ds, e, _⟩ | ⟨y, d, e1, e2, h⟩
    · cases e
    · cases r.db rm e1 with
      | lst hx hs => cases e2; exact ⟨_, _, rfl, .inl ⟨SqL.of hx, fun p o ko hp => res_tup h rm hs ko hp⟩⟩
      | tup hx hs => cases e2; exact ⟨_, _, rfl, .inr ⟨hx.sq, res_p h rm (.tup hx hs)⟩⟩
      | _ => cases e2
  | sum =>
    refine okE_b1 (g := fBi .sum) ((cr_sum hc).or (cr_sumT hc)) hg hm (by decide +kernel) hpa ha fun io H M u v Q E rm r h => ?_
    rcases fBi_cases h with ⟨ds, e, _⟩ | ⟨y, d, e1, e2, h⟩
    · cases e
    · cases r.db rm e1 with
      | lst hx hs =>
        obtain ⟨ns, e3, rfl⟩ := Option.map_eq_some_iff.mp e2
        exact .inl ⟨_, ns, rfl, by rw [← hs.ints e3]; exact SqL.of hx, res_p h rm (.int _)⟩
      | tup hx hs =>
        obtain ⟨ns, e3, rfl⟩ := Option.map_eq_some_iff.mp e2
        exact .inr ⟨_, ns, rfl, by rw [← hs.ints e3]; exact hx.sq, res_p h rm (.int _)⟩
      | _ => cases e2
  | all =>
    refine okE_b1 (g := fBi .all) (cr_all hc) hg hm (by decide +kernel) hpa ha fun io H M u v Q E rm r h => ?_
    rcases fBi_cases h with ⟨ds, e, _⟩ | ⟨y, d, e1, e2, h⟩
    · cases e
    · cases r.db rm e1 with
      | lst hx hs =>
        obtain ⟨ns, e3, rfl⟩ := Option.map_eq_some_iff.mp e2
        exact ⟨_, ns, rfl, by rw [← hs.bools e3]; exact SqL.of hx, res_p h rm (.bl _)⟩
      | _ => cases e2
  | any =>
    refine okE_b1 (g := fBi .any) (cr_any hc) hg hm (by decide +kernel) hpa ha fun io H M u v Q E rm r h => ?_
    rcases fBi_cases h with ⟨ds, e, _⟩ | ⟨y, d, e1, e2, h⟩
    · cases e
    · cases r.db rm e1 with
      | lst hx hs =>
        obtain ⟨ns, e3, rfl⟩ := Option.map_eq_some_iff.mp e2
        exact ⟨_, ns, rfl, by rw [← hs.bools e3]; exact SqL.of hx, res_p h rm (.bl _)⟩
      | _ => cases e2
  | max => exact okE_mm (c := true) hc hu hg hm hpa ha
  | min => exact okE_mm (c := false) hc hu hg hm hpa ha

/-! ### isinstance -/
def tyName : Ty → String
  | .int => "int" | .bool => "bool" | .str => "str" | .tuple => "tuple" | .list => "list" | .none => "NoneType"
def tyOfD : D → String
  | .none => "NoneType" | .bool _ => "bool" | .int _ => "int" | .str _ => "str" | .list _ => "list" | .tuple _ => "tuple" | .dict _ => "dict"
theorem kit_int : ∀ d : D, kitB (tyOfD d) "int" = some (isTy .int d)
  | .none => (by decide +kernel : kitB "NoneType" "int" = some false)
  | .bool _ => (by decide +kernel : kitB "bool" "int" = some true)
  | .int _ => (by decide +kernel : kitB "int" "int" = some true)
  | .str _ => (by decide +kernel : kitB "str" "int" = some false)
  | .list _ => (by decide +kernel : kitB "list" "int" = some false)
  | .tuple _ => (by decide +kernel : kitB "tuple" "int" = some false)
  | .dict _ => (by decide +kernel : kitB "dict" "int" = some false)
theorem kit_bool : ∀ d : D, kitB (tyOfD d) "bool" = some (isTy .bool d)
  | .none => (by decide +kernel : kitB "NoneType" "bool" = some false)
  | .bool _ => (by decide +kernel : kitB "bool" "bool" = some true)
  | .int _ => (by decide +kernel : kitB "int" "bool" = some false)
  | .str _ => (by decide +kernel : kitB "str" "bool" = some false)
  | .list _ => (by decide +kernel : kitB "list" "bool" = some false)
  | .tuple _ => (by decide +kernel : kitB "tuple" "bool" = some false)
  | .dict _ => (by decide +kernel : kitB "dict" "bool" = some false)
theorem kit_str : ∀ d : D, kitB (tyOfD d) "str" = some (isTy .str d)
  | .none => (by decide +kernel : kitB "NoneType" "str" = some false)
  | .bool _ => (by decide +kernel : kitB "bool" "str" = some false)
  | .int _ => (by decide +kernel : kitB "int" "str" = some false)
  | .str _ => (by decide +kernel : kitB "str" "str" = some true)
  | .list _ => (by decide +kernel : kitB "list" "str" = some false)
  | .tuple _ => (by decide +kernel : kitB "tuple" "str" = some false)
  | .dict _ => (by decide +kernel : kitB "dict" "str" = some false)
theorem kit_tuple : ∀ d : D, kitB (tyOfD d) "tuple" = some (isTy .tuple d)
  | .none => (by decide +kernel : kitB "NoneType" "tuple" = some false)
  | .bool _ => (by decide +kernel : kitB "bool" "tuple" = some false)
  | .int _ => (by decide +kernel : kitB "int" "tuple" = some false)
  | .str _ => (by decide +kernel : kitB "str" "tuple" = some false)
  | .list _ => (by decide +kernel : kitB "list" "tuple" = some false)
  | .tuple _ => (by decide +kernel : kitB "tuple" "tuple" = some true)
  | .dict _ => (by decide +kernel : kitB "dict" "tuple" = some false)
theorem kit_list : ∀ d : D, kitB (tyOfD d) "list" = some (isTy .list d)
  | .none => (by decide +kernel : kitB "NoneType" "list" = some false)
  | .bool _ => (by decide +kernel : kitB "bool" "list" = some false)
  | .int _ => (by decide +kernel : kitB "int" "list" = some false)
  | .str _ => (by decide +kernel : kitB "str" "list" = some false)
  | .list _ => (by decide +kernel : kitB "list" "list" = some true)
  | .tuple _ => (by decide +kernel : kitB "tuple" "list" = some false)
  | .dict _ => (by decide +kernel : kitB "dict" "list" = some false)
theorem DB.tyx {io : Io} {K : PySem.W.Frag} {H : Hp} {u : V} {d : D} (r : DB io K H u d) : TyX K H u (.type (tyOfD d)) := by
  cases r with
  | non => exact .base .non
  | bl b => exact .base (.bl b)
  | int i => exact .base (.int i)
  | str x => exact .base (.str x)
  | lst h _ => exact .base (.lst h)
  | tup h _ =>
    rcases h with ⟨⟨o, h, _⟩, _⟩ | ⟨o, its, n, h, hc, _⟩
    · exact .fTuple h
    · exact .kTuple h hc
theorem DB.nodict {io : Io} {K : PySem.W.Frag} {H : Hp} {u : V} {d : D} (r : DB io K H u d) : ∀ k, d ≠ .dict k := by
  intro k e
  subst e
  cases r
theorem okE_isi {ty : Ty} (hty : ty ≠ .none) (hg : Gl X "isinstance") (hm : X.mg "isinstance" = none) (hgt : Gl X (Str.ofString (tyName ty))) (hmt : X.mg (Str.ofString (tyName ty)) = none) (hpa : Pln a) (ha : OkE X W a fa) {p2 : Pos} :
    OkE X W (.Call (.Name "isinstance" p) [a, .Name (Str.ofString (tyName ty)) p2] [] pos) (fun s M => (fa s M).bind fun v M1 => Rs.of M1 ((look M1 v).map fun x => .p (.bool (isTy ty x)))) := by
  obtain ⟨t, pe, se⟩ := ha
  have hb : PE X (.Name (Str.ofString (tyName ty)) p2) (tC (.ty (tyName ty))) := by
    cases ty <;> first | exact absurd rfl hty | exact pe_bltn (u := .type _) hgt hmt (by decide +kernel) rfl (by decide) (by decide)
  refine ⟨_, pe_callB call_isi hg hm (by decide +kernel) (pa_cons pe (pa_cons hb pa_nil) (star_of hpa)) (by decide) (by decide) (star_of hpa) rfl, fun io s H sg M Q rs rm hp => ?_⟩
  refine se io s H sg M _ rs rm (hp.seq fun x M1 io1 H1 u1 e1 g1 rm1 r1 hp1 => ?_)
  cases e2 : look M1 x with
  | none => rw [e2] at hp1; exact hp1.elim
  | some d =>
    rw [e2] at hp1
    have rd := r1.db rm1 e2
    refine ⟨u1, .ty (tyName ty), _, .type (tyName ty), isTy ty d, rfl, .ty _, rd.tyx, kit_ty ?_, res_p hp1 rm1 (.bl _)⟩
    cases ty with
    | int => exact kit_int d
    | bool => exact kit_bool d
    | str => exact kit_str d
    | tuple => exact kit_tuple d
    | list => exact kit_list d
    | none => exact absurd rfl hty

/-! ### ranges -/
theorem rangeV {io : Io} {K : PySem.W.Frag} {H : Hp} (i j : Int) : DVs io K H (rgV i j) (rangeD i j) := by
  unfold rgV rangeD
  have z : ∀ l : List Nat, DVs io K H (l.map fun k => V.int (i + (k : Nat))) (l.map fun (k : Nat) => PyData.int (i + k)) := by
    intro l
    induction l with
    | nil => exact .nil
    | cons n l ih => exact .cons (.int _) ih
  exact z _
theorem rangeD_length (i j : Int) : (rangeD i j).length = (j - i).toNat := by unfold rangeD; rw [List.length_map, List.length_range]
theorem rng_ok {K : PySem.W.Frag} {io : Io} {H : Hp} {M : Mem} {Q : VK} {E : XK} {i j : Int} (rm : RM io K H M) (hi : big62 i = true) (hj : big62 j = true) (tupl : Bool)
    (h : Post K (RV K) io H (Rs.of M (if (rangeD i j).length ≤ line then some (.p (if tupl then .tuple (rangeD i j) else .list (rangeD i j))) else none)) Q E) :
    RgOk i j ∧ (tupl = false → ∀ q, H q = none → Q (.ref q) (upd H q (.lst (rgV i j)))) ∧ (tupl = true → ∀ q o, KTup o → H q = none → Q (.ref q) (upd H q (.frz o (.tup (rgV i j))))) := by
  by_cases hl : (rangeD i j).length ≤ line
  · rw [if_pos hl] at h
    obtain ⟨a1, a2⟩ := of_decide_eq_true hi
    obtain ⟨b1, b2⟩ := of_decide_eq_true hj
    refine ⟨⟨a1, a2, b1, b2, by rw [rangeD_length] at hl; exact hl⟩, fun e q hq => ?_, fun e q o ko hq => ?_⟩
    · subst e
      exact res_lst h rm (rangeV i j) hq
    · subst e
      exact res_tup h rm (rangeV i j) ko hq
  · rw [if_neg hl] at h
    exact h.elim
theorem okE_rng1 {tupl : Bool} (hc : X.calm = true) (hg : Gl X "range") (hm : X.mg "range" = none) (hgt : Gl X (if tupl then "tuple" else "list")) (hmt : X.mg (if tupl then "tuple" else "list") = none) (hpa : Pln a) (ha : OkE X W a fa) {p2 pos2 : Pos} :
    OkE X W (.Call (.Name (if tupl then "tuple" else "list") p) [.Call (.Name "range" p2) [a] [] pos2] [] pos) (fun s M => (fa s M).bind fun v M1 => fRng tupl [v] M1) := by
  obtain ⟨t, pe, se⟩ := ha
  have pr : PRg X (.Call (.Name "range" p2) [a] [] pos2) (tRg1 t) := prg_1 hg hm pe (star_of hpa)
  have key : ∀ (io : Io) (s : L2.St) (H : Hp) (sg : Sg) (M : Mem) (Q : VK) (R : Int → Int → Hp → Prop), RS io X.K H s sg → RM io X.K H M → Post X.K (RV X.K) io H ((fa sg M).bind fun v M1 => fRng tupl [v] M1) Q (fun cls d H' => W cls d s H') →
      (∀ i j H1, RgOk i j ∧ (tupl = false → ∀ q, H1 q = none → Q (.ref q) (upd H1 q (.lst (rgV i j)))) ∧ (tupl = true → ∀ q o, KTup o → H1 q = none → Q (.ref q) (upd H1 q (.frz o (.tup (rgV i j))))) → R i j H1) → tRg1 t s H R := by
    intro io s H sg M Q R rs rm hp hR
    refine se io s H sg M _ rs rm (hp.seq fun x M1 io1 H1 u1 e1 g1 rm1 r1 hp1 => ?_)
    cases x with
    | p d =>
      cases r1 with
      | int j =>
        refine ⟨j, rfl, hR _ _ _ ?_⟩
        unfold fRng rangeOf at hp1
        by_cases hj : big62 j = true
        · simp only [if_pos hj, Option.bind_some] at hp1
          exact rng_ok rm1 (by decide) hj tupl hp1
        · simp only [if_neg hj, Option.bind_none] at hp1
          exact hp1.elim
      | _ => exact hp1.elim
    | r i => exact hp1.elim
    | s ds => exact hp1.elim
  cases tupl with
  | false => exact ⟨_, pe_listRg hc hgt hmt pr rfl, fun io s H sg M Q rs rm hp => key io s H sg M Q _ rs rm hp fun i j H1 z => ⟨z.1, z.2.1 rfl⟩⟩
  | true => exact ⟨_, pe_tupRgK hc hgt hmt pr rfl, fun io s H sg M Q rs rm hp => key io s H sg M Q _ rs rm hp fun i j H1 z => ⟨z.1, z.2.2 rfl⟩⟩
theorem okE_rng2 {tupl : Bool} (hc : X.calm = true) (hg : Gl X "range") (hm : X.mg "range" = none) (hgt : Gl X (if tupl then "tuple" else "list")) (hmt : X.mg (if tupl then "tuple" else "list") = none) (hpa : Pln a) (hpb : Pln b) (ha : OkE X W a fa) (hb : OkE X W b fb) {p2 pos2 : Pos} :
    OkE X W (.Call (.Name (if tupl then "tuple" else "list") p) [.Call (.Name "range" p2) [a, b] [] pos2] [] pos) (fun s M => (fa s M).bind fun v M1 => (fb s M1).bind fun w M2 => fRng tupl [v, w] M2) := by
  obtain ⟨t, pe, se⟩ := ha
  obtain ⟨t', pe', se'⟩ := hb
  have pr : PRg X (.Call (.Name "range" p2) [a, b] [] pos2) (tRg2 t t') := prg_2 hg hm pe pe' (star_of hpa) (star_of hpb) (any_of ⟨hpb, trivial⟩)
  have key : ∀ (io : Io) (s : L2.St) (H : Hp) (sg : Sg) (M : Mem) (Q : VK) (R : Int → Int → Hp → Prop), RS io X.K H s sg → RM io X.K H M → Post X.K (RV X.K) io H ((fa sg M).bind fun v M1 => (fb sg M1).bind fun w M2 => fRng tupl [v, w] M2) Q (fun cls d H' => W cls d s H') →
      (∀ i j H1, RgOk i j ∧ (tupl = false → ∀ q, H1 q = none → Q (.ref q) (upd H1 q (.lst (rgV i j)))) ∧ (tupl = true → ∀ q o, KTup o → H1 q = none → Q (.ref q) (upd H1 q (.frz o (.tup (rgV i j))))) → R i j H1) → tRg2 t t' s H R := by
    intro io s H sg M Q R rs rm hp hR
    refine se io s H sg M _ rs rm (hp.seq fun x M1 io1 H1 u1 e1 g1 rm1 r1 hp1 => ?_)
    refine se' io1 s H1 sg M1 _ (rs.mono g1) rm1 (hp1.seq fun y M2 io2 H2 u2 e2 g2 rm2 r2 hp2 => ?_)
    cases x with
    | p d =>
      cases y with
      | p d' =>
        cases r1 with
        | int i =>
          cases r2 with
          | int j =>
            refine ⟨i, j, rfl, rfl, hR _ _ _ ?_⟩
            unfold fRng rangeOf at hp2
            by_cases hj : (big62 i && big62 j) = true
            · simp only [if_pos hj, Option.bind_some] at hp2
              obtain ⟨h1, h2⟩ := Bool.and_eq_true_iff.mp hj
              exact rng_ok rm2 h1 h2 tupl hp2
            · simp only [if_neg hj, Option.bind_none] at hp2
              exact hp2.elim
          | _ => exact hp2.elim
        | _ => cases d' <;> exact hp2.elim
      | r i => cases d <;> exact hp2.elim
      | s ds => cases d <;> exact hp2.elim
    | r i => exact hp2.elim
    | s ds => exact hp2.elim
  cases tupl with
  | false => exact ⟨_, pe_listRg hc hgt hmt pr rfl, fun io s H sg M Q rs rm hp => key io s H sg M Q _ rs rm hp fun i j H1 z => ⟨z.1, z.2.1 rfl⟩⟩
  | true => exact ⟨_, pe_tupRgK hc hgt hmt pr rfl, fun io s H sg M Q rs rm hp => key io s H sg M Q _ rs rm hp fun i j H1 z => ⟨z.1, z.2.2 rfl⟩⟩

/-! ### calls of the text's own defs -/
/-- what a def promises, by its meaning over data -/
def spF (K : PySem.W.Frag) (f : List Vl → Mem → Rs Vl) (k : Nat) : Sp := fun vs H Q E =>
  ∃ (io : Io) (args : List Vl) (M : Mem), VVs io K H vs args ∧ RM io K H M ∧ args.length = k ∧ Post K (RV K) io H (f args M) Q E
theorem okE_call {n k : Nat} {f : Addr} {fd : FuncData} {ps : List Str} {F : List Vl → Mem → Rs Vl} (Fk : FnOk X.prog X.w X.K X.mg X.base (L2.CX X.prog X.w) n f fd ps (spF X.K F k)) (hr : Room n X.A) (hg : Gl X x) (hm : X.mg x = some (.ref f))
    (hk : PySem.W.keepIn X.K (.ref f) = true) (hb : Binds X.K fd ps []) (tk : Takes X W) (hd : (x == ("__debug__" : Str)) = false) (hp : Pln e) (hps : AllP es) (ha : OkA X W (e :: es) fs) (hl : ∀ g M vs M', fs g M = .ok vs M' → vs.length = k) :
    OkE X W (.Call (.Name x p) (e :: es) [] pos) (fun s M => (fs s M).bind fun vs M1 => F vs M1) := by
  obtain ⟨t, pa, sa⟩ := ha
  refine ⟨_, pe_callS Fk hr hg hm hk hb (E := WE W) (fun s => passAt tk s) pa hd (star_of hp) (any_of hps), fun io s H sg M Q rs rm hp => ?_⟩
  refine sa io s H sg M _ rs rm (hp.seq fun vs M1 io1 H1 us e1 g1 rm1 r1 hp1 => ?_)
  exact ⟨io1, vs, M1, r1, rm1, hl _ _ _ _ e1, hp1⟩
end
end Eg

/-! Engine, part G: targets, what is walked, comprehensions. By an AI agent. -/
namespace Eg
open PySem PySem.Spec PyProof.Rows L2

/-! ### targets -/
def TnOk (X : Cx) (i : Nat) (x : Str) : Prop := X.N[i]? = some x ∧ Loc X.env.scope x ∧ (X.fn x = true ∨ X.env.scope.names.lookup x = some .local)
def gsT : List Nat → TGs
  | [] => gNil
  | i :: is => gCons (gName i) (gsT is)
def tgT (K : PySem.W.Frag) : Tg → TG
  | .nm i => gName i
  | .tp is => fun v σ H Q => gTup K is.length (gsT is) v σ H Q ∨ gLst K is.length (gsT is) v σ H Q
def tgSlots : Tg → List Nat
  | .nm i => [i]
  | .tp is => is
def TgsOk (X : Cx) : List Nat → List Expr → Prop
  | [], [] => True
  | i :: is, e :: es => (∃ x p, e = .Name x p ∧ TnOk X i x) ∧ TgsOk X is es
  | _, _ => False
def TgOk (X : Cx) : Tg → Expr → Prop
  | .nm i, e => ∃ x p, e = .Name x p ∧ TnOk X i x
  | .tp is, e => ∃ es k p, e = .Tuple es k p ∧ TgsOk X is es
/-- a target of several names -/
def isTp (e : Expr) : Prop := match e with
  | .Tuple _ _ _ => True
  | _ => False
theorem tgOk_pr {X : Cx} {tgx : Tg} {e : Expr} (h : TgOk X tgx e) (hp : isTp e) : ∃ is, tgx = .tp is := by
  cases tgx with
  | nm i =>
    obtain ⟨x, p, rfl, _⟩ := h
    exact hp.elim
  | tp is => exact ⟨is, rfl⟩
/-- what a walk gives: data, or a pair just made, that is at once taken apart -/
def DT (pr : Prop) (io : Io) (K : PySem.W.Frag) (H : Hp) (x : V) (d : D) : Prop :=
  DV io K H x d ∨ (pr ∧ ∃ a xs ds, x = .ref a ∧ d = .tuple ds ∧ H a = some (.tup xs) ∧ DVs io K H xs ds)
section
variable {X : Cx}
theorem pgs_ok (hN : X.N.Nodup) : ∀ {is : List Nat} {es : List Expr}, TgsOk X is es → PGs X es (gsT is)
  | [], [], _ => pgs_nil
  | i :: is, e :: es, h => by
    obtain ⟨⟨x, p, rfl, h1, h2, h3⟩, h4⟩ := h
    exact pgs_cons (pg_name hN h1 h2 h3) (pgs_ok hN h4) rfl
  | [], _ :: _, h => h.elim
  | _ :: _, [], h => h.elim
theorem tgs_len {env : Env} : ∀ {is : List Nat} {es : List Expr}, TgsOk X is es → (assignEach es env).length = is.length ∧ (assignEach es env).findIdx? (·.1) = none
  | [], [], _ => ⟨rfl, rfl⟩
  | i :: is, e :: es, h => by
    obtain ⟨⟨x, p, rfl, _⟩, h4⟩ := h
    obtain ⟨a, b⟩ := tgs_len (env := env) h4
    refine ⟨by show (assignEach es env).length + 1 = _; rw [a]; rfl, ?_⟩
    show List.findIdx? (·.1) ((false, assign (.Name x p) env) :: assignEach es env) = none
    rw [List.findIdx?_cons, b]
    rfl
  | [], _ :: _, h => h.elim
  | _ :: _, [], h => h.elim
theorem pg_ok (hN : X.N.Nodup) (hc : X.calm = true) {tg : Tg} {e : Expr} (h : TgOk X tg e) : PG X e (tgT X.K tg) := by
  cases tg with
  | nm i =>
    obtain ⟨x, p, rfl, h1, h2, h3⟩ := h
    exact pg_name hN h1 h2 h3
  | tp is =>
    obtain ⟨es, k, p, rfl, h⟩ := h
    obtain ⟨a, b⟩ := tgs_len (env := X.env) h
    have g1 : PG X (.Tuple es k p) (gTup X.K is.length (gsT is)) := pg_tup hc (pgs_ok hN h) a b
    have g2 : PG X (.Tuple es k p) (gLst X.K is.length (gsT is)) := pg_lst hc (pgs_ok hN h) a b
    exact ⟨fun pins s σ H v u Q I r hw => hw.elim (fun hw => g1.run pins s σ H v u Q I r hw) fun hw => g2.run pins s σ H v u Q I r hw⟩
theorem wipe_set {i : Nat} {v : V} : ∀ {vs : List Nat} {s : L2.St}, i ∈ vs → L2.wipe (s.set i (some v)) vs = L2.wipe s vs
  | w :: vs, s, h => by
    unfold L2.wipe
    by_cases hi : i ∈ vs
    · rw [wipe_set hi]
    · have e : w = i := by
        rcases List.mem_cons.mp h with z | z
        · exact z.symm
        · exact absurd z hi
      subst e
      have go : ∀ {vs : List Nat}, w ∉ vs → L2.wipe (s.set w (some v)) vs = (L2.wipe s vs).set w (some v) := by
        intro vs
        induction vs with
        | nil => intro _; rfl
        | cons z vs ih =>
          intro hn
          unfold L2.wipe
          rw [ih (fun q => hn (List.mem_cons_of_mem _ q)), List.set_comm]
          exact fun q => hn (q ▸ List.mem_cons_self)
      rw [go hi, List.set_set]
  | [], _, h => by cases h
/-- what a store asks -/
theorem sgs_ok {io : Io} {K : PySem.W.Frag} {H : Hp} : ∀ {is : List Nat} {vs : List V} {ds : List D} {s : L2.St} {g g' : Sg} {Q : L2.St → Hp → Prop}, RS io K H s g → DVs io K H vs ds → putAll is ds g = some g' →
    (∀ s', RS io K H s' g' → (∀ ws, (∀ i ∈ is, i ∈ ws) → L2.wipe s' ws = L2.wipe s ws) → Q s' H) → gsT is vs s H Q
  | [], _, _, s, g, g', Q, rs, .nil, e, h => by
    cases e
    exact ⟨rfl, h s rs fun _ _ => rfl⟩
  | [], _, _, _, _, _, _, _, .cons _ _, e, _ => by cases e
  | _ :: _, _, _, _, _, _, _, _, .nil, e, _ => by cases e
  | i :: is, _, _, s, g, g', Q, rs, .cons (v := v) (d := d) r hs, e, h => by
    refine ⟨v, _, rfl, ?_⟩
    refine sgs_ok (rs.set i (v := .p d) r) hs e fun s' rs' hw => h s' rs' fun ws hi => ?_
    rw [hw ws fun j hj => hi j (List.mem_cons_of_mem _ hj), wipe_set (hi i List.mem_cons_self)]
theorem putAll_len : ∀ {is : List Nat} {ds : List D} {g g' : Sg}, putAll is ds g = some g' → ds.length = is.length
  | [], [], _, _, _ => rfl
  | [], _ :: _, _, _, e => by cases e
  | _ :: _, [], _, _, e => by cases e
  | i :: is, d :: ds, _, _, e => by
    rw [List.length_cons, List.length_cons, putAll_len (show putAll is ds _ = some _ from e)]
theorem sg_ok {pr : Prop} {io : Io} {K : PySem.W.Frag} {H : Hp} {tg : Tg} {u : V} {d : D} {s : L2.St} {g g' : Sg} {Q : L2.St → Hp → Prop} (rs : RS io K H s g) (hpr : pr → ∃ is, tg = .tp is) (r : DT pr io K H u d) (e : store tg d g = some g')
    (h : ∀ s', RS io K H s' g' → (∀ ws, (∀ i ∈ tgSlots tg, i ∈ ws) → L2.wipe s' ws = L2.wipe s ws) → Q s' H) : tgT K tg u s H Q := by
  rcases r with r | ⟨hp, a, xs, ds, rfl, rfl, hx, hs⟩
  · cases tg with
    | nm i =>
      cases e
      exact h _ (rs.set i (v := .p d) r) fun ws hi => wipe_set (hi i List.mem_cons_self)
    | tp is =>
      cases r with
      | lst hx _ hs =>
        have e' : putAll is _ g = some g' := e
        exact .inr ⟨_, _, rfl, SqL.of hx, by rw [hs.length]; exact putAll_len e', sgs_ok rs hs e' h⟩
      | tup hx hs =>
        have e' : putAll is _ g = some g' := e
        exact .inl ⟨_, _, rfl, hx.sq, by rw [hs.length]; exact putAll_len e', sgs_ok rs hs e' h⟩
      | _ => cases e
  · obtain ⟨is, rfl⟩ := hpr hp
    have e' : putAll is _ g = some g' := e
    exact .inl ⟨_, _, rfl, SqT.of hx, by rw [hs.length]; exact putAll_len e', sgs_ok rs hs e' h⟩

/-! ### what is walked -/
def IW (pr : Prop) (K : PySem.W.Frag) (io : Io) (H : Hp) (J : L2.It) (w : Wk) : Prop :=
  ∃ (G : Hp → Prop) (Y : Nat → Hp → V → Hp → Prop), Walk J w.items.length G Y ∧ (∀ io' H' M', Gr io H io' H' → RM io' K H' M' → w.ok M' = true → G H') ∧
    ∀ i H1 x H2 d io1 M1, w.items[i]? = some d → Gr io H io1 H1 → RM io1 K H1 M1 → w.ok M1 = true → Y i H1 x H2 → Gr io1 H1 io1 H2 ∧ RM io1 K H2 M1 ∧ DT pr io1 K H2 x d
def SI (pr : Prop) (X : Cx) (W : WX) (wi : TI) (f : Sg → Mem → Rs Wk) : Prop :=
  ∀ (io : Io) (s : L2.St) (H : Hp) (g : Sg) (M : Mem) (R : L2.It → Hp → Prop), RS io X.K H s g → RM io X.K H M → Post X.K (fun io H J w => IW pr X.K io H J w) io H (f g M) R (fun cls d H' => W cls d s H') → wi s H R
def OkI (X : Cx) (W : WX) (tg e : Expr) (f : Sg → Mem → Rs Wk) : Prop := (∃ wi, PI X tg e wi ∧ SI (isTp tg) X W wi f) ∧ ∀ g M w M', f g M = .ok w M' → w.ok M' = true
/-- a list or a tuple -/
theorem pi_seq {tg l : Expr} {tl : TE} (hl : PE X l tl) : PI X tg l (fun σ H R => tl σ H fun x H1 => (∃ a, x = .ref a ∧ (∃ xs, SqL X.K H1 a xs) ∧ R (Itl X.K a) H1) ∨ (∃ a, x = .ref a ∧ (∃ xs, SqT X.K H1 a xs) ∧ R (Itt X.K a) H1) ∨ (∃ z, x = .str z ∧ R (Its z) H1)) := by
  have p1 : PI X tg l (iList X.K tl) := pi_list hl
  refine ⟨fun pins s σ H R I h => ?_⟩
  refine thn (hl.run pins s σ H _ I h) fun v s1 ⟨x, H1, I1, r1, q1⟩ => ?_
  rcases q1 with ⟨a, e, ⟨xs, hq⟩, q⟩ | ⟨a, e, ⟨xs, hq⟩, q⟩ | ⟨z, e, q⟩
  · subst e
    cases r1
    obtain ⟨its, rv, p, hz⟩ := I1.list hq
    refine wpAny_pyIter_list p.isList ?_
    refine ⟨s1.heap.objs.size, [s1.heap.objs.size], _, _, H1, rfl, I1.kept (t' := s1.toks) fun b o e => Heap.get?_push_of_some _ e, turn_list a _, ⟨_, Heap.get?_push_size _ rfl, rfl, rfl⟩, fun b hb => ?_, q⟩
    have e : b = s1.heap.objs.size := by simpa using hb
    subst e
    exact I1.fpOk (Nat.le_refl _) (I1.hok.fresh (Nat.le_refl _))
  · subst e
    cases r1
    obtain ⟨its, rv, p, hz⟩ := I1.tuple hq
    refine wpAny_pyIter_tuple (show s1.heap.IsTuple a its.toArray from p) ?_
    refine ⟨s1.heap.objs.size, [s1.heap.objs.size], _, _, H1, rfl, I1.kept (t' := s1.toks) fun b o e => Heap.get?_push_of_some _ e, turn_tuple a _, ⟨_, Heap.get?_push_size _ rfl, rfl, rfl⟩, fun b hb => ?_, q⟩
    have e : b = s1.heap.objs.size := by simpa using hb
    subst e
    exact I1.fpOk (Nat.le_refl _) (I1.hok.fresh (Nat.le_refl _))
  · subst e
    obtain ⟨t, rfl⟩ := r1
    cases ha : z.cps.all (· < 128)
    · exact wpAny_pyIter_wide ha (pi_one (tk := s1.toks) I1 _ (turn_str _ z t "str_iterator" (.inr rfl)) ⟨_, Heap.get?_push_size _ rfl, rfl, rfl⟩ q)
    · exact wpAny_pyIter_ascii ha (pi_one (tk := s1.toks) I1 _ (turn_str _ z t "str_ascii_iterator" (.inl rfl)) ⟨_, Heap.get?_push_size _ rfl, rfl, rfl⟩ q)
theorem iw_lst {pr : Prop} {K : PySem.W.Frag} {io : Io} {H : Hp} {a : Addr} {xs : List V} {ds : List D} (h : H a = some (.lst xs)) (hn : a ∉ io.no) (hs : DVs io K H xs ds)   : IW pr K io H (Itl K a) ⟨ds, none⟩ := by
  refine ⟨fun H => SqL K H a xs, YAt xs, by rw [← hs.length]; exact walk_list, fun io' H' M' g _ _ => SqL.of (g.kp h hn), fun i H1 x H2 d io1 M1 e g rm _ y => ?_⟩
  obtain ⟨rfl, e2⟩ := y
  obtain ⟨v, e3, r⟩ := hs.get e
  rw [e2] at e3
  cases e3
  exact ⟨.refl, rm, .inl (r.mono g)⟩
theorem iw_tup {pr : Prop} {K : PySem.W.Frag} {io : Io} {H : Hp} {a : Addr} {xs : List V} {ds : List D} (h : TQ io K H a xs) (hs : DVs io K H xs ds)   : IW pr K io H (Itt K a) ⟨ds, none⟩ := by
  refine ⟨fun H => SqT K H a xs, YAt xs, by rw [← hs.length]; exact walk_tup, fun io' H' M' g _ _ => (h.mono g).sq, fun i H1 x H2 d io1 M1 e g rm _ y => ?_⟩
  obtain ⟨rfl, e2⟩ := y
  obtain ⟨v, e3, r⟩ := hs.get e
  rw [e2] at e3
  cases e3
  exact ⟨.refl, rm, .inl (r.mono g)⟩
/-- a list of the memory -/
theorem iw_mem {pr : Prop} {K : PySem.W.Frag} {io : Io} {H : Hp} {i : Nat} {a : Addr} {ds : List D} (ha : io.ids[i]? = some a)   : IW pr K io H (Itl K a) ⟨ds, some i⟩ := by
  refine ⟨fun H => ∃ xs, H a = some (.lst xs) ∧ xs.length = ds.length, fun j H v H' => H' = H ∧ ∀ xs, H a = some (.lst xs) → xs[j]? = some v,
    ⟨fun j H hj ⟨xs, e, l⟩ => ⟨xs, xs[j]'(by rw [l]; exact hj), SqL.of e, by simp⟩, fun H ⟨xs, e, l⟩ => ⟨xs, SqL.of e, by rw [l]; exact Nat.le_refl _⟩, fun j H v H' _ _ y => ⟨y.1, fun xs e => y.2 xs (SqL.of e)⟩⟩,
    fun io' H' M' g rm ok => ?_, fun j H1 x H2 d io1 M1 e g rm ok y => ?_⟩
  · obtain ⟨xs, e, hs⟩ := rm.list (prefix_get g.pre ha) (of_decide_eq_true ok)
    exact ⟨xs, e, hs.length⟩
  · obtain ⟨rfl, y⟩ := y
    obtain ⟨xs, e1, hs⟩ := rm.list (prefix_get g.pre ha) (of_decide_eq_true ok)
    obtain ⟨v, e3, r⟩ := hs.get e
    rw [y xs e1] at e3
    cases e3
    exact ⟨.refl, rm, .inl r⟩
theorem iw_str {pr : Prop} {K : PySem.W.Frag} {io : Io} {H : Hp} (z : Str) : IW pr K io H (Its z) ⟨z.cps.toList.map fun c => .str (chS c), none⟩ := by
  refine ⟨fun _ => True, fun i H v H' => H' = H ∧ ∃ c, z.cps[i]? = some c ∧ v = .str ⟨#[c]⟩, ?_, fun _ _ _ _ _ _ => trivial, fun i H1 x H2 d io1 M1 e g rm _ y => ?_⟩
  · have : (⟨z.cps.toList.map fun c => PyData.str (chS c), none⟩ : Wk).items.length = z.cps.size := by simp
    rw [this]
    exact walk_str
  · obtain ⟨rfl, c, ec, rfl⟩ := y
    have e : (z.cps.toList.map fun c => PyData.str (chS c))[i]? = some d := e
    rw [List.getElem?_map] at e
    obtain ⟨c', e1, rfl⟩ := Option.map_eq_some_iff.mp e
    have : c' = c := by
      rw [Array.getElem?_toList] at e1
      rw [ec] at e1
      exact (Option.some.inj e1).symm
    subst this
    exact ⟨.refl, rm, .inl (.str _)⟩
theorem walkOf_ok {M : Mem} {v : Vl} {w : Wk} (h : walkOf M v = some w) : w.ok M = true := by
  cases v with
  | p d => cases d <;> cases h <;> rfl
  | r i =>
    unfold walkOf at h
    dsimp only at h
    cases e : M[i]? with
    | none => rw [e] at h; cases h
    | some o =>
      rw [e] at h
      cases o with
      | lst ds =>
        cases h
        unfold Wk.ok
        exact decide_eq_true e
      | dic _ => cases h
      | dit _ => cases h
      | ins _ _ => cases h
  | s ds => cases h
variable {W : WX} {a b c e tg : Expr} {es : List Expr} {pos p : Pos} {fa fb fc : Sg → Mem → Rs Vl} {fs : Sg → Mem → Rs (List Vl)} {ft : Sg → Mem → Rs Bool} {x : Str}
theorem okI_sq (ha : OkE X W a fa) : OkI X W tg a (fun s M => (fa s M).bind fun v M1 => Rs.of M1 (walkOf M1 v)) := by
  obtain ⟨t, pe, se⟩ := ha
  refine ⟨⟨_, pi_seq pe, fun io s H sg M R rs rm hp => ?_⟩, fun g M w M' h => ?_⟩
  · refine se io s H sg M _ rs rm (hp.seq fun x M1 io1 H1 u1 e1 g1 rm1 r1 hp1 => ?_)
    cases x with
    | p d =>
      cases r1 with
      | lst hx hn hs => exact .inl ⟨_, rfl, ⟨_, SqL.of hx⟩, hp1.done rm1 (iw_lst hx hn hs)⟩
      | tup hx hs => exact .inr (.inl ⟨_, rfl, ⟨_, hx.sq⟩, hp1.done rm1 (iw_tup hx hs)⟩)
      | str z => exact .inr (.inr ⟨z, rfl, hp1.done rm1 (iw_str z)⟩)
      | _ => exact hp1.elim
    | r i =>
      obtain ⟨q, rfl, hq⟩ := r1
      unfold walkOf at hp1
      dsimp only at hp1
      cases e2 : M1[i]? with
      | none => rw [e2] at hp1; exact hp1.elim
      | some o =>
        rw [e2] at hp1
        cases o with
        | lst ds =>
          obtain ⟨xs, hx, hs⟩ := rm1.list hq e2
          exact .inl ⟨q, rfl, ⟨xs, SqL.of hx⟩, hp1.done rm1 (iw_mem hq)⟩
        | dic _ => exact hp1.elim
        | dit _ => exact hp1.elim
        | ins _ _ => exact hp1.elim
    | s ds => exact hp1.elim
  · obtain ⟨v, M1, _, h⟩ := bind_ok_of h
    cases e : walkOf M1 v with
    | none => rw [e] at h; cases h
    | some w' => rw [e] at h; cases h; exact walkOf_ok e
theorem iw_rng {pr : Prop} {K : PySem.W.Frag} {io : Io} {H : Hp} (lo hi : Int)   : IW pr K io H (Itr lo (hi - lo).toNat) ⟨rangeD lo hi, none⟩ := by
  refine ⟨fun _ => True, YFn fun i => .int (lo + i), by rw [show (⟨rangeD lo hi, none⟩ : Wk).items.length = (hi - lo).toNat from rangeD_length lo hi]; exact walk_range, fun _ _ _ _ _ _ => trivial, fun i H1 x H2 d io1 M1 e g rm _ y => ?_⟩
  obtain ⟨rfl, rfl⟩ := y
  refine ⟨.refl, rm, .inl ?_⟩
  have e : (rangeD lo hi)[i]? = some d := e
  unfold rangeD at e
  rw [List.getElem?_map] at e
  obtain ⟨k, e1, rfl⟩ := Option.map_eq_some_iff.mp e
  have hi : k = i := by
    obtain ⟨_, q⟩ := List.getElem?_eq_some_iff.mp e1
    rw [List.getElem_range] at q
    exact q.symm
  subst hi
  exact .int _
theorem fRw_ok {vs : List Vl} {M M' : Mem} {w : Wk} (h : fRw vs M = .ok w M') : w.ok M' = true := by
  unfold fRw at h
  cases e : rangeOf vs with
  | none => rw [e] at h; cases h
  | some ds => rw [e] at h; cases h; rfl
theorem okI_rng1 (hg : Gl X "range") (hm : X.mg "range" = none) (hpa : Pln a) (ha : OkE X W a fa) : OkI X W tg (.Call (.Name "range" p) [a] [] pos) (fun s M => (fa s M).bind fun v M1 => fRw [v] M1) := by
  obtain ⟨t, pe, se⟩ := ha
  have hs : starEach [a] X.env = [(false, eval a X.env)] := star_of hpa
  refine ⟨⟨_, pi_range1 hg hm (pa_cons pe pa_nil (star_of hpa)) hs, fun io s H sg M R rs rm hp => ?_⟩, fun g M w M' h => ?_⟩
  · refine se io s H sg M _ rs rm (hp.seq fun x M1 io1 H1 u1 e1 g1 rm1 r1 hp1 => ?_)
    cases x with
    | p d =>
      cases r1 with
      | int j =>
        unfold fRw rangeOf at hp1
        by_cases hj : big62 j = true
        · simp only [if_pos hj] at hp1
          obtain ⟨b1, b2⟩ := of_decide_eq_true hj
          refine ⟨j, rfl, b1, b2, ?_⟩
          have z := iw_rng (pr := isTp tg) (K := X.K) (io := io1) (H := H1) 0 j
          rw [Int.sub_zero] at z
          exact hp1.done rm1 z
        · simp only [if_neg hj] at hp1
          exact hp1.elim
      | _ => exact hp1.elim
    | r i => exact hp1.elim
    | s ds => exact hp1.elim
  · obtain ⟨v, M1, _, h⟩ := bind_ok_of h
    exact fRw_ok h
theorem okI_rng2 (hg : Gl X "range") (hm : X.mg "range" = none) (hpa : Pln a) (hpb : Pln b) (ha : OkE X W a fa) (hb : OkE X W b fb) :
    OkI X W tg (.Call (.Name "range" p) [a, b] [] pos) (fun s M => (fa s M).bind fun v M1 => (fb s M1).bind fun w M2 => fRw [v, w] M2) := by
  obtain ⟨t, pe, se⟩ := ha
  obtain ⟨t', pe', se'⟩ := hb
  have hs2 : starEach [b] X.env = [(false, eval b X.env)] := star_of hpb
  have hs : starEach [a, b] X.env = [(false, eval a X.env), (false, eval b X.env)] := by rw [star_of hpa, hs2]
  refine ⟨⟨_, pi_range2 hg hm (pa_cons pe (pa_cons pe' pa_nil (star_of hpb)) (star_of hpa)) hs hs2, fun io s H sg M R rs rm hp => ?_⟩, fun g M w M' h => ?_⟩
  · refine se io s H sg M _ rs rm (hp.seq fun x M1 io1 H1 u1 e1 g1 rm1 r1 hp1 => ?_)
    refine se' io1 s H1 sg M1 _ (rs.mono g1) rm1 (hp1.seq fun y M2 io2 H2 u2 e2 g2 rm2 r2 hp2 => ?_)
    cases x with
    | p d =>
      cases y with
      | p d' =>
        cases r1 with
        | int i =>
          cases r2 with
          | int j =>
            unfold fRw rangeOf at hp2
            by_cases hj : (big62 i && big62 j) = true
            · simp only [if_pos hj] at hp2
              obtain ⟨h1, h2⟩ := Bool.and_eq_true_iff.mp hj
              obtain ⟨a1, a2⟩ := of_decide_eq_true h1
              obtain ⟨b1, b2⟩ := of_decide_eq_true h2
              exact ⟨i, j, rfl, ⟨a1, a2, b1, b2⟩, hp2.done rm2 (iw_rng i j)⟩
            · simp only [if_neg hj] at hp2
              exact hp2.elim
          | _ => exact hp2.elim
        | _ => cases d' <;> exact hp2.elim
      | r i => cases d <;> exact hp2.elim
      | s ds => cases d <;> exact hp2.elim
    | r i => exact hp2.elim
    | s ds => exact hp2.elim
  · obtain ⟨v, M1, _, h⟩ := bind_ok_of h
    obtain ⟨v, M2, _, h⟩ := bind_ok_of h
    exact fRw_ok h

/-! ### comprehensions -/
abbrev Wno : WX := fun _ _ _ _ => False
theorem lcLoop_step (w : Wk) (step : D → Mem → Rs (List D)) (x : D) (xs : List D) (M : Mem) (acc : List D) : lcLoop w step (x :: xs) M acc = (match step x M with
    | .ok r M' => if w.ok M' then lcLoop w step xs M' (acc ++ r) else .bad
    | _ => .bad) := by
  cases e : step x M <;> simp only [lcLoop, e]
theorem lcLoop_cons {w : Wk} {step : D → Mem → Rs (List D)} {x : D} {xs : List D} {M : Mem} {acc : List D} (h : lcLoop w step (x :: xs) M acc ≠ .bad) :
    ∃ r M', step x M = .ok r M' ∧ w.ok M' = true ∧ lcLoop w step (x :: xs) M acc = lcLoop w step xs M' (acc ++ r) := by
  rw [lcLoop_step] at h ⊢
  cases e : step x M with
  | bad => rw [e] at h; exact absurd rfl h
  | exc => rw [e] at h; exact absurd rfl h
  | ok r M' =>
    rw [e] at h
    by_cases hw : w.ok M' = true
    · exact ⟨r, M', rfl, hw, if_pos hw⟩
    · exact absurd (if_neg hw) h
theorem lcLoop_exc {w : Wk} {step : D → Mem → Rs (List D)} {c : String} {fs : List (String × D)} {M' : Mem} : ∀ {xs : List D} {M : Mem} {acc : List D}, lcLoop w step xs M acc ≠ .exc c fs M'
  | [], _, _, h => by cases h
  | x :: xs, M, acc, h => by
    have nb : lcLoop w step (x :: xs) M acc ≠ .bad := by rw [h]; exact fun z => by cases z
    obtain ⟨r, M1, _, _, e⟩ := lcLoop_cons nb
    rw [e] at h
    exact lcLoop_exc h
/-- the list that a comprehension makes stands guarded at D -/
def Made (K : PySem.W.Frag) (io1 : Io) (H1 : Hp) (r : Rs (List D)) (Q : Addr → Hp → Prop) : Prop :=
  ∀ ds M2 io2 H2 D xs, r = .ok ds M2 → Gr io1 H1 io2 H2 → RM io2 K H2 M2 → H1 D = none → D ∈ io2.no → D ∉ io2.ids → H2 D = some (.lst xs) → DVs io2 K H2 xs ds → Q D H2
theorem wipe_wipe (s : L2.St) (own : List Nat) : L2.wipe (L2.wipe s own) own = L2.wipe s own := by
  have one : ∀ {os : List Nat} {v : Nat}, v ∈ os → (L2.wipe s os).set v none = L2.wipe s os := by
    intro os
    induction os with
    | nil => intro v h; cases h
    | cons o os ih =>
      intro v h
      unfold L2.wipe
      by_cases ho : v = o
      · subst ho; rw [List.set_set]
      · rw [List.set_comm _ _ (Ne.symm ho), ih ((List.mem_cons.mp h).resolve_left ho)]
  have go : ∀ (vs : List Nat), (∀ v ∈ vs, v ∈ own) → L2.wipe (L2.wipe s own) vs = L2.wipe s own := by
    intro vs
    induction vs with
    | nil => intro _; rfl
    | cons v vs ih =>
      intro hv
      show (L2.wipe (L2.wipe s own) vs).set v none = L2.wipe s own
      rw [ih fun z hz => hv z (List.mem_cons_of_mem _ hz), one (hv v List.mem_cons_self)]
  exact go own fun _ h => h
theorem lc_made {wi : TI} {tgx : Tg} {own : List Nat} {tt : TT} {te : TE} {fe : Sg → Mem → Rs Vl} {fi : Sg → Mem → Rs Wk} {pr : Prop} (hi : SI pr X W wi fi) (hpr : pr → ∃ is, tgx = .tp is) (hok : ∀ g M w M', fi g M = .ok w M' → w.ok M' = true) (ht : STt X Wno tt ft) (he : SE X Wno te fe) (hsub : ∀ i ∈ tgSlots tgx, i ∈ own)
    {io : Io} {s : L2.St} {H : Hp} {g : Sg} {M : Mem} {Q : VK} (rs : RS io X.K H s g) (rm : RM io X.K H M)
    (hp : Post X.K (fun io H J w => IW pr X.K io H J w) io H (fi g M) (fun J H1 => True) (fun cls d H' => W cls d s H'))
    (hb : ∀ w M1, fi g M = .ok w M1 → w.items.length ≤ line ∧ lcLoop w (fStep own tgx ft fe g) w.items M1 [] ≠ .bad)
    (hQ : ∀ w M1 io1 H1, fi g M = .ok w M1 → Gr io H io1 H1 → RM io1 X.K H1 M1 → Made X.K io1 H1 (lcLoop w (fStep own tgx ft fe g) w.items M1 []) (fun D H2 => Q (.ref D) H2)) :
    tLc wi (tgT X.K tgx) tt te own s H Q := by
  refine hi io s H g M _ rs rm ?_
  cases e : fi g M with
  | bad => rw [e] at hp; exact hp
  | exc c fs M1 => rw [e] at hp; exact hp
  | ok w M1 =>
    intro io1 H1 J g1 rm1 iw D hD
    obtain ⟨hz, hb⟩ := hb w M1 e
    have hQ := hQ w M1 io1 H1 e g1 rm1
    have hok := hok _ _ _ _ e
    obtain ⟨G, Y, wk, hG, hY⟩ := iw
    have rs1 := rs.mono g1
    -- the state between two turns
    let total := lcLoop w (fStep own tgx ft fe g) w.items M1 []
    refine lc_it wk (fun i Hn => ∃ io' M' acc xs, Gr io1 H1 io' Hn ∧ RM io' X.K Hn M' ∧ w.ok M' = true ∧ D ∈ io'.no ∧ D ∉ io'.ids ∧ Hn D = some (.lst xs) ∧ DVs io' X.K Hn xs acc ∧ xs.length ≤ i ∧
        lcLoop w (fStep own tgx ft fe g) (w.items.drop i) M' acc = total) ?_ ?_ ?_ ?_
    · refine ⟨io1.guard D, M1, [], [], Gr.guard hD, rm1.guard hD, hok, List.mem_cons_self, fun z => rm1.fresh hD (io1.sub _ z), upd_same, .nil, Nat.le_refl _, by rw [List.drop_zero]⟩
    · rintro i Hn _ ⟨io', M', acc, xs, gr, rm', ok, _⟩
      exact hG io' Hn M' gr rm' ok
    · rintro i x Hn Hn' hi ⟨io', M', acc, xs, gr, rm', ok, d1, d2, d3, d4, d5, d6⟩ y
      have hit : w.items[i]? = some w.items[i] := List.getElem?_eq_getElem hi
      obtain ⟨g2, rm2, rx⟩ := hY i Hn x Hn' w.items[i] io' M' hit gr rm' ok y
      have nb : lcLoop w (fStep own tgx ft fe g) (w.items.drop i) M' acc ≠ .bad := by rw [d6]; exact hb
      rw [List.drop_eq_getElem_cons hi] at nb d6
      obtain ⟨r, M2, es, ok2, el⟩ := lcLoop_cons nb
      rw [el] at d6
      have rs2 : RS io' X.K Hn' (L2.wipe s own) (wipe g own) := ((rs1.mono gr).mono g2).wipe own
      unfold fStep at es
      cases est : store tgx w.items[i] (wipe g own) with
      | none => rw [est] at es; cases es
      | some g' =>
        rw [est] at es
        refine sg_ok rs2 hpr rx est fun s' rs' hw => ⟨(hw own hsub).trans ?_, ?_⟩
        · have ww : ∀ (vs : List Nat) (s : L2.St), (∀ v ∈ vs, v ∈ own) → L2.wipe (L2.wipe s own) vs = L2.wipe s own := by
            intro vs s hv
            induction vs with
            | nil => rfl
            | cons v vs ih =>
              show (L2.wipe (L2.wipe s own) vs).set v none = L2.wipe s own
              rw [ih fun z hz => hv z (List.mem_cons_of_mem _ hz)]
              have hv := hv v List.mem_cons_self
              clear ih
              generalize own = os at hv
              have go : ∀ {os : List Nat}, v ∈ os → (L2.wipe s os).set v none = L2.wipe s os := by
                intro os
                induction os with
                | nil => intro h; cases h
                | cons o os ih =>
                  intro h
                  unfold L2.wipe
                  by_cases ho : v = o
                  · subst ho; rw [List.set_set]
                  · rw [List.set_comm _ _ (Ne.symm ho), ih ((List.mem_cons.mp h).resolve_left ho)]
              exact go hv
          exact ww own s fun _ h => h
        · obtain ⟨c, Mc, ec, es⟩ := bind_ok_of es
          refine ht io' s' Hn' g' M' _ rs' rm2 ?_
          rw [ec]
          intro io3 H3 k g3 rm3 ek
          cases ek
          have d3' := (g2.keep _ _ d3 d2)
          cases c with
          | false =>
            simp only [if_false, Bool.false_eq_true] at es ⊢
            cases es
            have g23 := g2.trans g3
            refine ⟨io3, _, acc, xs, gr.trans g23, rm3, ok2, g23.mor _ d1, g23.outi d3 d2, g3.keep _ _ d3' d2, d4.mono g23, by omega, ?_⟩
            rw [List.append_nil] at d6
            exact d6
          | true =>
            simp only [if_true] at es ⊢
            obtain ⟨yv, My, ey, es⟩ := bind_ok_of es
            refine he io3 s' H3 g' Mc _ (rs'.mono g3) rm3 ?_
            rw [ey]
            intro io4 H4 u g4 rm4 ru
            have g24 := (g2.trans g3).trans g4
            have d3'' := g4.keep _ _ (g3.keep _ _ d3' d2) (g3.outi d3' d2)
            cases yv with
            | p dy =>
              cases es
              refine ⟨xs, d3'', by rw [line_eq] at hz; omega, ?_⟩
              have hd1 : D ∈ io4.no := g24.mor _ d1
              have hd2 : D ∉ io4.ids := g24.outi d3 d2
              have sn : DVs io4 X.K H4 (xs ++ [u]) (acc ++ [dy]) := (d4.mono g24).snoc ru
              exact ⟨io4, _, acc ++ [dy], xs ++ [u], (gr.trans g24).over hD, rm4.over hd1 hd2, ok2, hd1, hd2, upd_same, sn.over hd1, by rw [List.length_append]; exact Nat.succ_le_succ d5, d6⟩
            | r i => cases es
            | s ds => cases es
    · rintro Hn ⟨io', M', acc, xs, gr, rm', ok, d1, d2, d3, d4, d5, d6⟩
      rw [List.drop_eq_nil_of_le (Nat.le_refl _)] at d6
      exact hQ acc M' io' Hn D xs d6.symm gr rm' hD d1 d2 d3 d4
end
end Eg

/-! Engine, part H: comprehensions as values, statements. By an AI agent. -/
namespace Eg
open PySem PySem.Spec PyProof.Rows L2

/-! ### one reading for all blocks -/
def tOf (K : PySem.W.Frag) (W : WX) (f : Sg → Mem → Rs Vl) : TE := fun s H Q => ∃ io g M, RS io K H s g ∧ RM io K H M ∧ Post K (fun io H u v => VV io K H u v) io H (f g M) Q (fun cls d H' => W cls d s H')
def ttOf (K : PySem.W.Frag) (W : WX) (f : Sg → Mem → Rs Bool) : TT := fun s H Q => ∃ io g M, RS io K H s g ∧ RM io K H M ∧ Post K (fun _ _ u v => u = v) io H (f g M) Q (fun cls d H' => W cls d s H')
section
variable {X : Cx} {W : WX} {a b c e tg : Expr} {es : List Expr} {pos p : Pos} {fa fb fc fe : Sg → Mem → Rs Vl} {ft : Sg → Mem → Rs Bool} {fi : Sg → Mem → Rs Wk}
theorem OkE.uni (h : OkE X W e fe) : PE X e (tOf X.K W fe) := by
  obtain ⟨t, p, st⟩ := h
  exact ⟨fun pins s σ H Q I ⟨io, g, M, rs, rm, hp⟩ => p.run pins s σ H Q I (st io σ H g M Q rs rm hp)⟩
theorem OkT.uni (h : OkT X W e ft) : PT X e (ttOf X.K W ft) := by
  obtain ⟨t, p, st⟩ := h
  exact ⟨fun pins s σ H Q I ⟨io, g, M, rs, rm, hp⟩ => p.run pins s σ H Q I (st io σ H g M Q rs rm hp)⟩
theorem se_uni : SE X W (tOf X.K W fe) fe := fun io s H g M Q rs rm hp => ⟨io, g, M, rs, rm, hp⟩
theorem st_uni : STt X W (ttOf X.K W ft) ft := fun io s H g M Q rs rm hp => ⟨io, g, M, rs, rm, hp⟩
/-- the tests of a clause: none, or one -/
def OkTs (X : Cx) (W : WX) : List Expr → (Sg → Mem → Rs Bool) → Prop
  | [], f => f = fun _ M => .ok true M
  | [e], f => OkT X W e f
  | _, _ => False
theorem OkTs.uni {ifs : List Expr} (h : OkTs X W ifs ft) : PTs X ifs (ttOf X.K W ft) := by
  match ifs, h with
  | [], h =>
    cases h
    exact ⟨fun pins s σ H Q I ⟨io, g, M, rs, rm, hp⟩ => pts_nil.run pins s σ H Q I (hp.done rm rfl)⟩
  | [e], h => exact pts_one (OkT.uni h)
/-! ### comprehensions -/
/-- what a comprehension's block is to be shown -/
structure LcOk (X : Cx) (tgx : Tg) (tg elt : Expr) (ifs : List Expr) (scope : Scope) (own : List (Str × Nat)) (ft : Sg → Mem → Rs Bool) (fe : Sg → Mem → Rs Vl) : Prop where
  blk : BlkOk X.N X.env.scope scope own
  sub : ∀ i ∈ tgSlots tgx, i ∈ own.map (·.2)
  pr : isTp tg → ∃ is, tgx = .tp is
  tg : ∀ (s : Shared) (H : Hp) (C : Addr) (cl : List (Str × Addr)) (fp : List Addr), TgOk (X.blk s H scope (compEnvC scope cl C X.env) fp) tgx tg
  ifs : ∀ (s : Shared) (H : Hp) (C : Addr) (cl : List (Str × Addr)) (fp : List Addr), OkTs (X.blk s H scope (compEnvC scope cl C X.env) fp) Wno ifs ft
  elt : ∀ (s : Shared) (H : Hp) (C : Addr) (cl : List (Str × Addr)) (fp : List Addr), OkE (X.blk s H scope (compEnvC scope cl C X.env) fp) Wno elt fe
theorem fLc_ok {own : List Nat} {tg : Tg} {g : Sg} {M M1 : Mem} {w : Wk} {K : PySem.W.Frag} {ν : Type} {R : Io → Hp → ν → List D → Prop} {io : Io} {H : Hp} {Q : ν → Hp → Prop} {E : XK} (e : fi g M = .ok w M1) (h : Post K R io H (fLc own tg fi ft fe g M) Q E) :
    w.items.length ≤ line ∧ lcLoop w (fStep own tg ft fe g) w.items M1 [] ≠ .bad ∧ fLc own tg fi ft fe g M = lcLoop w (fStep own tg ft fe g) w.items M1 [] := by
  have k : fLc own tg fi ft fe g M = if w.items.length ≤ line then lcLoop w (fStep own tg ft fe g) w.items M1 [] else .bad := by
    unfold fLc
    rw [e]
    rfl
  by_cases hz : w.items.length ≤ line
  · rw [if_pos hz] at k
    refine ⟨hz, fun z => ?_, k⟩
    rw [k, z] at h
    exact h
  · rw [if_neg hz] at k
    rw [k] at h
    exact h.elim
/-- the reading of a comprehension, given what is wanted of its list -/
theorem lc_read {tgx : Tg} {wi : TI} {own : List (Str × Nat)} {pr : Prop} (hi : SI pr X W wi fi) (hpr : pr → ∃ is, tgx = .tp is) (hok : ∀ g M w M', fi g M = .ok w M' → w.ok M' = true) (hsub : ∀ i ∈ tgSlots tgx, i ∈ own.map (·.2))
    {io : Io} {s : L2.St} {H : Hp} {g : Sg} {M : Mem} {Q : VK} {R : Io → Hp → Addr → List D → Prop} (rs : RS io X.K H s g) (rm : RM io X.K H M)
    (hp : Post X.K R io H (fLc (own.map (·.2)) tgx fi ft fe g M) (fun (_ : Addr) _ => True) (fun cls d H' => W cls d s H'))
    (hQ : ∀ ds M2 io1 H1 io2 H2 D xs, fLc (own.map (·.2)) tgx fi ft fe g M = .ok ds M2 → Gr io H io1 H1 → Gr io1 H1 io2 H2 → RM io2 X.K H2 M2 → H1 D = none → D ∈ io2.no → D ∉ io2.ids → D ∉ io1.no → H2 D = some (.lst xs) → DVs io2 X.K H2 xs ds → Q (.ref D) H2) :
    tLc wi (tgT X.K tgx) (ttOf X.K Wno ft) (tOf X.K Wno fe) (own.map (·.2)) s H Q := by
  refine lc_made hi hpr hok st_uni se_uni hsub rs rm ?_ (fun w M1 e => ⟨(fLc_ok e hp).1, (fLc_ok e hp).2.1⟩) fun w M1 io1 H1 e g1 rm1 ds M2 io2 H2 D xs e2 g2 rm2 h1 h2 h3 h4 h5 =>
    hQ ds M2 io1 H1 io2 H2 D xs (by rw [(fLc_ok e hp).2.2]; exact e2) g1 g2 rm2 h1 h2 h3 (rm1.fresh h1) h4 h5
  unfold fLc at hp
  cases e : fi g M with
  | bad => rw [e] at hp; exact hp
  | exc c fs M1 => rw [e] at hp; exact hp
  | ok w M1 => exact fun _ _ _ _ _ _ => trivial
theorem lc_noexc {tgx : Tg} {g : Sg} {M M2 : Mem} {own : List Nat} {c : String} {fs : List (String × D)} (h : fLc own tgx fi ft fe g M = .exc c fs M2) : ∃ M1, fi g M = .exc c fs M1 := by
  unfold fLc at h
  cases e : fi g M with
  | bad => rw [e] at h; cases h
  | exc c' fs' M1 => rw [e] at h; cases h; exact ⟨_, rfl⟩
  | ok w M1 =>
    rw [e, Rs.bind_ok] at h
    by_cases hz : w.items.length ≤ line
    · rw [if_pos hz] at h
      exact absurd h lcLoop_exc
    · rw [if_neg hz] at h
      cases h
theorem Post.any {α ν : Type} {K : PySem.W.Frag} {R : Io → Hp → ν → α → Prop} {io : Io} {H : Hp} {r : Rs α} {E : XK} {β μ : Type} {R' : Io → Hp → μ → β → Prop} {k : α → Mem → Rs β} {Q' : μ → Hp → Prop} (h : Post K R' io H (r.bind k) Q' E) : Post K R io H r (fun (_ : ν) _ => True) E := by
  cases r with
  | bad => exact h
  | ok a M => exact fun _ _ _ _ _ _ => trivial
  | exc c fs M => exact h
variable {tgx : Tg} {elt iter : Expr} {ifs : List Expr} {scope : Scope} {own : List (Str × Nat)}
theorem okE_lc (hc : X.calm = true) (hN : X.N.Nodup) (hpi : Pln iter) (hi : OkI X W tg iter fi) (hb : LcOk X tgx tg elt ifs scope own ft fe) :
    OkE X W (.ListComp elt [⟨tg, iter, ifs, 0⟩] scope pos) (fun g M => (fLc (own.map (·.2)) tgx fi ft fe g M).bind fun ds M2 => .ok (.p (.list ds)) M2) := by
  obtain ⟨⟨wi, pi, si⟩, hok⟩ := hi
  refine ⟨_, pe_lc (g := tgT X.K tgx) (tt := ttOf X.K Wno ft) (te := tOf X.K Wno fe) hc hN pi hb.blk (fun s H C cl fp => pg_ok (X := X.blk s H scope (compEnvC scope cl C X.env) fp) hN hc (hb.tg s H C cl fp)) (fun s H C cl fp => (hb.ifs s H C cl fp).uni) (fun s H C cl fp => (hb.elt s H C cl fp).uni) (set_of hpi), fun io s H g M Q rs rm hp => ?_⟩
  refine lc_read (Q := Q) (R := fun _ _ _ _ => True) si hb.pr hok hb.sub rs rm (Post.any (Q' := Q) hp) fun ds M2 io1 H1 io2 H2 D xs e g1 g2 rm2 h1 h2 h3 h4 h5 h6 => ?_
  have hp : Post X.K (RV X.K) io H ((fLc (own.map (·.2)) tgx fi ft fe g M).bind fun ds M2 => .ok (.p (.list ds)) M2) Q (fun cls d H' => W cls d s H') := hp
  rw [e] at hp
  refine hp (io2.drop D h3) H2 (.ref D) (((g1.trans g2)).drop h3 (fun z => h4 (g1.mor _ z))) (rm2.drop h3) ?_
  exact .lst h5 (Io.drop_no h3) (h6.less (Io.drop_less h3))

/-! ### new lists, for the memory -/
def RN (K : PySem.W.Frag) (H0 : Hp) : Io → Hp → Addr → List D → Prop := fun io' H' a ds => H0 a = none ∧ ∃ (hn : a ∈ io'.no) (xs : List V), a ∉ io'.ids ∧ H' a = some (.lst xs) ∧ DVs io' K H' xs ds
def SN (X : Cx) (W : WX) (t : TE) (f : Sg → Mem → Rs (List D)) : Prop :=
  ∀ (io : Io) (s : L2.St) (H : Hp) (g : Sg) (M : Mem) (Q : VK), RS io X.K H s g → RM io X.K H M → Post X.K (RN X.K H) io H (f g M) (fun a H' => Q (.ref a) H') (fun cls d H' => W cls d s H') → t s H Q
def OkN (X : Cx) (W : WX) (e : Expr) (f : Sg → Mem → Rs (List D)) : Prop := ∃ t, PE X e t ∧ SN X W t f
theorem Gr.back {io io' : Io} {H H' : Hp} {K : PySem.W.Frag} {M : Mem} {p : Addr} (g : Gr io H io' H') (rm : RM io' K H' M) (h : H' p = none) : H p = none := by
  cases e : H p with
  | none => rfl
  | some o =>
    by_cases n : p ∈ io.ids
    · obtain ⟨t, ht⟩ := g.pre
      have : p ∈ io'.ids := by rw [← ht]; exact List.mem_append_left _ n
      exact absurd (io'.sub _ this) (rm.fresh h)
    · rw [g.keep p o e n] at h
      cases h
theorem res_new {io : Io} {K : PySem.W.Frag} {H H0 : Hp} {M : Mem} {ds : List D} {xs : List V} {Q : Addr → Hp → Prop} {E : XK} (h : Post K (RN K H0) io H (.ok ds M) Q E) (rm : RM io K H M) (r : DVs io K H xs ds) {p : Addr} (hp : H p = none) (h0 : H0 p = none) : Q p (upd H p (.lst xs)) :=
  h (io.guard p) _ _ (Gr.guard hp) (rm.guard hp) ⟨h0, List.mem_cons_self, xs, fun z => rm.fresh hp (io.sub _ z), upd_same, r.mono (Gr.guard hp)⟩
theorem okN_lst {fs : Sg → Mem → Rs (List Vl)} (h : OkA X W es fs) (hz : es.length ≤ 1000) (hl : ∀ g M vs M', fs g M = .ok vs M' → vs.length = es.length) : OkN X W (.List es pos) (fun s M => (fs s M).bind fun vs M1 => Rs.of M1 (plains vs)) := by
  obtain ⟨t, p, st⟩ := h
  refine ⟨_, pe_lst p, fun io s H sg M Q rs rm hp => ?_⟩
  refine st io s H sg M _ rs rm (hp.seq fun xs M1 io1 H1 us e1 g1 rm1 r1 hp1 => ?_)
  cases e : plains xs with
  | none => simp only [e] at hp1; exact hp1.elim
  | some ds =>
    simp only [e] at hp1
    exact ⟨by rw [r1.length, hl _ _ _ _ e1, sizeLine_eq]; omega, fun p hp => res_new hp1 rm1 (r1.plain e) hp (g1.back rm1 hp)⟩
theorem okN_list (hc : X.calm = true) (hg : Gl X "list") (hm : X.mg "list" = none) (hpa : Pln a) (ha : OkE X W a fa) : OkN X W (.Call (.Name "list" p) [a] [] pos) (fun s M => (fa s M).bind fun v M1 => Rs.of M1 (listOf M1 v)) := by
  obtain ⟨t, pe, se⟩ := ha
  refine ⟨_, pe_callTy call_list_of hg hm (by decide +kernel) (pa_cons pe pa_nil (star_of hpa)) (by decide) (by decide) (star_of hpa) rfl, fun io s H sg M Q rs rm hp => ?_⟩
  refine se io s H sg M _ rs rm (hp.seq fun x M1 io1 H1 u1 e1 g1 rm1 r1 hp1 => ?_)
  cases e : listOf M1 x with
  | none => rw [e] at hp1; exact hp1.elim
  | some ds =>
    rw [e] at hp1
    have key : ∀ v : Vl, v = x → (∀ ds, v ≠ .s ds) → ∃ d, look M1 v = some d ∧ (match d with
        | .list ds => some ds
        | .tuple ds => some ds
        | _ => none) = some ds := fun v hv hn => by
      subst hv
      cases v with
      | s ds => exact absurd rfl (hn ds)
      | p d => exact Option.bind_eq_some_iff.mp e
      | r i => exact Option.bind_eq_some_iff.mp e
    cases x with
    | s es =>
      cases e
      obtain ⟨q, xs, rfl, hq, hs⟩ := r1
      exact ⟨q, xs, rfl, .inl hq.sq, fun p hp => res_new hp1 rm1 hs hp (g1.back rm1 hp)⟩
    | p d =>
      obtain ⟨d, e2, e3⟩ := key _ rfl (by intro _ z; cases z)
      cases r1.db rm1 e2 with
      | lst hx hs => cases e3; exact ⟨_, _, rfl, .inl (SqL.of hx), fun p hp => res_new hp1 rm1 hs hp (g1.back rm1 hp)⟩
      | tup hx hs => cases e3; exact ⟨_, _, rfl, .inr hx.sq, fun p hp => res_new hp1 rm1 hs hp (g1.back rm1 hp)⟩
      | _ => cases e3
    | r i =>
      obtain ⟨d, e2, e3⟩ := key _ rfl (by intro _ z; cases z)
      cases r1.db rm1 e2 with
      | lst hx hs => cases e3; exact ⟨_, _, rfl, .inl (SqL.of hx), fun p hp => res_new hp1 rm1 hs hp (g1.back rm1 hp)⟩
      | tup hx hs => cases e3; exact ⟨_, _, rfl, .inr hx.sq, fun p hp => res_new hp1 rm1 hs hp (g1.back rm1 hp)⟩
      | _ => cases e3
theorem okN_rng1 (hc : X.calm = true) (hg : Gl X "range") (hm : X.mg "range" = none) (hgt : Gl X "list") (hmt : X.mg "list" = none) (hpa : Pln a) (ha : OkE X W a fa) {p2 pos2 : Pos} :
    OkN X W (.Call (.Name "list" p) [.Call (.Name "range" p2) [a] [] pos2] [] pos) (fun s M => (fa s M).bind fun v M1 => Rs.of M1 ((rangeOf [v]).bind fun ds => if ds.length ≤ line then some ds else none)) := by
  obtain ⟨t, pe, se⟩ := ha
  have pr : PRg X (.Call (.Name "range" p2) [a] [] pos2) (tRg1 t) := prg_1 hg hm pe (star_of hpa)
  refine ⟨_, pe_listRg hc hgt hmt pr rfl, fun io s H sg M Q rs rm hp => ?_⟩
  refine se io s H sg M _ rs rm (hp.seq fun x M1 io1 H1 u1 e1 g1 rm1 r1 hp1 => ?_)
  cases x with
  | p d =>
    cases r1 with
    | int j =>
      refine ⟨j, rfl, ?_⟩
      unfold rangeOf at hp1
      by_cases hj : big62 j = true
      · simp only [if_pos hj, Option.bind_some] at hp1
        by_cases hl : (rangeD 0 j).length ≤ line
        · rw [if_pos hl] at hp1
          obtain ⟨b1, b2⟩ := of_decide_eq_true hj
          exact ⟨⟨by decide, by decide, b1, b2, by rw [rangeD_length] at hl; exact hl⟩, fun q hq => res_new hp1 rm1 (rangeV 0 j) hq (g1.back rm1 hq)⟩
        · rw [if_neg hl] at hp1
          exact hp1.elim
      · simp only [if_neg hj, Option.bind_none] at hp1
        exact hp1.elim
    | _ => exact hp1.elim
  | r i => exact hp1.elim
  | s ds => exact hp1.elim
theorem okN_add (ha : OkE X W a fa) (hb : OkE X W b fb) : OkN X W (.BinOp a .Add b pos) (fun s M => (fa s M).bind fun x M1 => (fb s M1).bind fun y M2 => Rs.of M2 (catOf M2 x y)) := by
  obtain ⟨ta, pa, sa⟩ := ha
  obtain ⟨tb, pb, sb⟩ := hb
  refine ⟨_, pe_op op_cat pa pb, fun io s H sg M Q rs rm hp => ?_⟩
  refine sa io s H sg M _ rs rm (hp.seq fun x M1 io1 H1 u1 e1 g1 rm1 r1 hp1 => ?_)
  refine sb io1 s H1 sg M1 _ (rs.mono g1) rm1 (hp1.seq fun y M2 io2 H2 u2 e2 g2 rm2 r2 hp2 => ?_)
  obtain ⟨dx, dy, r, e3, e4, e5, h⟩ := data2 (f := fun x y => match x, y with
    | .list a, .list b => if a.length + b.length ≤ line then some (a ++ b) else none
    | _, _ => none) hp2
  cases (r1.mono g2).db rm2 e3 with
  | lst hx hxs => cases r2.db rm2 e4 with
    | lst hy hys =>
      obtain ⟨hz, he⟩ := ite_some e5
      subst he
      exact ⟨_, _, _, _, rfl, rfl, hx, hy, by rw [hxs.length, hys.length, ← line_eq]; exact hz, fun p hp => res_new h rm2 (hxs.append hys) hp ((g1.trans g2).back rm2 hp)⟩
    | _ => cases e5
  | _ => cases dy <;> cases e5
theorem okN_mul (ha : OkE X W a fa) (hb : OkE X W b fb) : OkN X W (.BinOp a .Mult b pos) (fun s M => (fa s M).bind fun x M1 => (fb s M1).bind fun y M2 => Rs.of M2 (repOf M2 x y)) := by
  obtain ⟨ta, pa, sa⟩ := ha
  obtain ⟨tb, pb, sb⟩ := hb
  refine ⟨_, pe_op op_rep pa pb, fun io s H sg M Q rs rm hp => ?_⟩
  refine sa io s H sg M _ rs rm (hp.seq fun x M1 io1 H1 u1 e1 g1 rm1 r1 hp1 => ?_)
  refine sb io1 s H1 sg M1 _ (rs.mono g1) rm1 (hp1.seq fun y M2 io2 H2 u2 e2 g2 rm2 r2 hp2 => ?_)
  obtain ⟨dx, dy, r, e3, e4, e5, h⟩ := data2 (f := fun x y => match x, y with
    | .list a, .int j => if 0 ≤ j ∧ j < 2 ^ 62 ∧ a.length * j.toNat ≤ line then some (List.replicate j.toNat a).flatten else none
    | _, _ => none) hp2
  cases (r1.mono g2).db rm2 e3 with
  | lst hx hxs => cases r2.db rm2 e4 with
    | int j =>
      obtain ⟨hz, he⟩ := ite_some e5
      subst he
      obtain ⟨h1, h2, h3⟩ := hz
      exact ⟨_, j, _, rfl, rfl, hx, by omega, by omega, by rw [hxs.length, ← line_eq]; exact h3, fun p hp => res_new h rm2 (hxs.rep _) hp ((g1.trans g2).back rm2 hp)⟩
    | _ => cases e5
  | _ => cases dy <;> cases e5
theorem okN_lc (hc : X.calm = true) (hN : X.N.Nodup) (hpi : Pln iter) (hi : OkI X W tg iter fi) (hb : LcOk X tgx tg elt ifs scope own ft fe) :
    OkN X W (.ListComp elt [⟨tg, iter, ifs, 0⟩] scope pos) (fLc (own.map (·.2)) tgx fi ft fe) := by
  obtain ⟨⟨wi, pi, si⟩, hok⟩ := hi
  refine ⟨_, pe_lc (g := tgT X.K tgx) (tt := ttOf X.K Wno ft) (te := tOf X.K Wno fe) hc hN pi hb.blk (fun s H C cl fp => pg_ok (X := X.blk s H scope (compEnvC scope cl C X.env) fp) hN hc (hb.tg s H C cl fp)) (fun s H C cl fp => (hb.ifs s H C cl fp).uni) (fun s H C cl fp => (hb.elt s H C cl fp).uni) (set_of hpi), fun io s H g M Q rs rm hp => ?_⟩
  have hp' : Post X.K (fun (_ : Io) (_ : Hp) (_ : Addr) (_ : List D) => True) io H (fLc (own.map (·.2)) tgx fi ft fe g M) (fun (_ : Addr) _ => True) (fun cls d H' => W cls d s H') := by
    cases e : fLc (own.map (·.2)) tgx fi ft fe g M with
    | bad => rw [e] at hp; exact hp
    | ok ds M2 => exact fun _ _ _ _ _ _ => trivial
    | exc c fs M2 => rw [e] at hp; exact hp
  refine lc_read (Q := Q) (R := fun _ _ _ _ => True) si hb.pr hok hb.sub rs rm hp' fun ds M2 io1 H1 io2 H2 D xs e g1 g2 rm2 h1 h2 h3 h4 h5 h6 => ?_
  rw [e] at hp
  have h0 : H D = none := by
    cases q : H D with
    | none => rfl
    | some o =>
      by_cases n : D ∈ io.ids
      · obtain ⟨t, ht⟩ := (g1.trans g2).pre
        exact absurd (by rw [← ht]; exact List.mem_append_left _ n) h3
      · rw [g1.keep D o q n] at h1
        cases h1
  exact hp io2 H2 D (g1.trans g2) rm2 ⟨h0, h2, xs, h3, h5, h6⟩
end
end Eg

/-! Engine, part I: statements keep their meaning. By an AI agent. -/
namespace Eg
open PySem PySem.Spec PyProof.Rows L2
theorem whC_ok : WhOk whC := fun c b g M r h => by
  unfold whC at h
  by_cases k : ∃ n r, whN n c b g M = some r
  · rw [dif_pos k] at h
    refine ⟨k.choose, ?_⟩
    rw [k.choose_spec.choose_spec, h]
  · rw [dif_neg k] at h
    cases h
theorem whN_ok (n : Nat) : WhOk (whN n) := fun c b g M r h => ⟨n, h⟩

/-- a tuple of values, its lists still of the memory -/
def RVt (K : PySem.W.Frag) : Io → Hp → V → List Vl → Prop := fun io H u vs => ∃ a xs, u = .ref a ∧ TQ io K H a xs ∧ VVs io K H xs vs
/-- what a statement's end asks of what is wanted -/
def FlP (K : PySem.W.Frag) (io : Io) (H : Hp) (fl : Fl) (M : Mem) (D : Ends) (W : WX) : Prop := match fl with
  | .nx g => ∀ io' s' H', Gr io H io' H' → RM io' K H' M → RS io' K H' s' g → D.nx s' H'
  | .rt v => ∀ io' u H', Gr io H io' H' → RM io' K H' M → VV io' K H' u v → D.rt u H'
  | .rl vs => ∀ io' u H', Gr io H io' H' → RM io' K H' M → RVt K io' H' u vs → D.rt u H'
  | .bk g => ∀ io' s' H', Gr io H io' H' → RM io' K H' M → RS io' K H' s' g → D.bk s' H'
  | .xc g c fs => ∀ io' s' H' cls d, Gr io H io' H' → RM io' K H' M → RS io' K H' s' g → XR io' K H' cls d c fs → W cls d s' H'
def SPost (K : PySem.W.Frag) (io : Io) (H : Hp) (r : Ro) (D : Ends) (W : WX) : Prop := match r with
  | none => False
  | some (fl, M) => FlP K io H fl M D W
theorem FlP.shift {K : PySem.W.Frag} {io io1 : Io} {H H1 : Hp} {fl : Fl} {M : Mem} {D : Ends} {W : WX} (g : Gr io H io1 H1) (h : FlP K io H fl M D W) : FlP K io1 H1 fl M D W := by
  cases fl with
  | nx g' => exact fun io' s' H' g2 => h io' s' H' (g.trans g2)
  | rt v => exact fun io' u H' g2 => h io' u H' (g.trans g2)
  | rl v => exact fun io' u H' g2 => h io' u H' (g.trans g2)
  | bk g' => exact fun io' s' H' g2 => h io' s' H' (g.trans g2)
  | xc g' c fs => exact fun io' s' H' cls d g2 => h io' s' H' cls d (g.trans g2)
theorem SPost.shift {K : PySem.W.Frag} {io io1 : Io} {H H1 : Hp} {r : Ro} {D : Ends} {W : WX} (g : Gr io H io1 H1) (h : SPost K io H r D W) : SPost K io1 H1 r D W := by
  cases r with
  | none => exact h
  | some p => exact FlP.shift g h
theorem SPost.nx {K : PySem.W.Frag} {io : Io} {H : Hp} {g : Sg} {M : Mem} {D : Ends} {W : WX} {s : L2.St} (h : SPost K io H (some (.nx g, M)) D W) (rm : RM io K H M) (rs : RS io K H s g) : D.nx s H := h io s H .refl rm rs
/-- an expression first -/
theorem SPost.lift {α ν : Type} {K : PySem.W.Frag} {R : Io → Hp → ν → α → Prop} {io : Io} {H : Hp} {r : Rs α} {g : Sg} {k : α → Mem → Ro} {D : Ends} {W : WX} {s : L2.St} {Q : ν → Hp → Prop} (rs : RS io K H s g) (h : SPost K io H (lift r g k) D W)
    (hk : ∀ (a : α) (M1 : Mem) (io1 : Io) (H1 : Hp) (u : ν), r = .ok a M1 → Gr io H io1 H1 → RM io1 K H1 M1 → R io1 H1 u a → SPost K io1 H1 (k a M1) D W → Q u H1) : Post K R io H r Q (fun cls d H' => W cls d s H') := by
  cases r with
  | bad => exact h
  | ok a M1 => exact fun io1 H1 u g1 rm1 ru => hk a M1 io1 H1 u rfl g1 rm1 ru (SPost.shift g1 h)
  | exc c fs M1 => exact fun io1 H1 cls d g1 rm1 xr => h io1 s H1 cls d g1 rm1 (rs.mono g1) xr
def SS (X : Cx) (W : WX) (t : TS) (f : Sg → Mem → Ro) : Prop :=
  ∀ (io : Io) (s : L2.St) (H : Hp) (g : Sg) (M : Mem) (D : Ends), RS io X.K H s g → RM io X.K H M → SPost X.K io H (f g M) D W → t D s H
def OkS (X : Cx) (W : WX) (st : Stmt) (f : Sg → Mem → Ro) : Prop := ∃ t, PS X st t ∧ SS X W t f
def OkSs (X : Cx) (W : WX) (st : List Stmt) (f : Sg → Mem → Ro) : Prop := ∃ t, PSs X st t ∧ SS X W t f
section
variable {X : Cx} {W : WX} {a b c e tg : Expr} {es : List Expr} {pos p : Pos} {fa fb fc fe : Sg → Mem → Rs Vl} {ft : Sg → Mem → Rs Bool} {fi : Sg → Mem → Rs Wk}
theorem okSs_nil : OkSs X W [] (fun g M => some (.nx g, M)) := ⟨_, pss_nil, fun io s H g M D rs rm h => h.nx rm rs⟩
theorem okSs_cons {st : Stmt} {sts : List Stmt} {f1 f2 : Sg → Mem → Ro} (h1 : OkS X W st f1) (h2 : OkSs X W sts f2) : OkSs X W (st :: sts) (fun g M => match f1 g M with
    | some (.nx g1, M1) => f2 g1 M1
    | r => r) := by
  obtain ⟨t1, p1, s1⟩ := h1
  obtain ⟨t2, p2, s2⟩ := h2
  refine ⟨_, pss_cons p1 p2, fun io s H g M D rs rm h => s1 io s H g M _ rs rm ?_⟩
  dsimp only at h
  cases e : f1 g M with
  | none => rw [e] at h; exact h
  | some q =>
    obtain ⟨fl, M1⟩ := q
    rw [e] at h
    cases fl with
    | nx g1 => exact fun io' s' H' g' rm' rs' => s2 io' s' H' g1 M1 D rs' rm' (SPost.shift g' h)
    | rt v => exact h
    | rl v => exact h
    | bk g1 => exact h
    | xc g1 c fs => exact h
theorem okS_doc {x j pos'} : OkS X W (.Expr (.Constant (.str x) j pos) pos') (fun g M => some (.nx g, M)) := ⟨_, ps_doc, fun io s H g M D rs rm h => h.nx rm rs⟩
/-- not a comprehension -/
def NoC (e : Expr) : Prop := match e with
  | .ListComp _ _ _ _ => False
  | .SetComp _ _ _ _ => False
  | .DictComp _ _ _ _ _ => False
  | _ => True
theorem sw_none {t : Option Expr} {l : Nat} {env : Env} (h : NoC e) : swapsWith e t l env = pure false := by
  cases e <;> first | rfl | exact h.elim
theorem sw_tup {es : List Expr} {k : Nat} {l : Nat} {env : Env} : swapsWith e (some (.Tuple es k p)) l env = pure false := by
  cases e <;> rfl
theorem sw_sub {o i : Expr} {l : Nat} {env : Env} : swapsWith e (some (.Subscript o i p)) l env = pure false := by
  cases e <;> rfl
theorem sw_false {elt : Expr} {gs : List Comprehension} {scope : Scope} {pos py : Pos} {y : Str} {l : Nat} {env : Env}
    (h : (env.blockKind == .function && env.kindOf y == some .local && py.line == pos.line && !(scope.names.any fun (n, k) => n == y && (k == .local || k == .cell))) = false) : swapsWith (.ListComp elt gs scope pos) (some (.Name y py)) l env = pure false := by
  unfold swapsWith
  simp only [Expr.pos, h]
/-- x = e -/
theorem okS_set {i : Nat} {x : Str} {pos' : Pos} (hN : X.N.Nodup) (ht : TnOk X i x) (he : OkE X W e fe) (hsw : swapsWith e (some (.Name x pos')) pos.line X.env = pure false) :
    OkS X W (.Assign [.Name x pos'] e pos) (fun g M => lift (fe g M) g fun v M1 => some (.nx (g.set i (some v)), M1)) := by
  obtain ⟨t, pe, se⟩ := he
  obtain ⟨h1, h2, h3⟩ := ht
  refine ⟨_, ps_set hN h1 h2 pe hsw h3, fun io s H g M D rs rm h => se io s H g M _ rs rm (h.lift rs fun v M1 io1 H1 u e1 g1 rm1 r1 h1 => ?_)⟩
  exact h1.nx rm1 ((rs.mono g1).set i r1)
theorem okS_setLc {tgx : Tg} {elt iter : Expr} {ifs : List Expr} {scope : Scope} {own : List (Str × Nat)} {i : Nat} {x : Str} {pos' cp : Pos} (hc : X.calm = true) (hN : X.N.Nodup) (hx : X.N[i]? = some x) (hl : X.env.scope.names.lookup x = some .local)
    (hsw : swapsWith (.ListComp elt [⟨tg, iter, ifs, 0⟩] scope cp) (some (.Name x pos')) pos.line X.env = pure true) (hpi : Pln iter) (hi : OkI X W tg iter fi) (hb : LcOk X tgx tg elt ifs scope own ft fe) :
    OkS X W (.Assign [.Name x pos'] (.ListComp elt [⟨tg, iter, ifs, 0⟩] scope cp) pos) (fun g M => lift ((fLc (own.map (·.2)) tgx fi ft fe g M).bind fun ds M2 => .ok (.p (.list ds)) M2) g fun v M1 => some (.nx (g.set i (some v)), M1)) := by
  have hE := okE_lc (pos := cp) hc hN hpi hi hb
  obtain ⟨⟨wi, pi, si⟩, hok⟩ := hi
  refine ⟨_, ps_setLc (g := tgT X.K tgx) (tt := ttOf X.K Wno ft) (te := tOf X.K Wno fe) hc hN hx hl hsw pi hb.blk (fun s H C cl fp => pg_ok (X := X.blk s H scope (compEnvC scope cl C X.env) fp) hN hc (hb.tg s H C cl fp)) (fun s H C cl fp => (hb.ifs s H C cl fp).uni) (fun s H C cl fp => (hb.elt s H C cl fp).uni) (set_of hpi), fun io s H g M D rs rm h => ?_⟩
  have hp : Post X.K (RV X.K) io H ((fLc (own.map (·.2)) tgx fi ft fe g M).bind fun ds M2 => .ok (.p (.list ds)) M2) (fun x H1 => gName i x s H1 D.nx) (fun cls d H' => W cls d s H') :=
    SPost.lift rs h fun v M1 io1 H1 u e1 g1 rm1 r1 h1 => h1.nx rm1 ((rs.mono g1).set i r1)
  show tLc wi (tgT X.K tgx) (ttOf X.K Wno ft) (tOf X.K Wno fe) (own.map (·.2)) s H (fun x H1 => gName i x s H1 D.nx)
  refine lc_read (Q := fun x H1 => gName i x s H1 D.nx) (R := fun _ _ _ _ => True) si hb.pr hok hb.sub rs rm hp.any fun ds M2 io1 H1 io2 H2 L xs e g1 g2 rm2 h1 h2 h3 h4 h5 h6 => ?_
  rw [e] at hp
  refine hp (io2.drop L h3) H2 (.ref L) ((g1.trans g2).drop h3 (fun z => h4 (g1.mor _ z))) (rm2.drop h3) ?_
  exact .lst h5 (Io.drop_no h3) (h6.less (Io.drop_less h3))
/-- (a, b, ..) = e -/
theorem okS_setT {is : List Nat} {ts : List Expr} {k : Nat} {pt : Pos} (hc : X.calm = true) (hN : X.N.Nodup) (ht : TgOk X (.tp is) (.Tuple ts k pt)) (he : OkE X W e fe) (hw : swappedStores [.Tuple ts k pt] e X.env = pure none) :
    OkS X W (.Assign [.Tuple ts k pt] e pos) (fun g M => lift (fe g M) g fun v M1 => match v with
      | .p d => (store (.tp is) d g).map fun g' => (.nx g', M1)
      | _ => none) := by
  obtain ⟨t, pe, se⟩ := he
  refine ⟨_, ps_asg pe (pg_ok hN hc ht) (by unfold swapsWithSole; exact sw_tup) hw rfl, fun io s H g M D rs rm h => se io s H g M _ rs rm (SPost.lift rs h fun v M1 io1 H1 u e1 g1 rm1 r1 h1 => ?_)⟩
  cases v with
  | p d =>
    cases e2 : store (.tp is) d g with
    | none => simp only [e2] at h1; exact h1.elim
    | some g' =>
      simp only [e2] at h1
      exact sg_ok (pr := False) (tg := .tp is) (rs.mono g1) (fun z => z.elim) (.inl r1) e2 fun s' rs' _ => h1.nx rm1 rs'
  | r i => exact h1.elim
  | s ds => exact h1.elim
/-- x = a new list, kept in the memory -/
theorem okS_new {i : Nat} {x : Str} {pos' : Pos} {fn : Sg → Mem → Rs (List D)} (hN : X.N.Nodup) (ht : TnOk X i x) (he : OkN X W e fn) (hsw : swapsWith e (some (.Name x pos')) pos.line X.env = pure false) :
    OkS X W (.Assign [.Name x pos'] e pos) (fun g M => lift (fn g M) g fun ds M1 => some (.nx (g.set i (some (.r M1.length))), M1 ++ [.lst ds])) := by
  obtain ⟨t, pe, se⟩ := he
  obtain ⟨h1, h2, h3⟩ := ht
  refine ⟨_, ps_set hN h1 h2 pe hsw h3, fun io s H g M D rs rm h => se io s H g M _ rs rm ?_⟩
  have h : SPost X.K io H (lift (fn g M) g fun ds M1 => some (.nx (g.set i (some (.r M1.length))), M1 ++ [.lst ds])) D W := h
  cases e : fn g M with
  | bad => rw [e] at h; exact h
  | exc c fs M1 => rw [e] at h; exact fun io1 H1 cls d g1 rm1 xr => h io1 s H1 cls d g1 rm1 (rs.mono g1) xr
  | ok ds M1 =>
    rw [e] at h
    rintro io1 H1 q g1 rm1 ⟨hq0, hq1, xs, hq2, hq3, hq4⟩
    refine h (io1.take q hq1) _ H1 (g1.take hq1 hq0) (rm1.take hq1 hq2 hq3 hq4) ?_
    refine ((rs.mono (g1.take hq1 hq0)).set i ⟨q, rfl, ?_⟩)
    show (io1.ids ++ [q])[M1.length]? = some q
    rw [← rm1.len, List.getElem?_append_right (Nat.le_refl _), Nat.sub_self]
    rfl
theorem okS_newLc {tgx : Tg} {elt iter : Expr} {ifs : List Expr} {scope : Scope} {own : List (Str × Nat)} {i : Nat} {x : Str} {pos' cp : Pos} (hc : X.calm = true) (hN : X.N.Nodup) (hx : X.N[i]? = some x) (hl : X.env.scope.names.lookup x = some .local)
    (hsw : swapsWith (.ListComp elt [⟨tg, iter, ifs, 0⟩] scope cp) (some (.Name x pos')) pos.line X.env = pure true) (hpi : Pln iter) (hi : OkI X W tg iter fi) (hb : LcOk X tgx tg elt ifs scope own ft fe) :
    OkS X W (.Assign [.Name x pos'] (.ListComp elt [⟨tg, iter, ifs, 0⟩] scope cp) pos) (fun g M => lift (fLc (own.map (·.2)) tgx fi ft fe g M) g fun ds M1 => some (.nx (g.set i (some (.r M1.length))), M1 ++ [.lst ds])) := by
  obtain ⟨⟨wi, pi, si⟩, hok⟩ := hi
  refine ⟨_, ps_setLc (g := tgT X.K tgx) (tt := ttOf X.K Wno ft) (te := tOf X.K Wno fe) hc hN hx hl hsw pi hb.blk (fun s H C cl fp => pg_ok (X := X.blk s H scope (compEnvC scope cl C X.env) fp) hN hc (hb.tg s H C cl fp)) (fun s H C cl fp => (hb.ifs s H C cl fp).uni) (fun s H C cl fp => (hb.elt s H C cl fp).uni) (set_of hpi), fun io s H g M D rs rm h => ?_⟩
  have h : SPost X.K io H (lift (fLc (own.map (·.2)) tgx fi ft fe g M) g fun ds M1 => some (.nx (g.set i (some (.r M1.length))), M1 ++ [.lst ds])) D W := h
  have hp' : Post X.K (fun (_ : Io) (_ : Hp) (_ : Addr) (_ : List Eg.D) => True) io H (fLc (own.map (·.2)) tgx fi ft fe g M) (fun (_ : Addr) _ => True) (fun cls d H' => W cls d s H') := by
    cases e : fLc (own.map (·.2)) tgx fi ft fe g M with
    | bad => rw [e] at h; exact h
    | ok ds M2 => exact fun _ _ _ _ _ _ => trivial
    | exc c fs M1 => rw [e] at h; exact fun io1 H1 cls d g1 rm1 xr => h io1 s H1 cls d g1 rm1 (rs.mono g1) xr
  show tLc wi (tgT X.K tgx) (ttOf X.K Wno ft) (tOf X.K Wno fe) (own.map (·.2)) s H (fun x H1 => gName i x s H1 D.nx)
  refine lc_read (Q := fun x H1 => gName i x s H1 D.nx) (R := fun _ _ _ _ => True) si hb.pr hok hb.sub rs rm hp' fun ds M2 io1 H1 io2 H2 L xs e g1 g2 rm2 h1 h2 h3 h4 h5 h6 => ?_
  rw [e] at h
  have h0 : H L = none := by
    cases q : H L with
    | none => rfl
    | some o =>
      by_cases n : L ∈ io.ids
      · obtain ⟨t, ht⟩ := (g1.trans g2).pre
        exact absurd (by rw [← ht]; exact List.mem_append_left _ n) h3
      · rw [g1.keep L o q n] at h1
        cases h1
  refine h (io2.take L h2) _ H2 ((g1.trans g2).take h2 h0) (rm2.take h2 h3 h5 h6) ?_
  refine ((rs.mono ((g1.trans g2).take h2 h0)).set i ⟨L, rfl, ?_⟩)
  show (io2.ids ++ [L])[M2.length]? = some L
  rw [← rm2.len, List.getElem?_append_right (Nat.le_refl _), Nat.sub_self]
  rfl
/-- return a new list, kept in the memory -/
theorem okS_retn {fn : Sg → Mem → Rs (List D)} (he : OkN X W e fn) : OkS X W (.Return (some e) pos) (fun g M => lift (fn g M) g fun ds M1 => some (.rt (.r M1.length), M1 ++ [.lst ds])) := by
  obtain ⟨t, pe, se⟩ := he
  refine ⟨_, ps_ret pe, fun io s H g M D rs rm h => se io s H g M _ rs rm ?_⟩
  have h : SPost X.K io H (lift (fn g M) g fun ds M1 => some (.rt (.r M1.length), M1 ++ [.lst ds])) D W := h
  cases e : fn g M with
  | bad => rw [e] at h; exact h
  | exc c fs M1 => rw [e] at h; exact fun io1 H1 cls d g1 rm1 xr => h io1 s H1 cls d g1 rm1 (rs.mono g1) xr
  | ok ds M1 =>
    rw [e] at h
    rintro io1 H1 q g1 rm1 ⟨hq0, hq1, xs, hq2, hq3, hq4⟩
    refine h (io1.take q hq1) _ H1 (g1.take hq1 hq0) (rm1.take hq1 hq2 hq3 hq4) ⟨q, rfl, ?_⟩
    show (io1.ids ++ [q])[M1.length]? = some q
    rw [← rm1.len, List.getElem?_append_right (Nat.le_refl _), Nat.sub_self]
    rfl
/-- x, y = a, b -/
theorem okS_par {i j : Nat} {x y : Str} {px py pt : Pos} {kt k2 pt2} (hc : X.calm = true) (hN : X.N.Nodup) (hi : X.N[i]? = some x) (hj : X.N[j]? = some y) (hij : i ≠ j) (hx : X.env.scope.names.lookup x = some .local) (hy : X.env.scope.names.lookup y = some .local)
    (hpa : Pln a) (hpb : Pln b) (ha : OkE X W a fa) (hb : OkE X W b fb) (hw : swappedStores [.Tuple [.Name x px, .Name y py] kt pt] (.Tuple [a, b] k2 pt2) X.env = pure (some [x, y])) :
    OkS X W (.Assign [.Tuple [.Name x px, .Name y py] kt pt] (.Tuple [a, b] k2 pt2) pos) (fun g M => lift (fa g M) g fun v M1 => lift (fb g M1) g fun w M2 => some (.nx ((g.set i (some v)).set j (some w)), M2)) := by
  obtain ⟨ta, pa, sa⟩ := ha
  obtain ⟨tb, pb, sb⟩ := hb
  refine ⟨_, ps_par hc hN hi hj hij hx hy (pa_cons pa (pa_cons pb pa_nil (star_of hpb)) (star_of hpa)) hw rfl, fun io s H g M D rs rm h => ?_⟩
  refine sa io s H g M _ rs rm (SPost.lift rs h fun v M1 io1 H1 u e1 g1 rm1 r1 h1 => ?_)
  refine sb io1 s H1 g M1 _ (rs.mono g1) rm1 (SPost.lift (rs.mono g1) h1 fun w M2 io2 H2 u2 e2 g2 rm2 r2 h2 => ?_)
  exact ⟨u, u2, rfl, h2.nx rm2 (((rs.mono (g1.trans g2)).set i (r1.mono g2)).set j r2)⟩
theorem okS_drop (hn : NoC e) (he : OkE X W e fe) : OkS X W (.Expr e pos) (fun g M => lift (fe g M) g fun _ M1 => some (.nx g, M1)) := by
  obtain ⟨t, pe, se⟩ := he
  refine ⟨_, ps_expr pe (sw_none hn), fun io s H g M D rs rm h => se io s H g M _ rs rm (SPost.lift rs h fun v M1 io1 H1 u e1 g1 rm1 r1 h1 => ?_)⟩
  exact h1.nx rm1 (rs.mono g1)
theorem okS_ret (he : OkE X W e fe) : OkS X W (.Return (some e) pos) (fun g M => lift (fe g M) g fun v M1 => some (.rt v, M1)) := by
  obtain ⟨t, pe, se⟩ := he
  refine ⟨_, ps_ret pe, fun io s H g M D rs rm h => se io s H g M _ rs rm (SPost.lift rs h fun v M1 io1 H1 u e1 g1 rm1 r1 h1 => ?_)⟩
  exact h1 io1 u H1 .refl rm1 r1
theorem okS_if {A B : List Stmt} {f1 f2 : Sg → Mem → Ro} (hc : OkT X W c ft) (ha : OkSs X W A f1) (hb : OkSs X W B f2) : OkS X W (.If c A B pos) (fun g M => lift (ft g M) g fun k M1 => if k then f1 g M1 else f2 g M1) := by
  obtain ⟨tc, pc, sc⟩ := hc
  obtain ⟨t1, p1, s1⟩ := ha
  obtain ⟨t2, p2, s2⟩ := hb
  refine ⟨_, ps_if pc p1 p2, fun io s H g M D rs rm h => sc io s H g M _ rs rm (SPost.lift rs h fun k M1 io1 H1 u e1 g1 rm1 r1 h1 => ?_)⟩
  cases r1
  cases k with
  | true => exact s1 io1 s H1 g M1 D (rs.mono g1) rm1 h1
  | false => exact s2 io1 s H1 g M1 D (rs.mono g1) rm1 h1
theorem okS_rett {k : Nat} {tp : Pos} {fl : Sg → Mem → Rs (List Vl)} (h : OkA X W es fl) (hz : es.length ≤ 1000) (hl : ∀ g M vs M', fl g M = .ok vs M' → vs.length = es.length) : OkS X W (.Return (some (.Tuple es k tp)) pos) (fun g M => lift (fl g M) g fun vs M1 => some (.rl vs, M1)) := by
  obtain ⟨t, pe, se⟩ := h
  refine ⟨_, ps_ret (pe_tupK pe), fun io s H g M D rs rm h => se io s H g M _ rs rm (SPost.lift rs h fun vs M1 io1 H1 us e1 g1 rm1 r1 h1 => ?_)⟩
  refine ⟨by rw [r1.length, hl _ _ _ _ e1, sizeLine_eq]; omega, fun p o ko hp => ?_⟩
  have gu : Gr io1 H1 io1 (upd H1 p (.frz o (.tup us))) := Gr.upd hp
  exact h1 io1 _ _ gu (rm1.upd hp) ⟨p, us, rfl, .inl ⟨⟨o, upd_same, ko⟩, rm1.fresh hp⟩, r1.mono gu⟩
theorem okS_brk : OkS X W (.Break pos) (fun g M => some (.bk g, M)) := ⟨_, ps_break, fun io s H g M D rs rm h => h io s H .refl rm rs⟩
theorem okS_never {st : Stmt} : OkS X W st (fun _ _ => none) := ⟨_, ps_never, fun io s H g M D rs rm h => h.elim⟩
/-- while -/
theorem okS_while {wh : Wh} (hwh : WhOk wh) {B : List Stmt} {f1 : Sg → Mem → Ro} (hp : PassesOwn (model X.prog X.w) X.A X.env X.xe) (hc : OkT X W c ft) (hb : OkSs X W B f1) : OkS X W (.While c B [] pos) (fun g M => wh ft f1 g M) := by
  obtain ⟨tc, pc, sc⟩ := hc
  obtain ⟨t1, p1, s1⟩ := hb
  refine ⟨_, ps_while hp pc p1, fun io s H g M D rs rm h => ?_⟩
  dsimp only at h
  cases e : wh ft f1 g M with
  | none => rw [e] at h; exact h.elim
  | some r =>
    obtain ⟨n, hn⟩ := hwh _ _ _ _ _ e
    rw [e] at h
    refine ⟨fun m s' H' => ∃ io' g' M', Gr io H io' H' ∧ RS io' X.K H' s' g' ∧ RM io' X.K H' M' ∧ whN m ft f1 g' M' = some r, ⟨n, io, g, M, .refl, rs, rm, hn⟩, ?_⟩
    rintro m s' H' ⟨io', g', M', gr, rs', rm', hm⟩
    cases m with
    | zero => cases hm
    | succ m =>
      have hs : SPost X.K io' H' (some r) D W := SPost.shift gr h
      rw [← hm] at hs
      refine sc io' s' H' g' M' _ rs' rm' (SPost.lift rs' hs fun k M1 io1 H1 u e1 g1 rm1 r1 h1 => ?_)
      cases r1
      have hm : lift (ft g' M') g' (fun k M1 => if k then (match f1 g' M1 with
        | some (.nx g2, M2) => whN m ft f1 g2 M2
        | some (.bk g2, M2) => some (.nx g2, M2)
        | r => r) else some (.nx g', M1)) = some r := hm
      rw [e1] at hm
      cases k with
      | false => exact h1.nx rm1 (rs'.mono g1)
      | true =>
        simp only [if_true]
        refine ⟨_, fun s2 H2 z => z, s1 io1 s' H1 g' M1 _ (rs'.mono g1) rm1 ?_⟩
        · have hm : (match f1 g' M1 with
            | some (.nx g2, M2) => whN m ft f1 g2 M2
            | some (.bk g2, M2) => some (.nx g2, M2)
            | r => r) = some r := hm
          have h1 : SPost X.K io1 H1 (match f1 g' M1 with
            | some (.nx g2, M2) => whN m ft f1 g2 M2
            | some (.bk g2, M2) => some (.nx g2, M2)
            | r => r) D W := h1
          cases e2 : f1 g' M1 with
          | none => rw [e2] at h1; exact h1
          | some q =>
            obtain ⟨fl, M2⟩ := q
            rw [e2] at h1 hm
            cases fl with
            | nx g2 => exact fun io2 s2 H2 gr2 rm2 rs2 => ⟨m, Nat.lt_succ_self _, io2, g2, M2, (gr.trans g1).trans gr2, rs2, rm2, hm⟩
            | rt v => exact h1
            | rl v => exact h1
            | bk g2 => exact fun io2 s2 H2 gr2 rm2 rs2 => h1 io2 s2 H2 gr2 rm2 rs2
            | xc g2 c fs => exact h1
end
end Eg
namespace Eg
open PySem PySem.Spec PyProof.Rows L2
section
variable {X : Cx} {W : WX} {a b c e tg o v : Expr} {es : List Expr} {pos p : Pos} {fa fb fc fe fo fv : Sg → Mem → Rs Vl} {ft : Sg → Mem → Rs Bool} {fi : Sg → Mem → Rs Wk} {fs : Sg → Mem → Rs (List Vl)}
/-- for -/
theorem okS_for {tgx : Tg} {iter : Expr} {B : List Stmt} {f1 : Sg → Mem → Ro} (hp : PassesOwn (model X.prog X.w) X.A X.env X.xe) (hc : X.calm = true) (hN : X.N.Nodup) (hpi : Pln iter) (hi : OkI X W tg iter fi) (ht : TgOk X tgx tg) (hb : OkSs X W B f1) :
    OkS X W (.For tg iter B [] pos) (fun g M => lift (fi g M) g fun w M1 => frLoop w tgx f1 w.items g M1) := by
  obtain ⟨⟨wi, pi, si⟩, hok⟩ := hi
  obtain ⟨t1, p1, s1⟩ := hb
  refine ⟨_, ps_for hp hc pi (pg_ok hN hc ht) p1 (set_of hpi), fun io s H g M D rs rm h => si io s H g M _ rs rm (SPost.lift rs h fun w M1 io1 H1 J e1 g1 rm1 iw h1 => ?_)⟩
  obtain ⟨G, Y, wk, hG, hY⟩ := iw
  have hok := hok _ _ _ _ e1
  refine for_it wk (fun i s' H' => ∃ io' g' M', Gr io1 H1 io' H' ∧ RS io' X.K H' s' g' ∧ RM io' X.K H' M' ∧ w.ok M' = true ∧ SPost X.K io' H' (frLoop w tgx f1 (w.items.drop i) g' M') D W) ?_ ?_ ?_ ?_
  · exact ⟨io1, g, M1, .refl, rs.mono g1, rm1, hok, by rw [List.drop_zero]; exact h1⟩
  · rintro i s' H' _ ⟨io', g', M', gr, rs', rm', ok, _⟩
    exact hG io' H' M' gr rm' ok
  · rintro i x s' H' H'' hi ⟨io', g', M', gr, rs', rm', ok, hs⟩ y
    have hit : w.items[i]? = some w.items[i] := List.getElem?_eq_getElem hi
    obtain ⟨g2, rm2, rx⟩ := hY i H' x H'' w.items[i] io' M' hit gr rm' ok y
    rw [List.drop_eq_getElem_cons hi] at hs
    unfold frLoop at hs
    cases e2 : store tgx w.items[i] g' with
    | none => simp only [e2] at hs; exact hs.elim
    | some gx =>
      simp only [e2] at hs
      refine sg_ok (rs'.mono g2) (tgOk_pr ht) rx e2 fun s2 rs2 _ => s1 io' s2 H'' gx M' _ rs2 rm2 ?_
      have hs := SPost.shift g2 hs
      cases e3 : f1 gx M' with
      | none => rw [e3] at hs; exact hs
      | some q =>
        obtain ⟨fl, M2⟩ := q
        rw [e3] at hs
        cases fl with
        | nx g3 =>
          intro io3 s3 H3 gr3 rm3 rs3
          by_cases hw : w.ok M2 = true
          · simp only [if_pos hw] at hs
            exact ⟨io3, g3, M2, (gr.trans g2).trans gr3, rs3, rm3, hw, SPost.shift gr3 hs⟩
          · simp only [if_neg hw] at hs
            exact hs.elim
        | rt v => exact hs
        | rl v => exact hs
        | bk g3 => exact fun io3 s3 H3 gr3 rm3 rs3 => hs io3 s3 H3 gr3 rm3 rs3
        | xc g3 c fs => exact hs
  · rintro s' H' ⟨io', g', M', gr, rs', rm', ok, hs⟩
    rw [List.drop_eq_nil_of_le (Nat.le_refl _)] at hs
    exact SPost.nx hs rm' rs'
/-- o[i] = v -/
theorem okS_put {tp : Pos} (hv : OkE X W v fv) (ho : OkE X W o fo) (hi : OkE X W a fa) (hns : PlainIx a) (hsub : ∀ u, assign (.Subscript o a tp) X.env u = (do
      let ov ← holding [u] (eval o X.env)
      let iv ← holding [u, ov] (eval a X.env)
      standAt tp
      holding [u, ov, iv] (setItem ov iv u)
      release [u, ov, iv] [])) (hw : swappedStores [.Subscript o a tp] v X.env = pure none) :
    OkS X W (.Assign [.Subscript o a tp] v pos) (fun g M => lift (fv g M) g fun v M1 => lift (fo g M1) g fun x M2 => lift (fa g M2) g fun y M3 => (putOf x y v M3).map fun M4 => (.nx g, M4)) := by
  obtain ⟨tv, pv, sv⟩ := hv
  obtain ⟨to, po, so⟩ := ho
  obtain ⟨ta, pa, sa⟩ := hi
  refine ⟨_, ps_asg pv (pg_sub po pa set_list hsub) (by unfold swapsWithSole; exact sw_sub) hw rfl, fun io s H g M D rs rm h => sv io s H g M _ rs rm (SPost.lift rs h fun v M1 io1 H1 u e1 g1 rm1 r1 h1 => ?_)⟩
  refine so io1 s H1 g M1 _ (rs.mono g1) rm1 (SPost.lift (rs.mono g1) h1 fun x M2 io2 H2 u2 e2 g2 rm2 r2 h2 => ?_)
  refine sa io2 s H2 g M2 _ ((rs.mono g1).mono g2) rm2 (SPost.lift ((rs.mono g1).mono g2) h2 fun y M3 io3 H3 u3 e3 g3 rm3 r3 h3 => ?_)
  cases e4 : putOf x y v M3 with
  | none => rw [e4] at h3; exact h3.elim
  | some M4 =>
    rw [e4] at h3
    unfold putOf at e4
    cases x with
    | r i =>
      cases y with
      | p dy =>
        cases v with
        | p d =>
          cases r3 with
          | int k =>
            dsimp only at e4
            cases e5 : M3[i]? with
            | none => rw [e5] at e4; cases e4
            | some mo =>
              rw [e5] at e4
              cases mo with
              | lst ds =>
                obtain ⟨j, e6, e7⟩ := Option.map_eq_some_iff.mp e4
                subst e7
                obtain ⟨q, rfl, hq⟩ := r2
                have hq3 := prefix_get g3.pre hq
                obtain ⟨xs, hx, hs⟩ := rm3.list hq3 e5
                have hv3 : DV io3 X.K H3 u d := DV.mono g3 (DV.mono g2 r1)
                refine ⟨q, xs, k, j, rfl, rfl, hx, by rw [hs.length, ← place_ix]; exact e6, ?_⟩
                have gw : Gr io3 H3 io3 (upd H3 q (.lst (xs.set j u))) := Gr.write (List.mem_of_getElem? hq3)
                exact h3 io3 s _ gw (rm3.write hq3 (hs.set hv3 j)) ((((rs.mono g1).mono g2).mono g3).mono gw)
              | dic _ => cases e4
              | dit _ => cases e4
              | ins _ _ => cases e4
          | _ => cases e4
        | r _ => cases dy <;> cases e4
        | s _ => cases dy <;> cases e4
      | r _ => cases e4
      | s _ => cases e4
    | p _ => cases e4
    | s _ => cases e4
/-- not a call -/
def NoK (e : Expr) : Prop := match e with
  | .Call _ _ _ _ => False
  | _ => True
theorem base_of {n : Str} (h : NoK o) : attributeBase o n X.env (eval o X.env) = eval o X.env := by
  cases o <;> first | rfl | exact h.elim
theorem few_of {cpos : Pos} (h : AllP es) (hl : es.length < 30) : ((backTo cpos (starEach es X.env)).all (fun x => !x.1) && (backToKw cpos (keywordEach [] X.env)).all (fun x => x.1.isSome)
      && decide (es.length + ([] : List Keyword).length + (if ([] : List Keyword).isEmpty then 0 else 1) < 30)) = true := by
  have z : (backTo cpos (starEach es X.env)).all (fun x => !x.1) = true := by
    have := any_of (pos := cpos) (env := X.env) h
    rw [List.all_eq_not_any_not]
    simpa using this
  rw [z]
  show (true && true && decide (es.length + 0 + 0 < 30)) = true
  simpa using hl
theorem isL_ty {io : Io} {H : Hp} {M : Mem} {x : Vl} {u : V} (rm : RM io X.K H M) (h : isL M x = true) (r : VV io X.K H u x) : ∃ i q, x = .r i ∧ u = .ref q ∧ io.ids[i]? = some q ∧ tyV X.K "list" u H := by
  cases x with
  | r i =>
    obtain ⟨q, rfl, hq⟩ := r
    refine ⟨i, q, rfl, rfl, hq, ?_⟩
    unfold isL at h
    dsimp only at h
    cases e : M[i]? with
    | none => rw [e] at h; cases h
    | some o =>
      rw [e] at h
      cases o with
      | lst ds =>
        obtain ⟨xs, hx, _⟩ := rm.list hq e
        exact .inl ⟨rfl, xs, SqL.of hx⟩
      | dic _ => cases h
      | dit _ => cases h
      | ins _ _ => cases h
  | p d => cases h
  | s ds => cases h
/-- o.append(v) -/
theorem okS_app {apos : Pos} (ho : OkE X W o fo) (hv : OkE X W v fv) (hpv : Pln v) (hk : NoK o) (hline : (apos.endLine == p.line) = true) :
    OkS X W (.Expr (.Call (.Attribute o "append" apos) [v] [] p) pos) (fun g M => lift (fo g M) g fun x M1 => if isL M1 x then lift (fv g M1) g fun v M2 => (appOf x v M2).map fun M3 => (.nx g, M3) else none) := by
  obtain ⟨to, po, so⟩ := ho
  obtain ⟨tv, pv, sv⟩ := hv
  refine ⟨_, ps_expr (pe_bm F.plainAttrs_list F.slot_list_append F.type_list_append mt_append po (pa_cons pv pa_nil (star_of hpv)) (base_of hk) (few_of ⟨hpv, trivial⟩ (by simp)) hline (star_of hpv) rfl) (sw_none trivial), fun io s H g M D rs rm h => ?_⟩
  refine so io s H g M _ rs rm (SPost.lift rs h fun x M1 io1 H1 u1 e1 g1 rm1 r1 h1 => ?_)
  by_cases hL : isL M1 x = true
  · rw [if_pos hL] at h1
    obtain ⟨i, q, rfl, rfl, hq, ty⟩ := isL_ty rm1 hL r1
    refine ⟨ty, sv io1 s H1 g M1 _ (rs.mono g1) rm1 (SPost.lift (rs.mono g1) h1 fun v M2 io2 H2 u2 e2 g2 rm2 r2 h2 => ?_)⟩
    have hq2 := prefix_get g2.pre hq
    cases v with
    | p d =>
      unfold appOf at h2
      dsimp only at h2
      cases e5 : M2[i]? with
      | none => rw [e5] at h2; exact h2.elim
      | some mo =>
        rw [e5] at h2
        cases mo with
        | lst ds =>
          dsimp only at h2
          by_cases hz : ds.length < line
          · rw [if_pos hz] at h2
            obtain ⟨xs, hx, hs⟩ := rm2.list hq2 e5
            have gw : Gr io2 H2 io2 (upd H2 q (.lst (xs ++ [u2]))) := Gr.write (List.mem_of_getElem? hq2)
            refine ⟨q, xs, u2, rfl, rfl, hx, by rw [hs.length, ← line_eq]; exact hz, ?_⟩
            exact h2 io2 s _ gw (rm2.write hq2 (hs.snoc r2)) (((rs.mono g1).mono g2).mono gw)
          · rw [if_neg hz] at h2
            exact h2.elim
        | dic _ => exact h2.elim
        | dit _ => exact h2.elim
        | ins _ _ => exact h2.elim
    | r _ => exact h2.elim
    | s _ => exact h2.elim
  · rw [if_neg hL] at h1
    exact h1.elim
/-- o.extend(v) -/
theorem okS_ext {apos : Pos} (ho : OkE X W o fo) (hv : OkE X W v fv) (hpv : Pln v) (hk : NoK o) (hline : (apos.endLine == p.line) = true) :
    OkS X W (.Expr (.Call (.Attribute o "extend" apos) [v] [] p) pos) (fun g M => lift (fo g M) g fun x M1 => if isL M1 x then lift (fv g M1) g fun v M2 => (extOf x v M2).map fun M3 => (.nx g, M3) else none) := by
  obtain ⟨to, po, so⟩ := ho
  obtain ⟨tv, pv, sv⟩ := hv
  refine ⟨_, ps_expr (pe_bm F.plainAttrs_list F.slot_list_extend F.type_list_extend mt_extend po (pa_cons pv pa_nil (star_of hpv)) (base_of hk) (few_of ⟨hpv, trivial⟩ (by simp)) hline (star_of hpv) rfl) (sw_none trivial), fun io s H g M D rs rm h => ?_⟩
  refine so io s H g M _ rs rm (SPost.lift rs h fun x M1 io1 H1 u1 e1 g1 rm1 r1 h1 => ?_)
  by_cases hL : isL M1 x = true
  · rw [if_pos hL] at h1
    obtain ⟨i, q, rfl, rfl, hq, ty⟩ := isL_ty rm1 hL r1
    refine ⟨ty, sv io1 s H1 g M1 _ (rs.mono g1) rm1 (SPost.lift (rs.mono g1) h1 fun v M2 io2 H2 u2 e2 g2 rm2 r2 h2 => ?_)⟩
    have hq2 := prefix_get g2.pre hq
    cases v with
    | p d =>
      cases r2 with
      | @lst b zs es hb hn hes =>
        unfold extOf at h2
        dsimp only at h2
        cases e5 : M2[i]? with
        | none => rw [e5] at h2; exact h2.elim
        | some mo =>
          rw [e5] at h2
          cases mo with
          | lst ds =>
            dsimp only at h2
            by_cases hz : ds.length + es.length ≤ line
            · rw [if_pos hz] at h2
              obtain ⟨xs, hx, hs⟩ := rm2.list hq2 e5
              have gw : Gr io2 H2 io2 (upd H2 q (.lst (xs ++ zs))) := Gr.write (List.mem_of_getElem? hq2)
              refine ⟨q, b, xs, zs, rfl, rfl, hx, hb, by rw [hs.length, hes.length, ← line_eq]; exact hz, ?_⟩
              exact h2 io2 s _ gw (rm2.write hq2 (hs.append hes)) (((rs.mono g1).mono g2).mono gw)
            · rw [if_neg hz] at h2
              exact h2.elim
          | dic _ => exact h2.elim
          | dit _ => exact h2.elim
          | ins _ _ => exact h2.elim
      | _ => exact h2.elim
    | r _ => exact h2.elim
    | s _ => exact h2.elim
  · rw [if_neg hL] at h1
    exact h1.elim
theorem seqIx {i : Int} {n k : Nat} (h : place n i = some k) (hn : n ≤ line) : seqIndex? i n = some k ∧ -(2 ^ 63) ≤ i ∧ i < 2 ^ 63 := by
  rw [place_ix] at h
  obtain ⟨h1, h2, h3, h4⟩ := ixN_seq h
  have l : line = 16777216 := rfl
  exact ⟨h1, by omega, by omega⟩
/-- o.pop() -/
theorem okE_pop0 {apos : Pos} (ho : OkE X W o fo) (hk : NoK o) (hline : (apos.endLine == p.line) = true) :
    OkE X W (.Call (.Attribute o "pop" apos) [] [] p) (fun g M => (fo g M).bind fun x M1 => if isL M1 x then popOf x [] M1 else .bad) := by
  obtain ⟨to, po, so⟩ := ho
  refine ⟨_, pe_bm0 F.plainAttrs_list F.slot_list_pop F.type_list_pop mt_pop po (base_of hk) hline, fun io s H g M Q rs rm hp => ?_⟩
  refine so io s H g M _ rs rm (hp.seq fun x M1 io1 H1 u1 e1 g1 rm1 r1 h1 => ?_)
  by_cases hL : isL M1 x = true
  · rw [if_pos hL] at h1
    obtain ⟨i, q, rfl, rfl, hq, ty⟩ := isL_ty rm1 hL r1
    refine ⟨ty, ?_⟩
    unfold popOf at h1
    dsimp only at h1
    cases e5 : M1[i]? with
    | none => rw [e5] at h1; exact h1.elim
    | some mo =>
      rw [e5] at h1
      cases mo with
      | lst ds =>
        dsimp only at h1
        cases e6 : ds[ds.length - 1]? with
        | none => rw [e6] at h1; exact h1.elim
        | some d =>
          rw [e6] at h1
          obtain ⟨xs, hx, hs⟩ := rm1.list hq e5
          obtain ⟨v, hv, rv⟩ := hs.get e6
          have gw : Gr io1 H1 io1 (upd H1 q (.lst xs.dropLast)) := Gr.write (List.mem_of_getElem? hq)
          exact ⟨q, xs, v, rfl, rfl, hx, by rw [hs.length]; exact hv, h1 io1 _ v gw (rm1.write hq hs.dropLast) (DV.mono gw rv)⟩
      | dic _ => exact h1.elim
      | dit _ => exact h1.elim
      | ins _ _ => exact h1.elim
  · rw [if_neg hL] at h1
    exact h1.elim
/-- o.pop(i) -/
theorem okE_pop1 {apos : Pos} (ho : OkE X W o fo) (hv : OkE X W v fv) (hpv : Pln v) (hk : NoK o) (hline : (apos.endLine == p.line) = true) :
    OkE X W (.Call (.Attribute o "pop" apos) [v] [] p) (fun g M => (fo g M).bind fun x M1 => if isL M1 x then (fv g M1).bind fun y M2 => popOf x [y] M2 else .bad) := by
  obtain ⟨to, po, so⟩ := ho
  obtain ⟨tv, pv, sv⟩ := hv
  refine ⟨_, pe_bm F.plainAttrs_list F.slot_list_pop F.type_list_pop mt_popAt po (pa_cons pv pa_nil (star_of hpv)) (base_of hk) (few_of ⟨hpv, trivial⟩ (by simp)) hline (star_of hpv) rfl, fun io s H g M Q rs rm hp => ?_⟩
  refine so io s H g M _ rs rm (hp.seq fun x M1 io1 H1 u1 e1 g1 rm1 r1 h1 => ?_)
  by_cases hL : isL M1 x = true
  · rw [if_pos hL] at h1
    obtain ⟨i, q, rfl, rfl, hq, ty⟩ := isL_ty rm1 hL r1
    refine ⟨ty, sv io1 s H1 g M1 _ (rs.mono g1) rm1 (h1.seq fun y M2 io2 H2 u2 e2 g2 rm2 r2 h2 => ?_)⟩
    have hq2 := prefix_get g2.pre hq
    unfold popOf at h2
    dsimp only at h2
    cases e5 : M2[i]? with
    | none => rw [e5] at h2; exact h2.elim
    | some mo =>
      rw [e5] at h2
      cases mo with
      | lst ds =>
        cases y with
        | p d =>
          cases r2 with
          | int k =>
            dsimp only at h2
            cases e6 : place ds.length k with
            | none => rw [e6] at h2; exact h2.elim
            | some j =>
              rw [e6] at h2
              dsimp only at h2
              have hz : ds.length ≤ line := by
                by_cases hz : ds.length ≤ line
                · exact hz
                · rw [if_neg hz] at h2
                  exact h2.elim
              rw [if_pos hz] at h2
              cases e7 : ds[j]? with
              | none => rw [e7] at h2; exact h2.elim
              | some d =>
                rw [e7] at h2
                obtain ⟨xs, hx, hs⟩ := rm2.list hq2 e5
                obtain ⟨v, hv, rv⟩ := hs.get e7
                have gw : Gr io2 H2 io2 (upd H2 q (.lst (xs.eraseIdx j))) := Gr.write (List.mem_of_getElem? hq2)
                obtain ⟨z1, z2, z3⟩ := seqIx e6 hz
                exact ⟨q, xs, k, j, v, rfl, rfl, hx, z2, z3, by rw [hs.length]; exact z1, hv, h2 io2 _ v gw (rm2.write hq2 (hs.erase j)) (DV.mono gw rv)⟩
          | _ => exact h2.elim
        | r _ => exact h2.elim
        | s _ => exact h2.elim
      | dic _ => exact h2.elim
      | dit _ => exact h2.elim
      | ins _ _ => exact h2.elim
  · rw [if_neg hL] at h1
    exact h1.elim
end
end Eg

/-! Engine, part J: a call's exit; the meaning of a text of defs. By an AI agent. -/
namespace Eg
open PySem PySem.Spec PyProof.Rows L2
/-! ### the memory is cut at a call's end -/
def Io.cut (io : Io) (L : Nat) (q : Option Addr) : Io := ⟨io.ids.take L, io.no.filter (fun a => decide (a ∈ io.ids.take L) || (!decide (a ∈ io.ids.drop L) || decide (q = some a))), fun a h => List.mem_filter.mpr ⟨io.sub a (List.mem_of_mem_take h), by simp [h]⟩⟩
section
variable {io io' : Io} {K : PySem.W.Frag} {H H' : Hp} {M M' : Mem} {L : Nat} {q : Option Addr}
theorem Io.cut_less : ∀ a, a ∈ (io.cut L q).no → a ∈ io.no := fun _ h => (List.mem_filter.mp h).1
theorem cut_take (g : Gr io H io' H') (hL : io.ids.length = L) : io'.ids.take L = io.ids := by
  obtain ⟨t, ht⟩ := g.pre
  rw [← ht, ← hL, List.take_left']
  rfl
theorem Gr.cut (g : Gr io H io' H') (rm : RM io K H M) (hL : io.ids.length = L) : Gr io H (io'.cut L q) H' := by
  have ht := cut_take g hL
  refine ⟨by show io.ids <+: io'.ids.take L; rw [ht]; exact List.prefix_refl _, fun a h => ?_, fun a h n => ?_, fun a h n => g.new a (Io.cut_less a h) n, g.keep⟩
  · refine List.mem_filter.mpr ⟨g.mor a h, ?_⟩
    by_cases ha : a ∈ io.ids
    · rw [ht]; simp [ha]
    · have : a ∉ io'.ids.drop L := fun z => by
        have := g.newi a (List.mem_of_mem_drop z) ha
        obtain ⟨u, e⟩ := rm.all a h
        rw [this] at e
        cases e
      simp [this]
  · have h : a ∈ io'.ids.take L := h
    rw [ht] at h
    exact absurd h n
theorem ids_cut {l : List Addr} {a : Addr} {i L : Nat} (nd : l.Nodup) (ha : l[i]? = some a) (hi : i < L) : ∀ (j : Nat) (b : Addr) (n : Nat), j ≤ n → l[n]? = some a → l[j]? = some b → (l.take L)[j]? = some b := fun j b n hj hn hb => by
  have e : n = i := by
    obtain ⟨l1, _⟩ := List.getElem?_eq_some_iff.mp hn
    exact (List.getElem?_inj l1 nd).mp (by rw [hn, ha])
  subst e
  rw [List.getElem?_take, if_pos (by omega)]
  exact hb
theorem RM.cut (r : RM io' K H' M') : RM (io'.cut L q) K H' (M'.take L) := by
  refine ⟨by show (io'.ids.take L).length = _; rw [List.length_take, List.length_take, r.len], r.nd.sublist (List.take_sublist _ _), fun i a o e1 e2 => ?_, fun a h => r.all a (Io.cut_less a h)⟩
  have e1 : (io'.ids.take L)[i]? = some a := e1
  rw [List.getElem?_take] at e1 e2
  split at e1
  · rename_i hi
    rw [if_pos hi] at e2
    exact (r.at_ i a o e1 e2).less Io.cut_less (ids_cut r.nd e1 hi)
  · cases e1
theorem cut_out {i : Nat} {a : Addr} (r : RM io' K H' M') (e : io'.ids[i]? = some a) (h : L ≤ i) : a ∉ (io'.cut L q).ids ∧ (q = none → a ∉ (io'.cut L q).no) ∧ (q = some a → a ∈ (io'.cut L q).no) := by
  have hd : a ∈ io'.ids.drop L := by
    refine List.mem_of_getElem? (i := i - L) ?_
    rw [List.getElem?_drop, show L + (i - L) = i by omega]
    exact e
  have ht : a ∉ io'.ids.take L := fun z => by
    have nd := r.nd
    rw [← List.take_append_drop L io'.ids, List.nodup_append] at nd
    exact nd.2.2 a z a hd rfl
  refine ⟨ht, fun hq z => ?_, fun hq => List.mem_filter.mpr ⟨io'.sub a (List.mem_of_getElem? e), by simp [hq]⟩⟩
  have := (List.mem_filter.mp z).2
  simp [ht, hd, hq] at this
end
/-- a def: its name, its parameters, its slots, its body; keep: the list it returns goes on in the caller's memory -/
structure Df where
  name : String
  np : Nat
  ns : Nat
  keep : Bool
  body : Sms
def startG (n : Nat) (args : List Vl) : Sg := args.map some ++ List.replicate (n - args.length) none
/-- lists that are new become data -/
def fzOf (L : Nat) (M : Mem) : Vl → Option D
  | .p d => some d
  | .r i => if i < L then none else match M[i]? with
    | some (.lst ds) => some (.list ds)
    | _ => none
  | .s _ => none
def fzAll (L : Nat) (M : Mem) : List Vl → Option (List D)
  | [] => some []
  | v :: vs => (fzOf L M v).bind fun d => (fzAll L M vs).map (d :: ·)
/-- what a call gives, its memory cut -/
def fin (keep : Bool) (L : Nat) : Ro → Rs Vl
  | none => .bad
  | some (.nx _, M') => .ok (.p .none) (M'.take L)
  | some (.rt (.p d), M') => .ok (.p d) (M'.take L)
  | some (.rt (.s ds), M') => .ok (.s ds) (M'.take L)
  | some (.rt (.r i), M') => if i < L then .ok (.r i) (M'.take L) else match M'[i]? with
    | some (.lst ds) => if keep then .ok (.r L) (M'.take L ++ [.lst ds]) else .ok (.p (.list ds)) (M'.take L)
    | some (.dic ds) => .ok (.r L) (M'.take L ++ [.dic ds])
    | some (.dit ds) => .ok (.r L) (M'.take L ++ [.dit ds])
    | some (.ins _ _) => .ok (.r i) M'
    | _ => .bad
  | some (.rl vs, M') => match fzAll L M' vs with
    | some ds => .ok (.p (.tuple ds)) (M'.take L)
    | none => .bad
  | some (.bk _, _) => .bad
  | some (.xc _ c fs, M') => .exc c fs (M'.take L)
def findD : List Df → String → Option Df
  | [], _ => none
  | d :: ds, f => if d.name = f then some d else findD ds f
def callF (wh : Wh) (defs : List Df) : Nat → Fns
  | 0, _, _, _ => .bad
  | n + 1, f, args, M => match findD defs f with
    | none => .bad
    | some d => if args.length = d.np then fin d.keep M.length (execs (callF wh defs n) wh d.body (startG d.ns args) M) else .bad
section
variable {io : Io} {K : PySem.W.Frag} {H : Hp} {M : Mem} {keep : Bool} {r : Ro} {Q : VK} {E : XK}
theorem fin_ok (rm : RM io K H M) (h : Post K (RV K) io H (fin keep M.length r) Q E) : SPost K io H r { nx := fun _ H' => Q .non H', rt := Q } (fun cls d _ H' => E cls d H') := by
  have hL := rm.len
  match r, h with
  | none, h => exact h
  | some (.nx _, M'), h =>
    intro io' s' H' g' rm' rs'
    exact h (io'.cut M.length none) H' .non (g'.cut rm hL) rm'.cut .non
  | some (.rt (.p d), M'), h =>
    intro io' u H' g' rm' ru
    exact h (io'.cut M.length none) H' u (g'.cut rm hL) rm'.cut (DV.less Io.cut_less ru)
  | some (.rt (.s ds), M'), h =>
    intro io' u H' g' rm' ru
    obtain ⟨a, xs, e, hx, hs⟩ := ru
    refine h (io'.cut M.length none) H' u (g'.cut rm hL) rm'.cut ⟨a, xs, e, ?_, hs.less Io.cut_less⟩
    exact hx.elim (fun ⟨k, n⟩ => .inl ⟨k, fun z => n (Io.cut_less _ z)⟩) .inr
  | some (.rt (.r i), M'), h =>
    intro io' u H' g' rm' ru
    obtain ⟨a, rfl, ha⟩ := ru
    unfold fin at h
    dsimp only at h
    by_cases hi : i < M.length
    · rw [if_pos hi] at h
      refine h (io'.cut M.length none) H' _ (g'.cut rm hL) rm'.cut ⟨a, rfl, ?_⟩
      show (io'.ids.take M.length)[i]? = some a
      rw [List.getElem?_take, if_pos hi]
      exact ha
    · rw [if_neg hi] at h
      cases e : M'[i]? with
      | none => rw [e] at h; exact h.elim
      | some o =>
        rw [e] at h
        cases o with
        | lst ds =>
          obtain ⟨xs, hx, hs⟩ := rm'.list ha e
          cases keep with
          | false =>
            obtain ⟨h1, h2, _⟩ := cut_out (L := M.length) (q := none) rm' ha (by omega)
            exact h (io'.cut M.length none) H' _ (g'.cut rm hL) rm'.cut (.lst hx (h2 rfl) (hs.less Io.cut_less))
          | true =>
            obtain ⟨h1, _, h3⟩ := cut_out (L := M.length) (q := some a) rm' ha (by omega)
            have h0 : H a = none := by
              refine g'.newi a (List.mem_of_getElem? ha) fun z => ?_
              have ht := cut_take g' hL
              have h1 : a ∉ io'.ids.take M.length := h1
              rw [ht] at h1
              exact h1 z
            refine h ((io'.cut M.length (some a)).take a (h3 rfl)) H' _ ((g'.cut rm hL).take (h3 rfl) h0) (rm'.cut.take (h3 rfl) h1 hx (hs.less Io.cut_less)) ⟨a, rfl, ?_⟩
            show (io'.ids.take M.length ++ [a])[M.length]? = some a
            have l : (io'.ids.take M.length).length = M.length := by rw [cut_take g' hL, hL]
            rw [List.getElem?_append_right (by omega), l, Nat.sub_self]
            rfl
        | dic ds =>
          obtain ⟨h1, _, h3⟩ := cut_out (L := M.length) (q := some a) rm' ha (by omega)
          have h0 : H a = none := by
            refine g'.newi a (List.mem_of_getElem? ha) fun z => ?_
            have ht := cut_take g' hL
            have h1 : a ∉ io'.ids.take M.length := h1
            rw [ht] at h1
            exact h1 z
          refine h ((io'.cut M.length (some a)).take a (h3 rfl)) H' _ ((g'.cut rm hL).take (h3 rfl) h0) (rm'.cut.takeM (h3 rfl) h1 (MOk.lessD (rm'.at_ i a _ ha e) Io.cut_less (fun _ _ z => by cases z))) ⟨a, rfl, ?_⟩
          show (io'.ids.take M.length ++ [a])[M.length]? = some a
          have l : (io'.ids.take M.length).length = M.length := by rw [cut_take g' hL, hL]
          rw [List.getElem?_append_right (by omega), l, Nat.sub_self]
          rfl
        | dit ds =>
          obtain ⟨h1, _, h3⟩ := cut_out (L := M.length) (q := some a) rm' ha (by omega)
          have h0 : H a = none := by
            refine g'.newi a (List.mem_of_getElem? ha) fun z => ?_
            have ht := cut_take g' hL
            have h1 : a ∉ io'.ids.take M.length := h1
            rw [ht] at h1
            exact h1 z
          refine h ((io'.cut M.length (some a)).take a (h3 rfl)) H' _ ((g'.cut rm hL).take (h3 rfl) h0) (rm'.cut.takeM (h3 rfl) h1 (MOk.lessD (rm'.at_ i a _ ha e) Io.cut_less (fun _ _ z => by cases z))) ⟨a, rfl, ?_⟩
          show (io'.ids.take M.length ++ [a])[M.length]? = some a
          have l : (io'.ids.take M.length).length = M.length := by rw [cut_take g' hL, hL]
          rw [List.getElem?_append_right (by omega), l, Nat.sub_self]
          rfl
        | ins _ _ => exact h io' H' _ g' rm' ⟨a, rfl, ha⟩
  | some (.rl vs, M'), h =>
    intro io' u H' g' rm' ru
    obtain ⟨a, xs, rfl, ht, hv⟩ := ru
    unfold fin at h
    dsimp only at h
    cases e : fzAll M.length M' vs with
    | none => rw [e] at h; exact h.elim
    | some ds =>
      rw [e] at h
      have one : ∀ {u : V} {v : Vl} {d : D}, VV io' K H' u v → fzOf M.length M' v = some d → DV (io'.cut M.length none) K H' u d := by
        intro u v d r q
        cases v with
        | p x => cases q; exact DV.less Io.cut_less r
        | s _ => cases q
        | r i =>
          obtain ⟨b, rfl, hb⟩ := r
          unfold fzOf at q
          dsimp only at q
          by_cases hi : i < M.length
          · rw [if_pos hi] at q; cases q
          · rw [if_neg hi] at q
            cases e2 : M'[i]? with
            | none => rw [e2] at q; cases q
            | some o =>
              rw [e2] at q
              cases o with
              | lst es =>
                cases q
                obtain ⟨ys, hy, hs⟩ := rm'.list hb e2
                obtain ⟨_, h2, _⟩ := cut_out (L := M.length) (q := none) rm' hb (by omega)
                exact .lst hy (h2 rfl) (hs.less Io.cut_less)
              | _ => cases q
      have all : ∀ {us : List V} {vs : List Vl} {ds : List D}, VVs io' K H' us vs → fzAll M.length M' vs = some ds → DVs (io'.cut M.length none) K H' us ds := by
        intro us vs
        induction vs generalizing us with
        | nil => intro ds r q; cases r; cases q; exact .nil
        | cons v vs ih =>
          intro ds r q
          cases r with
          | cons r rs =>
            obtain ⟨d, q1, q2⟩ := Option.bind_eq_some_iff.mp q
            obtain ⟨ds', q3, rfl⟩ := Option.map_eq_some_iff.mp q2
            exact .cons (one r q1) (ih rs q3)
      refine h (io'.cut M.length none) H' _ (g'.cut rm hL) rm'.cut (.tup ?_ (all hv e))
      exact ht.elim (fun ⟨k, n⟩ => .inl ⟨k, fun z => n (Io.cut_less _ z)⟩) .inr
  | some (.bk g, M'), h => exact h.elim
  | some (.xc g c fs, M'), h =>
    intro io' s' H' cls d g' rm' rs' xr
    obtain ⟨e, dd, fv, ed, hd, n, hf⟩ := xr
    exact h (io'.cut M.length none) H' cls d (g'.cut rm hL) rm'.cut ⟨e, dd, fv, ed, hd, fun z => n (Io.cut_less _ z), fun f v e => let ⟨u, e1, r⟩ := hf f v e; ⟨u, e1, DV.less Io.cut_less r⟩⟩
end
end Eg

/-! Engine, exceptions, part a: try with several clauses, each with or without a name. By an AI agent. -/
namespace Eg
open PySem PySem.Spec PyProof.Rows L2
/-- a clause: its class, its name's slot, what its suite asks -/
abbrev Cl := Value × Option Nat × (Addr → Value → Option Addr → TS)
def offN : Option Nat → L2.St → L2.St
  | none, s => s
  | some i, s => s.set i none
def onN : Option Nat → Addr → L2.St → L2.St
  | none, _, s => s
  | some i, a, s => s.set i (some (.ref a))
def endsN (oi : Option Nat) (D : Ends) : Ends :=
  { nx := fun s H => D.nx (offN oi s) H, rt := D.rt, bk := fun s H => D.bk (offN oi s) H, ct := fun s H => D.ct (offN oi s) H }
/-- what the clauses make of an exception, one behind the other -/
def wCl (K : PySem.W.Frag) (Wout : WX) (D : Ends) : List Cl → WX
  | [] => Wout
  | (c, oi, ts) :: r => fun cls d s H => ∃ b, PySem.W.exmOne K cls c = some b ∧
      (b = true → ∀ a, H a = none → ts a cls d (endsN oi D) (onN oi a s) H) ∧ (b = false → wCl K Wout D r cls d s H)
def NmOk (X : Cx) : Option Str → Option Nat → Prop
  | none, none => True
  | some n, some i => X.N[i]? = some n ∧ X.env.kindOf n = some .local
  | _, _ => False
def SuOk (X : Cx) (sts : List Stmt) (ts : Addr → Value → Option Addr → TS) : Prop :=
  ∀ (a : Addr) (o : Obj) (cls : Value) (d : Option Addr) (pn : List (Addr × Obj)), Zc cls d o → (∃ vs, o.data = .fields vs) → PSs (X.suite a ((a, o) :: pn)) sts (ts a cls d)
inductive ClOk (X : Cx) : List ExceptHandler → List Cl → Prop
  | nil : ClOk X [] []
  | cons {x : Str} {c : Value} {nm : Option Str} {oi : Option Nat} {ts : Addr → Value → Option Addr → TS} {b : Stmt} {bs : List Stmt} {p p' : Pos} {hds : List ExceptHandler} {l : List Cl}
      (hc : Names X x c) (hn : NmOk X nm oi) (hs : SuOk X (b :: bs) ts) (r : ClOk X hds l) :
      ClOk X (.ExceptHandler (some (.Name x p)) nm (b :: bs) p' :: hds) ((c, oi, ts) :: l)
section
variable {X : Cx} {pins : List (Addr × Obj)} {σ : L2.St} {H : Hp} {D : Ends} {s0 : Shared} {a : Addr}
/-- the exception's state: what the suite stands on -/
theorem frame_out {B h : Heap} {o : Obj} {vs : Array Value} {l : List Env} (ff : h.FunFrames B l) (e : h.get? a = some o) (dd : o.data = .fields vs) : a ∉ frs l := fun hm => by
  obtain ⟨_, o', e', hn⟩ := ff.mem hm
  rw [e] at e'
  cases e'
  exact hn _ dd
theorem flow_back {oi : Option Nat} {nm : Option Str} {q : Addr × Obj} {f : Flow} {s1 : Shared} {p : Pos} {E : Value → Shared → Prop} (ok : X.Ok) (hN : X.N.Nodup) (hn : NmOk X nm oi)
    (h : SP (X.suite a (q :: (X.pn ++ pins))) [] (endsN oi D) f s1) : match nm with
      | none => SP X pins D f s1
      | some n => wpAny (model X.prog X.w) X.A (do bindName X.env n .none; unbindBehindTheSuite X.env n p) (fun _ s2 => SP X pins D f s2) E s1 := by
  cases nm with
  | none =>
    cases oi with
    | some i => exact hn.elim
    | none =>
      cases f with
      | ret u => obtain ⟨v, s6, H6, S6, r6, q6⟩ := h; exact ⟨v, s6, H6, S6.unsuite ok, r6, q6⟩
      | next => obtain ⟨s6, H6, S6, q6⟩ := h; exact ⟨s6, H6, S6.unsuite ok, q6⟩
      | brk => obtain ⟨s6, H6, S6, q6⟩ := h; exact ⟨s6, H6, S6.unsuite ok, q6⟩
      | cont => obtain ⟨s6, H6, S6, q6⟩ := h; exact ⟨s6, H6, S6.unsuite ok, q6⟩
  | some n =>
    cases oi with
    | none => exact hn.elim
    | some i =>
      obtain ⟨hi, hl⟩ := hn
      cases f with
      | ret u => obtain ⟨v, s6, H6, S6, r6, q6⟩ := h; exact gone_ok (S6.unsuite ok) hN hi hl fun s7 J => ⟨v, _, H6, J, r6, q6⟩
      | next => obtain ⟨s6, H6, S6, q6⟩ := h; exact gone_ok (S6.unsuite ok) hN hi hl fun s7 J => ⟨_, H6, J, q6⟩
      | brk => obtain ⟨s6, H6, S6, q6⟩ := h; exact gone_ok (S6.unsuite ok) hN hi hl fun s7 J => ⟨_, H6, J, q6⟩
      | cont => obtain ⟨s6, H6, S6, q6⟩ := h; exact gone_ok (S6.unsuite ok) hN hi hl fun s7 J => ⟨_, H6, J, q6⟩
end
section
variable {X : Cx} {body : List Stmt} {h₀ : ExceptHandler} {hds : List ExceptHandler} {l : List Cl} {pos : Pos} {tb : WX → TS} {Wout : WX}
/-- the catch -/
theorem clauses_ok {pins : List (Addr × Obj)} {σ : L2.St} {H : Hp} {D : Ends} {sI s' : Shared} {B : Heap} {a : Addr} {cls : Value} {d : Option Addr} (hN : X.N.Nodup) (hs : X.stack = X.env :: X.outer) (hf : X.env.frame = some X.env.locals) (tk : Takes X Wout)
    (J : Inv X pins σ H sI) (nb : ∀ b o, sI.heap.get? b = some o → b ∉ frs X.stack → B.get? b = some o) (up : sI.heap.UpToSlots s'.heap) (fl : HandSPX.FlyingZ B (X.env :: X.outer) a (Zc cls d) s'.heap)
    (na : H a = none) (os : s'.os = sI.os) (ag : AllBare s'.gens) : ∀ {hds : List ExceptHandler} {l : List Cl}, ClOk X hds l → wCl X.K Wout D l cls d σ H →
      wpAny (model X.prog X.w) X.A (handleBy (.ref a) X.env hds) (SP X pins D) X.xe s' := by
  have ok := J.ok
  have nb' : ∀ b o, sI.heap.get? b = some o → b ∉ frs X.stack → B.get? b = some o := nb
  have J3 : Inv X pins σ H s' := J.landed nb fl.1 up os ag
  obtain ⟨o3, v3, e3, z3, d3⟩ := fl.there
  have hno := frame_out fl.2.2.1 e3 d3
  have nL : a ≠ X.env.locals := fun z => hno (List.mem_filterMap.mpr ⟨X.env, List.mem_cons_self, by rw [hf, z]⟩)
  have nF : a ∉ X.fs := fun hm => by
    obtain ⟨e, he, q⟩ := List.mem_filterMap.mp hm
    exact hno (List.mem_filterMap.mpr ⟨e, List.mem_cons_of_mem _ he, q⟩)
  have S3 := J3.suite e3 d3 na nL nF
  intro hds l hk
  induction hk with
  | nil =>
    intro w
    refine wpAny_handleBy_nil ?_
    obtain ⟨_, _, _, oe, vs, T, _, _, he, _, hd, h1, _⟩ := id fl
    unfold PySem.passOn
    refine wpAny_bind (wpAny_field he hd h1 ?_)
    rw [if_neg (show ¬ ((Value.ref T == Value.none) = true) from by simp)]
    have out : wpAny (model X.prog X.w) X.A (setFlight (.ref a) X.env.frame) (fun _ z => wpAny (model X.prog X.w) X.A (throw (.ref a) : Sem Flow) (SP X pins D) X.xe z) X.xe s' := by
      rw [hf]
      exact HandSPX.setFlight_upZ fl fun h4 q4 up4 => wpAny_throw (tk _ _ ⟨a, B, sI, pins, σ, H, cls, d, rfl, J, nb', up.trans up4, .inr (.inr (by rw [hs]; exact q4)), na, os, ag, w⟩)
    first
      | exact wpAny_bind (wpAny_pure (wpAny_bind out))
      | exact wpAny_bind out
  | @cons x c nm oi ts b₀ suite np pos' hds2 l2 hc hn hsu r ih =>
    intro w
    obtain ⟨b, hb1, yes, no⟩ := w
    refine wpAny_handleBy_cons (codeAny_handlers_test ?_) (by intro q; cases q)
    have LT : PySem.W.Looks (model X.prog X.w) s'.heap (typeOf (.ref a)) cls := fun _ _ _ z k q => wpAny_typeOf_ref (k _ _ e3) (by rw [z3.1]; exact q)
    have LM := PySem.W.exm_one (M := model X.prog X.w) J3.kIn LT hb1
    have test : ∀ {Q : Value → Shared → Prop} {E : Value → Shared → Prop}, Q c s' → wpAny (model X.prog X.w) (X.A.mark (some (.ref a))) (eval (.Name x np) X.env) Q E s' := fun {Q E} q => by
      obtain ⟨hg, hdb, hm | ⟨hm, hv, hnn⟩⟩ := hc
      · exact ld_glob (X := X.suite a ((a, o3) :: (X.pn ++ pins))) S3 hg hm q hdb
      · exact ld_blt (X := X.suite a ((a, o3) :: (X.pn ++ pins))) S3 hg hm hv q hnn hdb
    refine test (LM.here ?_)
    cases b with
    | false =>
      show wpAny _ X.A (handleBy (.ref a) X.env hds2) _ _ _
      exact ih (no rfl)
    | true =>
      have go : ∀ (h4 : Heap), HandSPX.FlyingZ B (X.env :: X.outer) a (Zc cls d) h4 → s'.heap.UpToSlots h4 → ∃ o4, Zc cls d o4 ∧ (∃ vs, o4.data = .fields vs) ∧ Inv (X.suite a ((a, o4) :: (X.pn ++ pins))) [] σ H { s' with heap := h4 } := fun h4 f4 up4 => by
        have J4 : Inv X pins σ H { s' with heap := h4 } := J.landed nb f4.1 (up.trans up4) os ag
        obtain ⟨o4, v4, e4, z4, d4⟩ := f4.there
        exact ⟨o4, z4, ⟨v4, d4⟩, J4.suite e4 d4 na nL nF⟩
      cases nm with
      | none =>
        refine codeAny_handlers_suite ?_
        refine HandSPX.lands_againZ fl fun h4 f4 up4 => ?_
        obtain ⟨o4, z4, d4, S4⟩ := go h4 f4 up4
        cases oi with
        | some i => exact hn.elim
        | none => exact wpAny_mono ((hsu a o4 cls d (X.pn ++ pins) z4 d4).run [] _ _ H _ S4 (yes rfl a na)) (fun f s6 hp => flow_back (nm := none) (p := pos') (E := fun _ _ => False) ok hN hn hp) fun _ _ z => False.elim z
      | some n =>
        refine codeAny_handlers_suite_as ?_
        refine HandSPX.lands_againZ fl fun h4 f4 up4 => ?_
        obtain ⟨o4, z4, d4, S4⟩ := go h4 f4 up4
        cases oi with
        | none => exact hn.elim
        | some i =>
          refine store_ok (X := X.suite a ((a, o4) :: (X.pn ++ pins))) (v := .ref a) S4 hN hn.1 (.inl hn.2) rfl (fun s5 S5 => ?_) (.inr hn.2)
          exact wpAny_mono ((hsu a o4 cls d (X.pn ++ pins) z4 d4).run [] s5 _ H _ S5 (yes rfl a na)) (fun f s6 hp => flow_back (nm := some n) ok hN hn hp) fun _ _ z => False.elim z
theorem ps_tryN (hN : X.N.Nodup) (hs : X.stack = X.env :: X.outer) (hf : X.env.frame = some X.env.locals) (tk : Takes X Wout)
    (hb : ∀ (W : WX) (pn : List (Addr × Obj)) (xe : Value → Shared → Prop), Takes (X.tr pn xe) W → PassesOwn (model X.prog X.w) X.A X.env xe → PSs (X.tr pn xe) body (tb W))
    (hh : ClOk X (h₀ :: hds) l) : PS X (.Try body (h₀ :: hds) [] [] pos) (fun D s H => tb (wCl X.K Wout D l) D s H) := by
  refine ⟨fun pins s σ H D I h => ?_⟩
  have ok := I.ok
  have hfr : X.A.frames = some (X.env :: X.outer) := ok.frames.trans (by rw [hs])
  refine wpAny_Try_except ?_
  have hB := (hb (wCl X.K Wout D l) (X.pn ++ pins) (fun e s₁ => wpAny (model X.prog X.w) X.A (noteFrame e X.env) (fun _ s₂ => wpAny (model X.prog X.w) X.A (setFlight e none)
    (fun _ s₃ => wpAny (model X.prog X.w) X.A (handleBy e X.env (h₀ :: hds)) (SP X pins D) X.xe s₃) X.xe s₂) X.xe s₁) (fun u s' xx => ?_) PassesOwn.looking).run [] s σ H D (I.toTry _) h
  · refine wpAny_mono hB (fun f s1 hsp => ?_) fun _ _ he => he
    cases f with
    | ret u => obtain ⟨v, s2, H2, J, r, q⟩ := hsp; exact ⟨v, s2, H2, J.ofTry ok, r, q⟩
    | next => obtain ⟨s2, H2, J, q⟩ := hsp; exact wpAny_execs_nil ⟨s2, H2, J.ofTry ok, q⟩
    | brk => obtain ⟨s2, H2, J, q⟩ := hsp; exact ⟨s2, H2, J.ofTry ok, q⟩
    | cont => obtain ⟨s2, H2, J, q⟩ := hsp; exact ⟨s2, H2, J.ofTry ok, q⟩
  · obtain ⟨a, B, sI, pins', s2, H2, cls, d, rfl, J0, nb, up, sky, na, os, ag, w⟩ := xx
    have J : Inv X pins s2 H2 sI := J0.ofTry ok
    have sk : Sky B (X.env :: X.outer) a (Zc cls d) X.env.locals s'.heap := hs ▸ sky
    exact Sky.land Zc.steady hfr hf sk fun h3 fl up3 => clauses_ok (s' := { s' with heap := h3 }) hN hs hf tk J nb (up.trans up3) fl na os ag hh w
end
end Eg

/-! Engine, exceptions, part b: a class of the text over ValueError, its __init__, raise. By an AI agent. -/
namespace Eg
open PySem PySem.Spec PyProof.Rows L2
/-- a class of exceptions: its name, its fields, its __init__ as it stands in the row -/
structure Xd where
  name : String
  fields : List String
  dd : He.DefD
def Xd.S (x : Xd) : Str := Str.ofString x.name
def Xd.F (x : Xd) : List Str := x.fields.map Str.ofString
abbrev xI (K : PySem.W.Frag) (x : Xd) : Addr := He.ma K (He.ga K x.S) "__init__"
def oexB (K : PySem.W.Frag) (C : Addr) : Bool := match K.lookup C with
  | some ⟨.type "type", _, .cls cd, sl⟩ => (match cd.mro, sl.toList with
    | .ref C' :: bm, [_, _, _, _, some (.builtin n), _] => decide (C' = C) && (decide (n = "ValueError.__new__") && (cd.hasDict && (!cd.hasDel && PySem.HandSPX.refsVE bm)))
    | _, _ => false)
  | _ => false
theorem oexB_ok {K : PySem.W.Frag} {C : Addr} (h : oexB K C = true) : ∃ nm q N bs bm sn sub ab col dd k0 k1 k2 k3 k5, K.lookup C = some (excClassObj nm q C N bs bm true sn sub ab col dd k0 k1 k2 k3 k5 "ValueError.__new__") ∧ PySem.HandSPX.refsVE bm = true := by
  unfold oexB at h
  split at h
  · rename_i dd cd sl e
    split at h
    · rename_i C' bm k0 k1 k2 k3 n k5 hm hs
      obtain ⟨h1, h⟩ := Bool.and_eq_true_iff.mp h
      obtain ⟨h2, h⟩ := Bool.and_eq_true_iff.mp h
      obtain ⟨h3, h⟩ := Bool.and_eq_true_iff.mp h
      obtain ⟨h4, h5⟩ := Bool.and_eq_true_iff.mp h
      have z1 : C' = C := of_decide_eq_true h1
      have z2 : n = "ValueError.__new__" := of_decide_eq_true h2
      clear h1 h2
      subst z1 z2
      obtain ⟨nm, bs, mro, ns, qn, hd, sn, sub, ab, col, del⟩ := cd
      dsimp only at hm h3 h4
      subst hm h3
      cases del with
      | true => cases h4
      | false =>
        obtain ⟨l⟩ := sl
        simp only at hs
        subst hs
        exact ⟨nm, qn, ns, bs, bm, sn, sub, ab, col, dd, k0, k1, k2, k3, k5, e, h5⟩
    · cases h
  · cases h
/-- what is looked at behind the top, of a class and of the clauses' classes ts -/
def xB (ts : List String) (K : PySem.W.Frag) (x : Xd) : Bool :=
  let C := He.ga K x.S
  oexB K C && (decide (PySem.W.findIn K (.ref C) "__setattr__" = some (some (.builtin "object.__setattr__"))) && (decide (PySem.W.subIn K (.ref C) (.type "BaseException") = some true) && (decide (PySem.W.typeIn K (.ref C) = some (.type "type")) &&
    (PySem.W.keepIn K (.ref C) && (decide (PySem.W.findIn K (.ref C) "__init__" = some (some (.ref (xI K x)))) && (decide (PySem.W.typeIn K (.ref (xI K x)) = some (.type "function")) && ((x.F.all fun f => decide (PySem.W.findIn K (.ref C) f = some none)) && (xfB K C &&
      (decide (PySem.W.findIn K (.ref C) "__class__" = some (some (.builtin "object.__class__"))) && (decide (PySem.W.specialIn K (.builtin "object.__class__") "__get__" = some (some (.builtin "getset_descriptor.__get__"))) &&
        (decide (PySem.W.takesIn K (.builtin "object.__class__") = some true) && (decide (PySem.W.mroIn K C (.type "object") = some true) && (decide (PySem.W.kitOne K (.ref C) (.type "ValueError") = some true) &&
          ((PySem.W.clsIn K C).isSome && (ts.all fun t => decide (PySem.W.exmOne K (.ref C) (.ref (He.ga K (Str.ofString t))) = some (isSub x.name t)) && decide (PySem.W.kitOne K (.ref C) (.ref (He.ga K (Str.ofString t))) = some (isSub x.name t)))))))))))))))))
structure XK1 (ts : List String) (K : PySem.W.Frag) (x : Xd) : Prop where
  oex : OexC K (He.ga K x.S)
  ini : PySem.W.findIn K (.ref (He.ga K x.S)) "__init__" = some (some (.ref (xI K x)))
  typ : PySem.W.typeIn K (.ref (xI K x)) = some (.type "function")
  noF : ∀ f, f ∈ x.F → PySem.W.findIn K (.ref (He.ga K x.S)) f = some none
  xf : XfC K (He.ga K x.S)
  clsA : PySem.W.findIn K (.ref (He.ga K x.S)) "__class__" = some (some (.builtin "object.__class__"))
  sp : PySem.W.specialIn K (.builtin "object.__class__") "__get__" = some (some (.builtin "getset_descriptor.__get__"))
  tk : PySem.W.takesIn K (.builtin "object.__class__") = some true
  mro : PySem.W.mroIn K (He.ga K x.S) (.type "object") = some true
  kVE : PySem.W.kitOne K (.ref (He.ga K x.S)) (.type "ValueError") = some true
  isC : (PySem.W.clsIn K (He.ga K x.S)).isSome = true
  exm : ∀ t, t ∈ ts → PySem.W.exmOne K (.ref (He.ga K x.S)) (.ref (He.ga K (Str.ofString t))) = some (isSub x.name t)
  kit : ∀ t, t ∈ ts → PySem.W.kitOne K (.ref (He.ga K x.S)) (.ref (He.ga K (Str.ofString t))) = some (isSub x.name t)
theorem xB_ok {ts : List String} {K : PySem.W.Frag} {x : Xd} (h : xB ts K x = true) : XK1 ts K x := by
  unfold xB at h
  obtain ⟨h1, h⟩ := Bool.and_eq_true_iff.mp h
  obtain ⟨h2, h⟩ := Bool.and_eq_true_iff.mp h
  obtain ⟨h3, h⟩ := Bool.and_eq_true_iff.mp h
  obtain ⟨h4, h⟩ := Bool.and_eq_true_iff.mp h
  obtain ⟨h5, h⟩ := Bool.and_eq_true_iff.mp h
  obtain ⟨h6, h⟩ := Bool.and_eq_true_iff.mp h
  obtain ⟨h7, h⟩ := Bool.and_eq_true_iff.mp h
  obtain ⟨h8, h⟩ := Bool.and_eq_true_iff.mp h
  obtain ⟨h9, h⟩ := Bool.and_eq_true_iff.mp h
  obtain ⟨h10, h⟩ := Bool.and_eq_true_iff.mp h
  obtain ⟨h11, h⟩ := Bool.and_eq_true_iff.mp h
  obtain ⟨h12, h⟩ := Bool.and_eq_true_iff.mp h
  obtain ⟨h13, h⟩ := Bool.and_eq_true_iff.mp h
  obtain ⟨h14, h⟩ := Bool.and_eq_true_iff.mp h
  obtain ⟨h15, h16⟩ := Bool.and_eq_true_iff.mp h
  exact { oex := ⟨oexB_ok h1, of_decide_eq_true h2, of_decide_eq_true h3, of_decide_eq_true h4, h5⟩
          ini := of_decide_eq_true h6
          typ := of_decide_eq_true h7
          noF := fun f hf => of_decide_eq_true (List.all_eq_true.mp h8 f hf)
          xf := xfB_ok h9
          clsA := of_decide_eq_true h10
          sp := of_decide_eq_true h11
          tk := of_decide_eq_true h12
          mro := of_decide_eq_true h13
          kVE := of_decide_eq_true h14
          isC := h15
          exm := fun t ht => of_decide_eq_true (Bool.and_eq_true_iff.mp (List.all_eq_true.mp h16 t ht)).1
          kit := fun t ht => of_decide_eq_true (Bool.and_eq_true_iff.mp (List.all_eq_true.mp h16 t ht)).2 }
/-! ### __init__ -/
/-- self.f = p, .. -/
def iniB : List Str → List Str → List Stmt → Bool
  | [], [], [] => true
  | f :: fs, p :: ps, .Assign [.Attribute (.Name s _) g _] (.Name q _) _ :: sts => decide (s = "self") && (decide (g = f) && (decide (q = p) && iniB fs ps sts))
  | _, _, _ => false
/-- what __init__ promises -/
def spI (K : PySem.W.Frag) (fs : List Str) : Sp := fun vs H Q _ => ∃ (a C : Addr) (ws : List V), vs = .ref a :: ws ∧ ws.length = fs.length ∧ OexC K C ∧ (∀ f, f ∈ fs → PySem.W.findIn K (.ref C) f = some none) ∧ H a = some (exo a C none) ∧
  ∀ dx, H dx = none → dx ≠ a → Q .non (upd (upd H dx (exd dx (fs.zip ws).reverse)) a (exo a C (some dx)))
def isFnS (sc : Scope) : Bool := match sc.kind with
  | .function => true
  | _ => false
def iniA (x : Xd) (ns : List Str) : Bool := ns.all (fun y => decide (x.dd.scope.names.lookup y = some .local)) && ((x.dd.scope.names.all fun y => decide (y.2 ≠ .free)) && ((ns.all fun y => !(y == ("__debug__" : Str)) && !(y == ("__classdict__" : Str))) && iniB x.F x.F x.dd.body))
def iniK (x : Xd) (ns : List Str) : Bool := decide ns.Nodup && (decide (x.dd.at_ = (x.S, some ("__init__" : Str))) && (isFnS x.dd.scope && (!x.dd.scope.isCoroutine && (!x.dd.scope.isGenerator && iniA x ns))))
def argsI (a : Arguments) : Option (List Arg) := match a with
  | ⟨[], args, none, [], [], none, []⟩ => some args
  | _ => none
theorem argsI_of {a : Arguments} {args : List Arg} (h : argsI a = some args) : a = ⟨[], args, none, [], [], none, []⟩ := by
  unfold argsI at h
  split at h
  · cases h; rfl
  · cases h
def iniC (x : Xd) : Bool := match argsI x.dd.params with
  | some args => decide (args.map (·.arg) = ("self" : Str) :: x.F) && (decide (1 ≤ x.fields.length ∧ x.fields.length ≤ 2) && (x.dd.dfl.isEmpty && (x.dd.kwd.isEmpty && iniK x (("self" : Str) :: x.F))))
  | none => false
end Eg
namespace Eg
open PySem PySem.Spec PyProof.Rows L2
structure IniF (x : Xd) (args : List Arg) : Prop where
  par : x.dd.params = ⟨[], args, none, [], [], none, []⟩
  nms : args.map (·.arg) = ("self" : Str) :: x.F
  len : 1 ≤ x.fields.length ∧ x.fields.length ≤ 2
  dfl : x.dd.dfl = []
  kwd : x.dd.kwd = []
  at_ : x.dd.at_ = (x.S, some ("__init__" : Str))
  nd : (("self" : Str) :: x.F).Nodup
  sc : FnScope (("self" : Str) :: x.F) (("self" : Str) :: x.F) x.dd.scope
  loc : ∀ y, y ∈ (("self" : Str) :: x.F) → x.dd.scope.names.lookup y = some .local
  dbg : ∀ y, y ∈ (("self" : Str) :: x.F) → (y == ("__debug__" : Str)) = false ∧ (y == ("__classdict__" : Str)) = false
  body : iniB x.F x.F x.dd.body = true
theorem iniC_ok {x : Xd} (h : iniC x = true) : ∃ args, IniF x args := by
  unfold iniC at h
  cases e : argsI x.dd.params with
  | none => rw [e] at h; cases h
  | some args =>
    rw [e] at h
    dsimp only at h
    obtain ⟨h2, h⟩ := Bool.and_eq_true_iff.mp h
    obtain ⟨h3, h⟩ := Bool.and_eq_true_iff.mp h
    obtain ⟨h4, h⟩ := Bool.and_eq_true_iff.mp h
    obtain ⟨h5, h⟩ := Bool.and_eq_true_iff.mp h
    unfold iniK at h
    obtain ⟨h6, h⟩ := Bool.and_eq_true_iff.mp h
    obtain ⟨h7, h⟩ := Bool.and_eq_true_iff.mp h
    obtain ⟨h8, h⟩ := Bool.and_eq_true_iff.mp h
    obtain ⟨h9, h⟩ := Bool.and_eq_true_iff.mp h
    obtain ⟨h10, h⟩ := Bool.and_eq_true_iff.mp h
    unfold iniA at h
    obtain ⟨h11, h⟩ := Bool.and_eq_true_iff.mp h
    obtain ⟨h12, h⟩ := Bool.and_eq_true_iff.mp h
    obtain ⟨h13, h14⟩ := Bool.and_eq_true_iff.mp h
    have fl : ∀ {b : Bool}, (!b) = true → b = false := fun {b} z => by cases b with
      | true => cases z
      | false => rfl
    have loc : ∀ y, y ∈ (("self" : Str) :: x.F) → x.dd.scope.names.lookup y = some .local := fun y hy => of_decide_eq_true (List.all_eq_true.mp h11 y hy)
    refine ⟨args, argsI_of e, of_decide_eq_true h2, of_decide_eq_true h3, List.isEmpty_iff.mp h4, List.isEmpty_iff.mp h5, of_decide_eq_true h7, of_decide_eq_true h6, ⟨?_, fl h9, fl h10, of_decide_eq_true h6, ?_, fun y hy => .inl (loc y hy), fun y hy => of_decide_eq_true (List.all_eq_true.mp h12 y hy)⟩, loc, fun y hy => ?_, h14⟩
    · unfold isFnS at h8
      split at h8
      · assumption
      · cases h8
    · rw [List.take_length]
    · obtain ⟨q1, q2⟩ := Bool.and_eq_true_iff.mp (List.all_eq_true.mp h13 y hy)
      exact ⟨fl q1, fl q2⟩
theorem iniB_cons {f : Str} {fs ps : List Str} {b : List Stmt} {p : Str} (h : iniB (f :: fs) (p :: ps) b = true) : ∃ p1 p2 p3 p4 sts, b = .Assign [.Attribute (.Name "self" p1) f p2] (.Name p p3) p4 :: sts ∧ iniB fs ps sts = true := by
  unfold iniB at h
  split at h
  · cases ‹f :: fs = []›
  · rename_i f' fs' q' ps' s p1 g p2 q p3 p4 sts e1 e2
    cases e1
    cases e2
    obtain ⟨h1, h⟩ := Bool.and_eq_true_iff.mp h
    obtain ⟨h2, h⟩ := Bool.and_eq_true_iff.mp h
    obtain ⟨h3, h4⟩ := Bool.and_eq_true_iff.mp h
    have h1 := of_decide_eq_true h1
    have h2 := of_decide_eq_true h2
    have h3 := of_decide_eq_true h3
    subst h1 h2 h3
    exact ⟨p1, p2, p3, p4, sts, rfl, h4⟩
  · cases h
theorem iniB_nil {b : List Stmt} (h : iniB [] [] b = true) : b = [] := by
  cases b with
  | nil => rfl
  | cons s b => cases h
theorem two_F {x : Xd} (h : 1 ≤ x.fields.length ∧ x.fields.length ≤ 2) : (∃ f, x.F = [f]) ∨ ∃ f g, x.F = [f, g] := by
  unfold Xd.F
  match x.fields, h with
  | [f], _ => exact .inl ⟨_, rfl⟩
  | [f, g], _ => exact .inr ⟨_, _, rfl⟩
  | [], h => exact absurd h.1 (by decide)
  | _ :: _ :: _ :: _, h => exact absurd h.2 (by simp)
section
variable {P : Program} {w : World} {K : PySem.W.Frag} {mg : Str → Option Value} {base : Heap}
theorem ini_fn {x : Xd} {args : List Arg} {fd : FuncData} (I : IniF x args) (F : FunD K x.dd.name x.dd.qual x.dd.params x.dd.body x.dd.scope [] [] (xI K x) fd) : FnOk P w K mg base (L2.CX P w) 1 (xI K x) fd (("self" : Str) :: x.F) (spI K x.F) := by
  refine F.ok (k := 0) I.sc (fun vs H Q E h => ?_) fun cdv A outer s H vs Q E hr h => ?_
  · obtain ⟨a, C, ws, rfl, hl, _⟩ := h
    rw [List.length_cons, List.length_cons, hl]
  · obtain ⟨a, C, ws, rfl, hl, T, hno, ha, hq⟩ := h
    have vis : ∀ y, y ∈ (("self" : Str) :: x.F) → Vis x.dd.scope y := fun y hy => .inl (I.loc y hy)
    have hb := I.body
    have hd := I.dbg
    rcases two_F I.len with ⟨f, hF⟩ | ⟨f, g, hF⟩
    · rw [hF] at hb vis hno hq hl hd ⊢
      obtain ⟨p1, p2, p3, p4, sts, eb, hb⟩ := iniB_cons hb
      have en := iniB_nil hb
      subst en
      match ws, hl with
      | [w1], _ =>
        refine ⟨_, by
          rw [eb]
          exact pss_cons (ps_ost (pe_var (i := 0) rfl (vis _ (by simp))) (pe_var (i := 1) rfl (vis f (by simp)) (hd f (by simp)).1 (hd f (by simp)).2)) pss_nil, ?_⟩
        exact ⟨w1, rfl, .ref a, rfl, a, C, rfl, T, hno f (by simp), .inl ⟨ha, fun dx h1 h2 => hq dx h1 h2⟩⟩
    · rw [hF] at hb vis hno hq hl hd ⊢
      obtain ⟨p1, p2, p3, p4, sts, eb, hb⟩ := iniB_cons hb
      obtain ⟨q1, q2, q3, q4, sts', eb', hb⟩ := iniB_cons hb
      have en := iniB_nil hb
      subst en
      subst eb'
      match ws, hl with
      | [w1, w2], _ =>
        refine ⟨_, by
          rw [eb]
          exact pss_cons (ps_ost (pe_var (i := 0) rfl (vis _ (by simp))) (pe_var (i := 1) rfl (vis f (by simp)) (hd f (by simp)).1 (hd f (by simp)).2)) (pss_cons (ps_ost (pe_var (i := 0) rfl (vis _ (by simp))) (pe_var (i := 2) rfl (vis g (by simp)) (hd g (by simp)).1 (hd g (by simp)).2)) pss_nil), ?_⟩
        refine ⟨w1, rfl, .ref a, rfl, a, C, rfl, T, hno f (by simp), .inl ⟨ha, fun dx h1 h2 => ?_⟩⟩
        refine ⟨w2, rfl, .ref a, rfl, a, C, rfl, T, hno g (by simp), .inr ⟨dx, [(f, w1)], upd_same, (upd_ne h2).trans upd_same, by simp, ?_⟩⟩
        have e : upd (upd (upd H dx (exd dx [(f, w1)])) a (exo a C (some dx))) dx (exd dx [(g, w2), (f, w1)]) = upd (upd H dx (exd dx [(g, w2), (f, w1)])) a (exo a C (some dx)) := by
          funext b
          by_cases hb : b = dx
          · subst hb
            rw [upd_same, upd_ne h2, upd_same]
          · by_cases hba : b = a
            · subst hba
              rw [upd_ne hb, upd_same, upd_same]
            · rw [upd_ne hb, upd_ne hba, upd_ne hb, upd_ne hba, upd_ne hb]
        show Q .non (upd (upd (upd H dx (exd dx [(f, w1)])) a (exo a C (some dx))) dx (exd dx [(g, w2), (f, w1)]))
        rw [e]
        exact hq dx h1 h2
end
end Eg

/-! Engine, exceptions, part c: raise, suites, try. By an AI agent. -/
namespace Eg
open PySem PySem.Spec PyProof.Rows L2
/-! ### raise -/
theorem RM.more {io : Io} {K : PySem.W.Frag} {H H' : Hp} {M : Mem} (r : RM io K H M) (k : ∀ a o, H a = some o → H' a = some o) : RM io K H' M ∧ Gr io H io H' := by
  have g : Gr io H io H' := ⟨List.prefix_refl _, fun _ h => h, fun _ h n => absurd h n, fun _ h n => absurd h n, fun a u e _ => k a u e⟩
  refine ⟨⟨r.len, r.nd, fun i a o e1 e2 => ?_, fun a h => let ⟨u, e⟩ := r.all a h; ⟨u, k a u e⟩⟩, g⟩
  obtain ⟨u, e⟩ := r.all a (io.sub a (List.mem_of_getElem? e1))
  exact (r.at_ i a o e1 e2).mono g (by rw [e, k a u e])
theorem zip_look {io : Io} {K : PySem.W.Frag} {H : Hp} : ∀ {fl : List String} {ds : List D} {us : List V}, (fl.map Str.ofString).Nodup → DVs io K H us ds → ds.length = fl.length → 1 ≤ fl.length ∧ fl.length ≤ 2 →
    ∀ f v, (fl.zip ds).lookup f = some v → ∃ u, (((fl.map Str.ofString).zip us).reverse).lookup (Str.ofString f) = some u ∧ DV io K H u v := by
  intro fl ds us nd hd hl hz f v e
  match fl, ds, us, hd, hl, hz with
  | [f1], [d1], [u1], .cons h1 .nil, _, _ =>
    simp only [List.zip_cons_cons, List.zip_nil_right, List.lookup_cons, List.lookup_nil] at e
    by_cases q : f = f1
    · subst q
      simp only [beq_self_eq_true] at e
      cases e
      exact ⟨u1, by simp, h1⟩
    · have q2 : (f == f1) = false := by simpa using q
      simp [q2] at e
  | [f1, f2], [d1, d2], [u1, u2], .cons h1 (.cons h2 .nil), _, _ =>
    have nd : Str.ofString f1 ≠ Str.ofString f2 := by
      have := List.nodup_cons.mp nd
      simpa using this.1
    simp only [List.zip_cons_cons, List.zip_nil_right, List.lookup_cons, List.lookup_nil] at e
    by_cases q : f = f1
    · subst q
      simp only [beq_self_eq_true] at e
      cases e
      have z : (Str.ofString f == Str.ofString f2) = false := by simpa using nd
      exact ⟨u1, by simp [List.lookup, z], h1⟩
    · have q2 : (f == f1) = false := by simpa using q
      simp only [q2] at e
      by_cases q3 : f = f2
      · subst q3
        simp only [beq_self_eq_true] at e
        cases e
        exact ⟨u2, by simp [List.lookup], h2⟩
      · have q4 : (f == f2) = false := by simpa using q3
        simp [q4] at e
  | [_], [], _, _, h, _ => cases h
  | [_], _ :: _ :: _, _, _, h, _ => simp at h
  | [_, _], [], _, _, h, _ => cases h
  | [_, _], [_], _, _, h, _ => simp at h
  | [_, _], _ :: _ :: _ :: _, _, _, h, _ => simp at h
  | [], _, _, _, _, h => exact absurd h.1 (by decide)
  | _ :: _ :: _ :: _, _, _, _, _, h => exact absurd h.2 (by simp)
section
variable {X : Cx} {W : WX} {es : List Expr} {e : Expr} {pos pos2 p : Pos} {fs : Sg → Mem → Rs (List Vl)}
theorem okS_rse {x : Xd} {ts : List String} {fd : FuncData} {k : Nat} (hc : X.calm = true) (tk : Takes X W) (hr : Room (k + 2) X.A) (T : XK1 ts X.K x) (hz : 1 ≤ x.fields.length ∧ x.fields.length ≤ 2) (nd : (x.fields.map Str.ofString).Nodup)
    (F1 : FnOk X.prog X.w X.K X.mg X.base (L2.CX X.prog X.w) 1 (xI X.K x) fd ("self" :: x.F) (spI X.K x.F)) (hb : Binds X.K fd ("self" :: x.F) []) (hg : Gl X x.S) (hm : X.mg x.S = some (.ref (He.ga X.K x.S))) (hd : (x.S == ("__debug__" : Str)) = false)
    (hpl : AllP (e :: es)) (ha : OkA X W (e :: es) fs) :
    OkS X W (.Raise (some (.Call (.Name x.S p) (e :: es) [] pos)) none pos2) (fun g M => lift (fs g M) g fun vs M1 => (plains vs).bind fun ds => if ds.length = x.fields.length then some (.xc g x.name (x.fields.zip ds), M1) else none) := by
  obtain ⟨t, pa, sa⟩ := ha
  refine ⟨_, ps_raise hc tk (pmk_oex T.oex T.ini T.typ F1 (hr.mono (by omega)) hb .nil (fun _ _ _ _ _ _ _ ⟨_, _, _, _, _, _, _, _, _, _, _, _, z⟩ => z.elim) hg hm pa hd (star_of hpl.1) (any_of hpl.2)), fun io s H g M D rs rm h => ?_⟩
  refine sa io s H g M _ rs rm (SPost.lift rs h fun vs M1 io1 H1 us e1 g1 rm1 rv h1 => ?_)
  cases e2 : plains vs with
  | none => rw [e2] at h1; exact h1.elim
  | some ds =>
    rw [e2] at h1
    have h1 : SPost X.K io1 H1 (if ds.length = x.fields.length then some (Fl.xc g x.name (x.fields.zip ds), M1) else none) D W := h1
    by_cases hl : ds.length = x.fields.length
    · rw [if_pos hl] at h1
      have rd : DVs io1 X.K H1 us ds := rv.plain e2
      have hu : us.length = x.F.length := by rw [rd.length, hl, Xd.F, List.length_map]
      refine ⟨by rw [hu, Xd.F, List.length_map]; omega, fun a hna => ?_⟩
      refine ⟨a, He.ga X.K x.S, us, by rw [List.append_nil], hu, T.oex, T.noF, upd_same, fun dx hdx hne => ⟨rfl, dx, (x.F.zip us).reverse, upd_same, (upd_ne hne).trans upd_same, ?_, ?_⟩⟩
      · rw [upd_ne hne] at hdx
        exact hdx
      · have hdx1 : H1 dx = none := by rw [upd_ne hne] at hdx; exact hdx
        obtain ⟨rm3, g3⟩ := rm1.more (H' := upd (del (upd (upd (upd H1 a (exo a (He.ga X.K x.S) none)) dx (exd dx (x.F.zip us).reverse)) a (exo a (He.ga X.K x.S) (some dx))) a) dx (.xd (x.F.zip us).reverse)) fun b o hb => by
          have hba : b ≠ a := fun z => by rw [z, hna] at hb; cases hb
          have hbd : b ≠ dx := fun z => by rw [z, hdx1] at hb; cases hb
          rw [upd_ne hbd, del_ne hba, upd_ne hba, upd_ne hbd, upd_ne hba]
          exact hb
        refine h1 io1 s _ _ _ g3 rm3 ((rs.mono g1).mono g3) ⟨rfl, dx, (x.F.zip us).reverse, rfl, upd_same, rm1.fresh hdx1, ?_⟩
        exact zip_look nd (rd.mono g3) hl hz
    · rw [if_neg hl] at h1
      exact h1.elim
end
/-! ### suites -/
/-- where a suite stands -/
structure Sx (xs : List Xd) (K : PySem.W.Frag) (io : Io) (H : Hp) (s : L2.St) (oi : Option Nat) (a : Addr) (cls : Value) (d : Option Addr) (c : String) (fs : List (String × D)) : Prop where
  slot : ∀ i, oi = some i → s[i]? = some (some (.ref a))
  xr : XR io K H cls d c fs
  kn : ∃ x, x ∈ xs ∧ x.name = c
theorem Sx.mono {xs : List Xd} {K : PySem.W.Frag} {io io' : Io} {H H' : Hp} {s : L2.St} {oi : Option Nat} {a : Addr} {cls : Value} {d : Option Addr} {c : String} {fs : List (String × D)} (g : Gr io H io' H') (h : Sx xs K io H s oi a cls d c fs) : Sx xs K io' H' s oi a cls d c fs := ⟨h.slot, h.xr.mono g, h.kn⟩
abbrev XF := String → List (String × D) → Option D
def PU (xs : List Xd) (K : PySem.W.Frag) (oi : Option Nat) (a : Addr) (cls : Value) (d : Option Addr) (r : XF) : TE := fun s H Q => ∃ io M c fs val, RM io K H M ∧ Sx xs K io H s oi a cls d c fs ∧ r c fs = some val ∧ ∀ io' H' v, Gr io H io' H' → RM io' K H' M → DV io' K H' v val → Q v H'
def PUs (xs : List Xd) (K : PySem.W.Frag) (oi : Option Nat) (a : Addr) (cls : Value) (d : Option Addr) (r : String → List (String × D) → Option (List D)) : TA := fun s H Q => ∃ io M c fs val, RM io K H M ∧ Sx xs K io H s oi a cls d c fs ∧ r c fs = some val ∧ ∀ io' H' v, Gr io H io' H' → RM io' K H' M → DVs io' K H' v val → Q v H'
def PUt (xs : List Xd) (K : PySem.W.Frag) (oi : Option Nat) (a : Addr) (cls : Value) (d : Option Addr) (r : String → Bool) : TT := fun s H Q => ∃ io M c fs, RM io K H M ∧ Sx xs K io H s oi a cls d c fs ∧ ∀ io' H', Gr io H io' H' → RM io' K H' M → Q (r c) H'
theorem _root_.L2.PE.imp {X : Cx} {e : Expr} {t t' : TE} (h : PE X e t) (k : ∀ s H Q, t' s H Q → t s H Q) : PE X e t' := ⟨fun pins s σ H Q I q => h.run pins s σ H Q I (k _ _ _ q)⟩
theorem _root_.L2.PT.imp {X : Cx} {e : Expr} {t t' : TT} (h : PT X e t) (k : ∀ s H Q, t' s H Q → t s H Q) : PT X e t' := ⟨fun pins s σ H Q I q => h.run pins s σ H Q I (k _ _ _ q)⟩
theorem _root_.L2.PA.imp {X : Cx} {es : List Expr} {t t' : TA} (h : PA X es t) (k : ∀ s H Q, t' s H Q → t s H Q) : PA X es t' := ⟨fun pos pins s σ H Q I q => h.run pos pins s σ H Q I (k _ _ _ q)⟩
theorem _root_.L2.PSs.imp {X : Cx} {sts : List Stmt} {t t' : TS} (h : PSs X sts t) (k : ∀ D s H, t' D s H → t D s H) : PSs X sts t' := ⟨fun pins s σ H D I q => h.run pins s σ H D I (k _ _ _ q)⟩
/-- isinstance(e, c), e the exception of the suite, with its own dict -/
def rIsX (K : PySem.W.Frag) (a : Addr) (cls : Value) (d : Option Addr) : List V → Hp → VK → Prop := fun xs H Q => ∃ (c : V) (cv : Value) (D dd : Addr) (fv : List (Str × V)) (b : Bool), xs = [.ref a, c] ∧ (∀ u, RelV c u → u = cv) ∧ cls = .ref D ∧ d = some dd ∧ H dd = some (.xd fv) ∧
  ((PySem.W.clsIn K D).isSome = true ∧ XfC K D ∧ PySem.W.findIn K (.ref D) "__class__" = some (some (.builtin "object.__class__")) ∧ PySem.W.specialIn K (.builtin "object.__class__") "__get__" = some (some (.builtin "getset_descriptor.__get__")) ∧
    PySem.W.takesIn K (.builtin "object.__class__") = some true ∧ PySem.W.mroIn K D (.type "object") = some true) ∧ PySem.W.kitOne K (.ref D) cv = some b ∧ Q (.bl b) H
theorem call_isX {X : Cx} {a : Addr} {o : Obj} {cls : Value} {d : Option Addr} {pn : List (Addr × Obj)} (hz : Zc cls d o) (hf : ∃ vs, o.data = .fields vs) : CallR (X.suite a ((a, o) :: pn)) (.builtin "isinstance") (rIsX X.K a cls d) := by
  intro pins s σ H xs us Q I r h
  obtain ⟨c, cv, D, dd, fv, b, rfl, hcv, ec, ed, hdd, ⟨f1, f2, f3, f4, f5, f6⟩, kk, q⟩ := h
  obtain ⟨u1, u2, rfl, r1, r2⟩ := vals2 r
  have e2 := hcv _ r2
  subst e2
  cases (show u1 = Value.ref a from r1)
  obtain ⟨hget, _⟩ := I.pin (a, o) (List.mem_append_left _ List.mem_cons_self)
  obtain ⟨vs, hv⟩ := hf
  have hx : ObjOk X.prog X.w H s.heap dd (.xd fv) := I.hok dd _ hdd
  obtain ⟨mA, hns, _⟩ := hx
  obtain ⟨od, ho, _⟩ := lookIn_ns hns
  have J : PySem.W.InstAt s.heap a o D (some od) := ⟨hget, hz.1.trans ec, by unfold PySem.W.notCls; rw [hv] <;> rfl, by rw [hz.2, ed]; exact ho⟩
  exact PySem.W.kia_one (PySem.W.kitx_exc (x := a) (ox := o) (od := some od) f1 f2.ga f2.gg f2.exC f3 f4 f5 f6) I.kIn J kk (fun z => nomatch z) fun tk => ⟨.bl b, H, I.kept (t' := tk) fun _ _ z => z, rfl, q⟩
section
variable {X : Cx} {a : Addr} {o : Obj} {cls : Value} {d : Option Addr} {pn : List (Addr × Obj)} {xs : List Xd} {ts : List String} {oi : Option Nat} {i : Nat} {n : Str} {p p1 p2 pos : Pos} {e e1 e2 : Expr} {es : List Expr} {r r1 r2 : XF}
theorem u_con {v : D} {k : Const} {j : Nat} (h : conOf v k = true) : PE (X.suite a ((a, o) :: pn)) (.Constant k j pos) (PU xs X.K oi a cls d fun _ _ => some v) := by
  obtain ⟨t, pe, se⟩ := okE_con (X := X.suite a ((a, o) :: pn)) (W := Wno) (pos := pos) (j := j) h
  refine pe.imp fun s H Q ⟨io, M, c, fs, val, rm, _, ev, hq⟩ => ?_
  cases ev
  refine se io s H (List.replicate s.length none) M Q ⟨by simp, fun i v e => ?_⟩ rm fun io' H' u g' rm' ru => hq io' H' u g' rm' ru
  rw [List.getElem?_replicate] at e
  split at e <;> cases e
theorem u_name (hN : X.N[i]? = some n) (hv : Vis X.env.scope n) (h1 : (n == ("__debug__" : Str)) = false) (h2 : (n == ("__classdict__" : Str)) = false) : PE (X.suite a ((a, o) :: pn)) (.Name n p) (tVar i) := pe_var (X := X.suite a ((a, o) :: pn)) hN hv h1 h2
theorem u_fld {x : Xd} {f : String} (hx : x ∈ xs) (T : XK1 ts X.K x) (hf : Str.ofString f ∈ x.F) (hz : Zc cls d o) (hd : ∃ vs, o.data = .fields vs)
    (hn : PE (X.suite a ((a, o) :: pn)) e (tVar i)) (hb : attributeBase e (Str.ofString f) X.env (eval e X.env) = eval e X.env) :
    PE (X.suite a ((a, o) :: pn)) (.Attribute e (Str.ofString f) pos) (PU xs X.K (some i) a cls d fun c fs => if c = x.name then fs.lookup f else none) := by
  refine (pe_xf T.xf (T.noF _ hf) hz hd hn hb).imp fun s H Q ⟨io, M, c, fs, val, rm, sx, ev, hq⟩ => ?_
  dsimp only at ev
  by_cases hc : c = x.name
  · rw [if_pos hc] at ev
    subst hc
    obtain ⟨ecls, dd, fv, ed, hdd, _, hl⟩ := sx.xr
    obtain ⟨u, e1, ru⟩ := hl _ _ ev
    exact ⟨_, sx.slot i rfl, rfl, ecls, dd, fv, u, ed, hdd, e1, hq io H u .refl rm ru⟩
  · rw [if_neg hc] at ev
    cases ev
theorem u_isG {t : String} {cv : Value} {ec : Expr} {c0 : V} (hK : ∀ x, x ∈ xs → XK1 ts X.K x) (hcv : ∀ u, RelV c0 u → u = cv) (hk : ∀ x, x ∈ xs → PySem.W.kitOne X.K (.ref (He.ga X.K x.S)) cv = some (isSub x.name t)) (hz : Zc cls d o) (hd : ∃ vs, o.data = .fields vs)
    (hg : Gl X "isinstance") (hm : X.mg "isinstance" = none) (hn : PE (X.suite a ((a, o) :: pn)) e (tVar i)) (hp : Pln e) (hp2 : Pln ec) (hcE : PE (X.suite a ((a, o) :: pn)) ec (tC c0)) :
    PE (X.suite a ((a, o) :: pn)) (.Call (.Name "isinstance" p) [e, ec] [] pos) (PU xs X.K (some i) a cls d fun c _ => some (.bool (isSub c t))) := by
  refine (pe_callB (X := X.suite a ((a, o) :: pn)) (call_isX hz hd) hg hm (by decide +kernel) (pa_cons hn (pa_cons hcE pa_nil (star_of hp2)) (star_of hp)) (by decide) (by decide) (star_of hp) (any_of ⟨hp2, trivial⟩)).imp fun s H Q ⟨io, M, c, fs, val, rm, sx, ev, hq⟩ => ?_
  cases ev
  obtain ⟨ecls, dd, fv, ed, hdd, _, _⟩ := sx.xr
  obtain ⟨x, hx, rfl⟩ := sx.kn
  have T := hK x hx
  exact ⟨_, sx.slot i rfl, c0, cv, He.ga X.K x.S, dd, fv, _, rfl, hcv, ecls, ed, hdd, ⟨T.isC, T.xf, T.clsA, T.sp, T.tk, T.mro⟩, hk x hx, hq io H _ .refl rm (.bl _)⟩
theorem u_nil : PA (X.suite a ((a, o) :: pn)) [] (PUs xs X.K oi a cls d fun _ _ => some []) := pa_nil.imp fun s H Q ⟨io, M, c, fs, val, rm, sx, ev, hq⟩ => by
  cases ev
  exact hq io H [] .refl rm .nil
theorem u_cons {rs : String → List (String × D) → Option (List D)} (hp : Pln e) (h1 : PE (X.suite a ((a, o) :: pn)) e (PU xs X.K oi a cls d r)) (h2 : PA (X.suite a ((a, o) :: pn)) es (PUs xs X.K oi a cls d rs)) :
    PA (X.suite a ((a, o) :: pn)) (e :: es) (PUs xs X.K oi a cls d fun c fs => (r c fs).bind fun v => (rs c fs).map (v :: ·)) := by
  refine (pa_cons h1 h2 (star_of hp)).imp fun s H Q ⟨io, M, c, fs, val, rm, sx, ev, hq⟩ => ?_
  obtain ⟨v, e1, ev⟩ := Option.bind_eq_some_iff.mp ev
  obtain ⟨vs, e2, rfl⟩ := Option.map_eq_some_iff.mp ev
  refine ⟨io, M, c, fs, v, rm, sx, e1, fun io1 H1 u g1 rm1 ru => ?_⟩
  exact ⟨io1, M, c, fs, vs, rm1, sx.mono g1, e2, fun io2 H2 us g2 rm2 rus => hq io2 H2 (u :: us) (g1.trans g2) rm2 (.cons (ru.mono g2) rus)⟩
theorem u_tup {rs : String → List (String × D) → Option (List D)} {k : Nat} (hl : ∀ c fs l, rs c fs = some l → l.length ≤ 1000) (h : PA (X.suite a ((a, o) :: pn)) es (PUs xs X.K oi a cls d rs)) : PE (X.suite a ((a, o) :: pn)) (.Tuple es k pos) (PU xs X.K oi a cls d fun c fs => (rs c fs).map .tuple) := by
  refine (pe_tupK h).imp fun s H Q ⟨io, M, c, fs, val, rm, sx, ev, hq⟩ => ?_
  obtain ⟨l, e1, rfl⟩ := Option.map_eq_some_iff.mp ev
  refine ⟨io, M, c, fs, l, rm, sx, e1, fun io1 H1 us g1 rm1 ru => ⟨by rw [ru.length, sizeLine_eq]; have := hl _ _ _ e1; omega, fun p o ko hp => ?_⟩⟩
  exact hq io1 _ _ (g1.trans (Gr.upd hp)) (rm1.upd hp) (.tup (.inl ⟨⟨o, upd_same, ko⟩, rm1.fresh hp⟩) (ru.mono (Gr.upd hp)))
theorem u_lst {rs : String → List (String × D) → Option (List D)} (hl : ∀ c fs l, rs c fs = some l → l.length ≤ 1000) (h : PA (X.suite a ((a, o) :: pn)) es (PUs xs X.K oi a cls d rs)) : PE (X.suite a ((a, o) :: pn)) (.List es pos) (PU xs X.K oi a cls d fun c fs => (rs c fs).map .list) := by
  refine (pe_lst h).imp fun s H Q ⟨io, M, c, fs, val, rm, sx, ev, hq⟩ => ?_
  obtain ⟨l, e1, rfl⟩ := Option.map_eq_some_iff.mp ev
  refine ⟨io, M, c, fs, l, rm, sx, e1, fun io1 H1 us g1 rm1 ru => ⟨by rw [ru.length, sizeLine_eq]; have := hl _ _ _ e1; omega, fun p hp => ?_⟩⟩
  exact hq io1 _ _ (g1.trans (Gr.upd hp)) (rm1.upd hp) (.lst upd_same (rm1.fresh hp) (ru.mono (Gr.upd hp)))
/-- a test -/
theorem u_t1 {t : String} (h : PE (X.suite a ((a, o) :: pn)) e (PU xs X.K oi a cls d fun c _ => some (.bool (isSub c t)))) (he : ∀ whole, isTrue e X.env whole = (do let v ← whole; standAt e.pos; holding [v] (truthy v))) :
    PT (X.suite a ((a, o) :: pn)) e (PUt xs X.K oi a cls d fun c => isSub c t) := by
  refine (pt_val h he).imp fun s H Q ⟨io, M, c, fs, rm, sx, hq⟩ => ⟨io, M, c, fs, _, rm, sx, rfl, fun io' H' v g rm' rv => ?_⟩
  cases rv
  exact ⟨_, rfl, hq io' H' g rm'⟩
theorem u_t2 {t1 t2 : String → Bool} (h1 : PT (X.suite a ((a, o) :: pn)) e1 (PUt xs X.K oi a cls d t1)) (h2 : PT (X.suite a ((a, o) :: pn)) e2 (PUt xs X.K oi a cls d t2)) :
    PT (X.suite a ((a, o) :: pn)) (.BoolOp .And [e1, e2] pos) (PUt xs X.K oi a cls d fun c => t1 c && t2 c) := by
  refine (pw_and h1 (pw_and1 h2)).pt.imp fun s H Q ⟨io, M, c, fs, rm, sx, hq⟩ => ⟨io, M, c, fs, rm, sx, fun io1 H1 g1 rm1 => ?_⟩
  cases e : t1 c with
  | false =>
    rw [if_neg Bool.false_ne_true]
    have := hq io1 H1 g1 rm1
    dsimp only at this
    rw [e] at this
    exact this
  | true =>
    rw [if_pos rfl]
    refine ⟨io1, M, c, fs, rm1, sx.mono g1, fun io2 H2 g2 rm2 => ?_⟩
    have := hq io2 H2 (g1.trans g2) rm2
    dsimp only at this
    rw [e] at this
    exact this
theorem u_ite {t : String → Bool} (hc : PT (X.suite a ((a, o) :: pn)) e (PUt xs X.K oi a cls d t)) (h1 : PE (X.suite a ((a, o) :: pn)) e1 (PU xs X.K oi a cls d r1)) (h2 : PE (X.suite a ((a, o) :: pn)) e2 (PU xs X.K oi a cls d r2)) :
    PE (X.suite a ((a, o) :: pn)) (.IfExp e e1 e2 pos) (PU xs X.K oi a cls d fun c fs => if t c then r1 c fs else r2 c fs) := by
  refine (pe_ifExp hc h1 h2).imp fun s H Q ⟨io, M, c, fs, val, rm, sx, ev, hq⟩ => ⟨io, M, c, fs, rm, sx, fun io1 H1 g1 rm1 => ?_⟩
  dsimp only at ev
  cases q : t c with
  | true =>
    rw [q, if_pos rfl] at ev
    rw [if_pos rfl]
    exact ⟨io1, M, c, fs, val, rm1, sx.mono g1, ev, fun io2 H2 v g2 => hq io2 H2 v (g1.trans g2)⟩
  | false =>
    rw [q, if_neg Bool.false_ne_true] at ev
    rw [if_neg Bool.false_ne_true]
    exact ⟨io1, M, c, fs, val, rm1, sx.mono g1, ev, fun io2 H2 v g2 => hq io2 H2 v (g1.trans g2)⟩
end
end Eg

/-! Engine, exceptions, part d: suites as statements; try. By an AI agent. -/
namespace Eg
open PySem PySem.Spec PyProof.Rows L2
/-- a suite's reading -/
def TU (xs : List Xd) (K : PySem.W.Frag) (oi : Option Nat) (a : Addr) (cls : Value) (d : Option Addr) (r : String → List (String × D) → Sg → Mem → Ro) : TS := fun E s H => ∃ io g M c fs, RS io K H s g ∧ RM io K H M ∧ Sx xs K io H s oi a cls d c fs ∧ SPost K io H (r c fs g M) E (fun _ _ _ _ => False)
section
variable {X : Cx} {a : Addr} {o : Obj} {cls : Value} {d : Option Addr} {pn : List (Addr × Obj)} {xs : List Xd} {oi : Option Nat} {i : Nat} {n : Str} {p p1 p2 pos : Pos} {e e1 e2 : Expr} {es : List Expr} {r : XF} {sts : List Stmt} {rr : String → List (String × D) → Sg → Mem → Ro}
theorem su_ret (h : PE (X.suite a ((a, o) :: pn)) e (PU xs X.K oi a cls d r)) : PSs (X.suite a ((a, o) :: pn)) [.Return (some e) pos] (TU xs X.K oi a cls d fun c fs _ M => (r c fs).map fun v => (.rt (.p v), M)) := by
  refine (pss_cons (ps_ret h) pss_nil).imp fun E s H ⟨io, g, M, c, fs, rs, rm, sx, hp⟩ => ?_
  cases e1 : r c fs with
  | none => simp only [e1] at hp; exact hp.elim
  | some v =>
    simp only [e1] at hp
    exact ⟨io, M, c, fs, v, rm, sx, e1, fun io' H' u g' rm' ru => hp io' u H' g' rm' ru⟩
theorem su_done : PSs (X.suite a ((a, o) :: pn)) [] (TU xs X.K oi a cls d fun _ _ g M => some (.nx g, M)) := pss_nil.imp fun E s H ⟨io, g, M, c, fs, rs, rm, sx, hp⟩ => hp io s H .refl rm rs
theorem su_ifr {t : String → Bool} (hc : PT (X.suite a ((a, o) :: pn)) e1 (PUt xs X.K oi a cls d t)) (h : PE (X.suite a ((a, o) :: pn)) e (PU xs X.K oi a cls d r)) (hr : PSs (X.suite a ((a, o) :: pn)) sts (TU xs X.K oi a cls d rr)) :
    PSs (X.suite a ((a, o) :: pn)) (.If e1 [.Return (some e) pos] [] p :: sts) (TU xs X.K oi a cls d fun c fs g M => if t c then (r c fs).map fun v => (.rt (.p v), M) else rr c fs g M) := by
  refine (pss_cons (ps_if hc (pss_cons (ps_ret h) pss_nil) pss_nil) hr).imp fun E s H ⟨io, g, M, c, fs, rs, rm, sx, hp⟩ => ⟨io, M, c, fs, rm, sx, fun io1 H1 g1 rm1 => ?_⟩
  dsimp only at hp
  cases q : t c with
  | true =>
    rw [q, if_pos rfl] at hp
    rw [if_pos rfl]
    cases e1 : r c fs with
    | none => simp only [e1] at hp; exact hp.elim
    | some v =>
      simp only [e1] at hp
      exact ⟨io1, M, c, fs, v, rm1, sx.mono g1, e1, fun io' H' u g' rm' ru => hp io' u H' (g1.trans g') rm' ru⟩
  | false =>
    rw [q, if_neg Bool.false_ne_true] at hp
    rw [if_neg Bool.false_ne_true]
    exact ⟨io1, g, M, c, fs, rs.mono g1, rm1, sx.mono g1, hp.shift g1⟩
/-- x.append(e) -/
theorem su_app {j : Nat} {y : Str} {apos : Pos} (hN : X.N[j]? = some y) (hv : Vis X.env.scope y) (h1 : (y == ("__debug__" : Str)) = false) (h2 : (y == ("__classdict__" : Str)) = false) (hp : Pln e) (h : PE (X.suite a ((a, o) :: pn)) e (PU xs X.K oi a cls d r)) (hline : (apos.endLine == p.line) = true)
    (hr : PSs (X.suite a ((a, o) :: pn)) sts (TU xs X.K oi a cls d rr)) :
    PSs (X.suite a ((a, o) :: pn)) (.Expr (.Call (.Attribute (.Name y p1) "append" apos) [e] [] p) pos :: sts) (TU xs X.K oi a cls d fun c fs g M => match g[j]? with
      | some (some x) => (r c fs).bind fun v => (appOf x (.p v) M).bind fun M' => rr c fs g M'
      | _ => none) := by
  have few := few_of (X := X) (cpos := p) (es := [e]) ⟨hp, trivial⟩ (by simp)
  refine (pss_cons (ps_expr (pe_bm (X := X.suite a ((a, o) :: pn)) F.plainAttrs_list F.slot_list_append F.type_list_append mt_append (pe_var (X := X.suite a ((a, o) :: pn)) hN hv h1 h2) (pa_cons h pa_nil (star_of hp)) rfl few hline (star_of hp) rfl) (sw_none trivial)) hr).imp fun E s H ⟨io, g, M, c, fs, rs, rm, sx, hp⟩ => ?_
  dsimp only at hp
  cases e1 : g[j]? with
  | none => rw [e1] at hp; exact hp.elim
  | some x =>
    rw [e1] at hp
    cases x with
    | none => exact hp.elim
    | some x =>
      dsimp only at hp
      obtain ⟨u, eu, ru⟩ := rs.at_ j x e1
      cases e2 : r c fs with
      | none => rw [e2] at hp; exact hp.elim
      | some v =>
        rw [e2] at hp
        have hp : SPost X.K io H ((appOf x (.p v) M).bind fun M' => rr c fs g M') E (fun _ _ _ _ => False) := hp
        cases e3 : appOf x (.p v) M with
        | none => rw [e3] at hp; exact hp.elim
        | some M' =>
          rw [e3] at hp
          have hp : SPost X.K io H (rr c fs g M') E (fun _ _ _ _ => False) := hp
          unfold appOf at e3
          cases x with
          | r k =>
            dsimp only at e3
            obtain ⟨q, rfl, hq⟩ := ru
            cases e5 : M[k]? with
            | none => rw [e5] at e3; cases e3
            | some mo =>
              rw [e5] at e3
              cases mo with
              | lst ds =>
                dsimp only at e3
                by_cases hz : ds.length < line
                · rw [if_pos hz] at e3
                  cases e3
                  obtain ⟨ys, hx, hs⟩ := rm.list hq e5
                  refine ⟨_, eu, .inl ⟨rfl, ys, SqL.of hx⟩, io, M, c, fs, v, rm, sx, e2, fun io2 H2 w g2 rm2 rw' => ?_⟩
                  have hq2 := prefix_get g2.pre hq
                  obtain ⟨ys2, hx2, hs2⟩ := rm2.list hq2 e5
                  have gw : Gr io2 H2 io2 (upd H2 q (.lst (ys2 ++ [w]))) := Gr.write (List.mem_of_getElem? hq2)
                  refine ⟨q, ys2, w, rfl, rfl, hx2, by rw [hs2.length, ← line_eq]; exact hz, ?_⟩
                  exact ⟨io2, g, _, c, fs, (rs.mono g2).mono gw, rm2.write hq2 (hs2.snoc rw'), (sx.mono g2).mono gw, hp.shift (g2.trans gw)⟩
                · rw [if_neg hz] at e3
                  cases e3
              | dic _ => cases e3
              | dit _ => cases e3
              | ins _ _ => cases e3
          | p _ => cases e3
          | s _ => cases e3
end
/-! ### try -/
def tsOf (K : PySem.W.Frag) (f : Sg → Mem → Ro) (W : WX) : TS := fun E s H => ∃ io g M, RS io K H s g ∧ RM io K H M ∧ SPost K io H (f g M) E W
theorem OkSs.uni {X : Cx} {W : WX} {sts : List Stmt} {f : Sg → Mem → Ro} (h : OkSs X W sts f) : PSs X sts (tsOf X.K f W) := by
  obtain ⟨t, p, st⟩ := h
  exact p.imp fun E s H ⟨io, g, M, rs, rm, hp⟩ => st io s H g M E rs rm hp
/-- a clause's meaning, its class known -/
structure CM where
  cls : String
  slot : Option Nat
  run : String → List (String × D) → Sg → Mem → Ro
def catchM (c : String) (fs : List (String × D)) : List CM → Sg → Mem → Ro
  | [], g, M => some (.xc g c fs, M)
  | h :: hs, g, M => if isSub c h.cls then (if slotIn h.slot g then endU h.slot (h.run c fs (offG h.slot g) M) else none) else catchM c fs hs g M
def CM.cl (xs : List Xd) (K : PySem.W.Frag) (h : CM) : Cl := (.ref (He.ga K (Str.ofString h.cls)), h.slot, fun a cls d => TU xs K h.slot a cls d h.run)
theorem rs_on {io : Io} {K : PySem.W.Frag} {H : Hp} {s : L2.St} {g : Sg} {oi : Option Nat} {a : Addr} (rs : RS io K H s g) : RS io K H (onN oi a s) (offG oi g) := by
  cases oi with
  | none => exact rs
  | some i =>
    refine ⟨by show (s.set i _).length = (g.set i none).length; rw [List.length_set, List.length_set, rs.len], fun j v e => ?_⟩
    have e : (g.set i none)[j]? = some (some v) := e
    by_cases hj : i = j
    · subst hj
      by_cases hi : i < g.length
      · rw [List.getElem?_set_self hi] at e
        cases e
      · rw [List.getElem?_eq_none (by rw [List.length_set]; omega)] at e
        cases e
    · rw [List.getElem?_set_ne hj] at e
      show ∃ u, (s.set i (some (.ref a)))[j]? = some (some u) ∧ _
      rw [List.getElem?_set_ne hj]
      exact rs.at_ j v e
theorem rs_off {io : Io} {K : PySem.W.Frag} {H : Hp} {s : L2.St} {g : Sg} {oi : Option Nat} (rs : RS io K H s g) : RS io K H (offN oi s) (offG oi g) := by
  cases oi with
  | none => exact rs
  | some i => exact rs.setNone i
theorem on_slot {s : L2.St} {oi : Option Nat} {a : Addr} (hi : ∀ i, oi = some i → i < s.length) : ∀ i, oi = some i → (onN oi a s)[i]? = some (some (.ref a)) := fun i e => by
  subst e
  exact List.getElem?_set_self (hi i rfl)
section
variable {K : PySem.W.Frag} {W : WX} {xs : List Xd} {ts : List String}
theorem wcl_ok {D0 : Ends} {c : String} {fs : List (String × D)} {cls : Value} {d : Option Addr} (hK : ∀ x, x ∈ xs → XK1 ts K x) (kn : ∃ x, x ∈ xs ∧ x.name = c) : ∀ {hs : List CM} {io : Io} {s : L2.St} {H : Hp} {g : Sg} {M : Mem}, (∀ h, h ∈ hs → h.cls ∈ ts) → RS io K H s g → RM io K H M → XR io K H cls d c fs → SPost K io H (catchM c fs hs g M) D0 W → wCl K W D0 (hs.map (CM.cl xs K)) cls d s H
  | [], io, s, H, g, M, _, rs, rm, xr, h => h io s H cls d .refl rm rs xr
  | h :: hs, io, s, H, g, M, ht, rs, rm, xr, hp => by
    obtain ⟨x, hx, ex⟩ := kn
    have h1 := ht h List.mem_cons_self
    have ec : cls = .ref (He.ga K x.S) := by rw [xr.1, Xd.S, ex]
    refine ⟨isSub c h.cls, by rw [ec, (hK x hx).exm _ h1, ex], fun q a ha => ?_, fun q => ?_⟩
    · have hp : SPost K io H (if isSub c h.cls then (if slotIn h.slot g then endU h.slot (h.run c fs (offG h.slot g) M) else none) else catchM c fs hs g M) D0 W := hp
      rw [q, if_pos rfl] at hp
      by_cases hsl : slotIn h.slot g = true
      case neg => rw [if_neg hsl] at hp; exact hp.elim
      rw [if_pos hsl] at hp
      refine ⟨io, offG h.slot g, M, c, fs, rs_on rs, rm, ⟨on_slot fun i e => ?_, xr, ⟨x, hx, ex⟩⟩, ?_⟩
      · rw [e] at hsl
        rw [rs.len]
        exact of_decide_eq_true hsl
      cases e : h.run c fs (offG h.slot g) M with
      | none => rw [e] at hp; exact hp.elim
      | some r =>
        obtain ⟨fl, M2⟩ := r
        rw [e] at hp
        cases fl with
        | nx g2 => exact fun io' s' H' g' rm' rs' => hp io' (offN h.slot s') H' g' rm' (rs_off rs')
        | rt v => exact fun io' u H' g' rm' ru => hp io' u H' g' rm' ru
        | rl v => exact hp.elim
        | bk g2 => exact hp.elim
        | xc g2 c2 fs2 => exact hp.elim
    · have hp : SPost K io H (if isSub c h.cls then (if slotIn h.slot g then endU h.slot (h.run c fs (offG h.slot g) M) else none) else catchM c fs hs g M) D0 W := hp
      rw [q, if_neg Bool.false_ne_true] at hp
      exact wcl_ok hK ⟨x, hx, ex⟩ (fun y hy => ht y (List.mem_cons_of_mem _ hy)) rs rm xr hp
end
theorem okS_tr {X : Cx} {W : WX} {xs : List Xd} {ts : List String} {kn : List String} {body : List Stmt} {h₀ : ExceptHandler} {hds : List ExceptHandler} {cms : List CM} {pos : Pos} {fb : Sg → Mem → Ro} (hN : X.N.Nodup) (hs : X.stack = X.env :: X.outer) (hf : X.env.frame = some X.env.locals) (tk : Takes X W)
    (hK : ∀ x, x ∈ xs → XK1 ts X.K x) (hkn : ∀ c, kn.contains c = true → ∃ x, x ∈ xs ∧ x.name = c) (hcm : ∀ h, h ∈ cms → h.cls ∈ ts)
    (hb : ∀ (W' : WX) (pn : List (Addr × Obj)) (xe : Value → Shared → Prop), Takes (X.tr pn xe) W' → PassesOwn (model X.prog X.w) X.A X.env xe → OkSs (X.tr pn xe) W' body fb)
    (hh : ClOk X (h₀ :: hds) (cms.map (CM.cl xs X.K))) :
    OkS X W (.Try body (h₀ :: hds) [] [] pos) (fun g M => match fb g M with
      | some (.xc g1 c fs, M1) => if kn.contains c then catchM c fs cms g1 M1 else none
      | r => r) := by
  refine ⟨_, ps_tryN (tb := tsOf X.K fb) hN hs hf tk (fun W' pn xe t1 t2 => (hb W' pn xe t1 t2).uni) hh, fun io s H g M D0 rs rm h => ⟨io, g, M, rs, rm, ?_⟩⟩
  dsimp only at h
  cases e : fb g M with
  | none => rw [e] at h; exact h.elim
  | some q =>
    obtain ⟨fl, M1⟩ := q
    rw [e] at h
    cases fl with
    | nx g1 => exact h
    | rt v => exact h
    | rl v => exact h
    | bk g1 => exact h
    | xc g1 c fs =>
      dsimp only at h
      by_cases hc : kn.contains c = true
      · rw [if_pos hc] at h
        intro io' s' H' cls d g' rm' rs' xr'
        exact wcl_ok hK (hkn c hc) hcm rs' rm' xr' (h.shift g')
      · rw [if_neg hc] at h
        exact h.elim
end Eg

/-! Engine, part N: enumerate, zip, reversed over lists and tuples. By an AI agent. -/
namespace Eg
open PySem PySem.Spec PyProof.Rows L2
open RZ (ItzT pi_zipA iZipA)
open RT (ItvT pi_revA iRevA)
/-! ### enumerate(v) for what begins so (the library's rule with a start, without it) -/
set_option maxHeartbeats 1000000 in
theorem meets_enum1 {v : Value} {o : Obj} {H : Heap → Prop} (B : Begins v o H) :
    Meets (Builtin.«enumerate.__new__» ⟨[.type "enumerate", v], []⟩) (fun _ R s => H s.heap ∧
      R (.ok (.ret (.ref (s.heap.push o).objs.size))) { s with heap := (s.heap.push o).push { cls := .type "enumerate", data := .fields #[.none, .bool false, .ref s.heap.objs.size, rawInt 0, .none, .none] } }) :=
  .of_wp fun prog w A R s h => by
    obtain ⟨hp, g, d, tk, os⟩ := s; obtain ⟨h1, h⟩ := h
    have hsub := sub_enumerate
    have q1 : ∀ {A' : Around} {E : Value → Shared → Prop} {Q : Value → Shared → Prop}, Q (.ref hp.objs.size) ⟨hp.push o, g, d, tk, os⟩ → wpAny (model prog w) A' (pyIter v) Q E ⟨hp, g, d, tk, os⟩ :=
      fun q => B.iter prog w _ _ ⟨hp, g, d, tk, os⟩ _ h1 q
    wp_walk using q1
    refine wpAny_stack_any fun st => wpAny_pure ?_
    split
    · rename_i c _ _ _ _ _
      cases (c == Value.type "enumerate")
      · wp_walk using q1
        exact ⟨_, rfl, h⟩
      · wp_walk using q1
        exact ⟨_, rfl, h⟩
    · wp_walk using q1
      exact ⟨_, rfl, h⟩
section
variable {prog : Program} {w : World} {A : Around} {E : Value → Shared → Prop} {s : Shared}
theorem enum_begins1 {v : Value} {o : Obj} {H : Heap → Prop} {Q : Value → Shared → Prop} (B : Begins v o H) (h1 : H s.heap)
    (h : ∀ h', IsEnum h' (s.heap.objs.size + 1) s.heap.objs.size 0 .none → h'.get? s.heap.objs.size = some o → h'.objs.size = s.heap.objs.size + 2 →
      (∀ b o, s.heap.get? b = some o → h'.get? b = some o) → Q (.ref (s.heap.objs.size + 1)) { s with heap := h' }) :
    wpAny (model prog w) A (call (.type "enumerate") [v]) Q E s := by
  refine callType_new F.called_enumerate (by decide) (F.typeCall_enumerate_1 _) (F.newCall_enumerate_1 _) (fun obj => F.args_object_init_2 obj _) F.entry_enumerate_new
    (meets_enum1 B) ⟨h1, ?_⟩
  have hz : (s.heap.push o).objs.size = s.heap.objs.size + 1 := Heap.size_push ..
  show _ ∧ _
  rw [hz]
  have he : IsEnum ((s.heap.push o).push { cls := .type "enumerate", data := .fields #[.none, .bool false, .ref s.heap.objs.size, rawInt 0, .none, .none] }) (s.heap.objs.size + 1) s.heap.objs.size 0 .none := by
    have := Heap.get?_push_size (s.heap.push o) (o := { cls := .type "enumerate", data := .fields #[.none, .bool false, .ref s.heap.objs.size, rawInt 0, .none, .none] }) rfl
    rw [hz] at this; exact this
  exact ⟨⟨_, he, rfl⟩, h _ he (Heap.get?_push_of_some _ (Heap.get?_push_size _ B.free)) (by rw [Heap.size_push, hz]) fun b o x => Heap.get?_push_of_some _ (Heap.get?_push_of_some _ x)⟩
end
/-- the tuple at a, its items in new pairs -/
def IteT (K : PySem.W.Frag) (a : Addr) : L2.It :=
  ⟨fun i H => ∃ (xs : List V) (x : V), SqT K H a xs ∧ xs[i]? = some x, fun i H v H' => ∃ T x, v = .ref T ∧ H T = none ∧ H' = upd H T (.tup [.int (i : Nat), x]) ∧ ∀ xs, SqT K H a xs → xs[i]? = some x, fun i H => ∃ xs : List V, SqT K H a xs ∧ xs.length = i⟩
theorem turn_enumT {P : Program} {w : World} {K : PySem.W.Frag} {elts : List Expr} {kk : Nat} {tpos : Pos} (a e it : Addr) :
    Turn P w K (.Tuple elts kk tpos) (IteT K a) [e, it] e (fun i h => (∃ old, IsEnum h e it ((i : Nat) : Int) old) ∧ h.IsTupleIter it a i ∧ e ≠ it ∧ e ≠ a ∧ a ≠ it) where
  mem := by simp
  obj := fun i h st b hb => by
    obtain ⟨⟨old, he⟩, ⟨o, ho, hc, hd⟩, _⟩ := st
    have e' : b = e ∨ b = it := by simpa using hb
    rcases e' with z | z
    · rw [z]; exact ⟨_, he, fun v q => nomatch q⟩
    · rw [z]; exact ⟨o, ho, fun v q => by rw [hd] at q; cases q⟩
  keep := fun i h h' st k => let ⟨⟨old, he⟩, hi, hne⟩ := st; ⟨⟨old, k e (by simp) _ he⟩, hi.at fun o q => k it (by simp) o q, hne⟩
  item := by
    intro X hP hw hK hc i pins s σ H E I hf st hg
    subst hP hw hK
    obtain ⟨⟨old, he⟩, hit, hne, hea, hai⟩ := st
    obtain ⟨xs, x, hq, hx⟩ := hg
    obtain ⟨its, rv, p, hz⟩ := I.tuple hq
    obtain ⟨u, hu, ru⟩ := rv.get hx
    have p' : s.heap.IsTuple a its.toArray := p
    have hel : e < s.heap.objs.size := Heap.lt_size he
    have hil : it < s.heap.objs.size := by obtain ⟨_, q, _⟩ := hit; exact Heap.lt_size q
    have hlt : i < its.toArray.size := by
      have := (List.getElem?_eq_some_iff.mp hu).1
      simpa using this
    refine wpAny_pyNext_enum_itemC (Draws.tuple (A := X.A.in1) (I.ok.hd hc) it a hai its.toArray) he ⟨hit, p'⟩ hlt hne (by simp [hne, hea]) fun y h' tk hy ho hit' hT hsz hk => ?_
    have ey : y = u := by
      have h2 : its.toArray[i]? = some u := by simpa using hu
      rw [h2] at hy
      exact (Option.some.inj hy).symm
    subst ey
    refine ⟨_, rfl, wpAny_letOwnedTupleGo_enum (s := { s with heap := h', toks := tk + 1 }) ho fun h'' he' sb => ?_⟩
    have hT2 : h''.get? s.heap.objs.size = some { cls := .type "tuple", data := .seq #[.int i tk, y] } := (sb.2 _ (Nat.ne_of_gt hel)).trans hT
    have new : ObjOk X.prog X.w (upd H s.heap.objs.size (.tup [.int (i : Nat), x])) h'' s.heap.objs.size (.tup [.int (i : Nat), x]) :=
      ⟨by show 2 ≤ sizeLine; decide, [.int i tk, y], .cons ⟨_, rfl⟩ (.cons ru .nil), ⟨_, hT2, rfl, _, rfl⟩⟩
    have I1 : Inv X pins σ (upd H s.heap.objs.size (.tup [.int (i : Nat), x])) { s with heap := h'', toks := tk + 1 } :=
      I.turnedNew (ch := [e, it]) (fun b ob hb q => (sb.2 b (fun z => hb (by simp [z]))).trans (hk b ob (fun z => hb (by simp [z])) (fun z => hb (by simp [z])) q)) hf (Nat.le_refl _) new
    refine ⟨.ref s.heap.objs.size, _, I1, rfl, ⟨_, x, rfl, I.hok.fresh (Nat.le_refl _), rfl, fun ys hy => by rw [I.tuple_inj hy hq]; exact hx⟩, ⟨⟨y, ?_⟩, hit'.1.at fun o q => (sb.2 it (Ne.symm hne)).trans q, hne, hea, hai⟩, fun b hb => ?_⟩
    · have e1 : ((i + 1 : Nat) : Int) = (i : Int) + 1 := by omega
      rw [e1]; exact he'
    · have hb' : b < s.heap.objs.size := by
        have e' : b = e ∨ b = it := by simpa using hb
        rcases e' with z | z
        · rw [z]; exact hel
        · rw [z]; exact hil
      rw [upd_ne (Nat.ne_of_lt hb')]
      exact (hf b hb).1
  done := by
    intro X hP hw hK hc i pins s σ H E I hf st hg
    subst hP hw hK
    obtain ⟨⟨old, he⟩, hit, hne, hea, hai⟩ := st
    obtain ⟨xs, hq, hx⟩ := hg
    obtain ⟨its, rv, p, hz⟩ := I.tuple hq
    obtain ⟨f0, f1, f2, f3, f4, f5⟩ := hf it (by simp)
    have hl := rv.length
    have p' : s.heap.IsTuple a its.toArray := p
    have hi : i = its.toArray.size := by rw [List.size_toArray]; omega
    rw [hi] at hit
    exact wpAny_pyNext_enum_endD (Draws.tuple (A := X.A.in1) (I.ok.hd hc) it a hai its.toArray) he ⟨hit, p'⟩ fun h' eb => ⟨rfl, I.turned (t' := s.toks) (fun b o hb q => eb b o hb q) f0 f1 f3 f4 f5⟩
  self := fun A i s Q E st h => let ⟨⟨_, he⟩, _⟩ := st; wpAny_pyIter_enum he h

def iEnumA (K : PySem.W.Frag) (te : TE) : TI := fun σ H R => tCons te tNil σ H fun vs H1 => ∃ a xs, vs = [.ref a] ∧ ((SqL K H1 a xs ∧ R (Ite K a) H1) ∨ (SqT K H1 a xs ∧ R (IteT K a) H1))
theorem pi_enumA {X : Cx} {e : Expr} {te : TE} {p pos tpos : Pos} {elts : List Expr} {kk : Nat} (hg : Gl X "enumerate") (hm : X.mg "enumerate" = none) (he : PE X e te) (hs : starEach [e] X.env = [(false, eval e X.env)]) :
    PI X (.Tuple elts kk tpos) (.Call (.Name "enumerate" p) [e] [] pos) (iEnumA X.K te) := by
  refine ⟨fun pins s σ H R I h => ?_⟩
  refine Call_ (ld_blt I hg hm boot_enumerate (PyProof.Rows.callWith_type1 (thn ((pa_cons he pa_nil hs).run pos pins s σ H _ I h) fun us s1 ⟨vs, H1, I1, r1, q1⟩ => ?_) hs rfl))
  obtain ⟨a, xs, ex, q⟩ := q1
  subst ex
  cases r1 with
  | cons r rr =>
    cases rr
    cases r
    have fr : ∀ b, b ∈ [s1.heap.objs.size + 1, s1.heap.objs.size] → FpOk X pins H1 b := fun b hb => by
      have e' : b = s1.heap.objs.size + 1 ∨ b = s1.heap.objs.size := by simpa using hb
      have hle : s1.heap.objs.size ≤ b := by
        rcases e' with z | z
        · rw [z]; exact Nat.le_add_right _ _
        · rw [z]; exact Nat.le_refl _
      exact I1.fpOk hle (I1.hok.fresh hle)
    rcases q with ⟨hq, q⟩ | ⟨hq, q⟩
    · obtain ⟨its, rv, p', hz⟩ := I1.list hq
      refine call_enumerate_list p'.isList fun h' he hit hsz hk => wpAny_pyIter_enum he ?_
      have I2 : Inv X pins σ H1 { s1 with heap := h' } := I1.kept (t' := s1.toks) hk
      exact ⟨s1.heap.objs.size + 1, [s1.heap.objs.size + 1, s1.heap.objs.size], _, _, H1, rfl, I2, turn_enum a (s1.heap.objs.size + 1) s1.heap.objs.size, ⟨⟨.none, he⟩, hit, Nat.succ_ne_self _⟩, fr, q⟩
    · obtain ⟨its, rv, p', hz⟩ := I1.tuple hq
      have p' : s1.heap.IsTuple a its.toArray := p'
      have ha : a < s1.heap.objs.size := by obtain ⟨o, ho, _⟩ := id p'; exact Heap.lt_size ho
      refine enum_begins1 (begins_tuple a its.toArray) p' fun h' he hit hsz hk => wpAny_pyIter_enum he ?_
      have I2 : Inv X pins σ H1 { s1 with heap := h' } := I1.kept (t' := s1.toks) hk
      exact ⟨s1.heap.objs.size + 1, [s1.heap.objs.size + 1, s1.heap.objs.size], _, _, H1, rfl, I2, turn_enumT a (s1.heap.objs.size + 1) s1.heap.objs.size, ⟨⟨.none, he⟩, ⟨_, hit, rfl, rfl⟩, Nat.succ_ne_self _, Nat.ne_of_gt (Nat.lt_succ_of_lt ha), Nat.ne_of_lt ha⟩, fr, q⟩

section
variable {K : PySem.W.Frag} {a b : Addr} {xs ys : List V}
theorem walk_enumT : Walk (IteT K a) xs.length (fun H => SqT K H a xs) (YPair (fun i => some (.int (i : Nat))) (fun i => xs[i]?)) := by
  refine ⟨fun i _ hi q => ⟨xs, xs[i], q, by simp [hi]⟩, fun _ q => ⟨xs, q, rfl⟩, fun i H v H' _ q y => ?_⟩
  obtain ⟨T, x, h1, h2, h3, h4⟩ := y
  exact ⟨T, .int (i : Nat), x, h1, h2, h3, rfl, h4 xs q⟩
theorem walk_zipT {n : Nat} (hn : n = min xs.length ys.length) : Walk (ItzT K a b) n (fun H => SqT K H a xs ∧ SqT K H b ys) (YPair (fun i => xs[i]?) (fun i => ys[i]?)) := by
  subst hn
  refine ⟨fun i _ hi q => ?_, fun _ q => ⟨xs, ys, q.1, q.2, by omega⟩, fun i H v H' _ q y => ?_⟩
  · have h1 : i < xs.length := by omega
    have h2 : i < ys.length := by omega
    exact ⟨xs, ys, xs[i], ys[i], q.1, q.2, by simp [h1], by simp [h2]⟩
  · obtain ⟨T, x, z, h1, h2, h3, h4, h5⟩ := y
    exact ⟨T, x, z, h1, h2, h3, h4 xs q.1, h5 ys q.2⟩
theorem walk_revT : Walk (ItvT K a xs.length) xs.length (fun H => SqT K H a xs) (fun i H x H' => H' = H ∧ xs[xs.length - 1 - i]? = some x) :=
  ⟨fun i _ hi q => ⟨hi, xs, xs[xs.length - 1 - i]'(by omega), q, by simp [show xs.length - 1 - i < xs.length by omega]⟩, fun _ _ => Nat.le_refl _, fun _ _ _ _ _ q y => ⟨y.1, y.2 xs q⟩⟩
/-- pairs that are made at each turn -/
theorem iw_pair {io : Io} {H : Hp} {J : L2.It} {n : Nat} {G : Hp → Prop} {fx fy : Nat → Option V} {ds : List D} (w : Walk J n G (YPair fx fy)) (hn : ds.length = n) (hG : ∀ io' H', Gr io H io' H' → G H')
    (hd : ∀ (i : Nat) (d : D) (x y : V) (io1 : Io) (H1 : Hp), ds[i]? = some d → Gr io H io1 H1 → fx i = some x → fy i = some y → ∃ d1 d2, d = .tuple [d1, d2] ∧ DV io1 K H1 x d1 ∧ DV io1 K H1 y d2) : IW True K io H J ⟨ds, none⟩ := by
  subst hn
  refine ⟨G, _, w, fun io' H' M' g _ _ => hG io' H' g, fun i H1 v H2 d io1 M1 e g rm _ y => ?_⟩
  obtain ⟨T, x, z, rfl, hT, rfl, hx, hz⟩ := y
  obtain ⟨d1, d2, rfl, r1, r2⟩ := hd i d x z io1 H1 e g hx hz
  have gu : Gr io1 H1 io1 (upd H1 T (.tup [x, z])) := Gr.upd hT
  exact ⟨gu, rm.upd hT, .inr ⟨trivial, T, _, _, rfl, rfl, upd_same, .cons (r1.mono gu) (.cons (r2.mono gu) .nil)⟩⟩
end
theorem enumD_get {ds : List D} {i : Nat} {d : D} (h : (enumD ds)[i]? = some d) : ∃ x, ds[i]? = some x ∧ d = .tuple [.int i, x] := by
  unfold enumD at h
  rw [List.getElem?_zipWith] at h
  by_cases hi : i < ds.length
  · rw [List.getElem?_range hi, List.getElem?_eq_getElem hi] at h
    cases h
    exact ⟨_, List.getElem?_eq_getElem hi, rfl⟩
  · rw [List.getElem?_eq_none (by rw [List.length_range]; omega)] at h
    cases h
theorem enumD_length (ds : List D) : (enumD ds).length = ds.length := by
  unfold enumD
  rw [List.length_zipWith, List.length_range, Nat.min_self]
theorem zipD_get {as bs : List D} {i : Nat} {d : D} (h : (zipD as bs)[i]? = some d) : ∃ x y, as[i]? = some x ∧ bs[i]? = some y ∧ d = .tuple [x, y] := by
  unfold zipD at h
  rw [List.getElem?_zipWith] at h
  cases e1 : as[i]? with
  | none => rw [e1] at h; cases h
  | some x =>
    cases e2 : bs[i]? with
    | none => rw [e1, e2] at h; cases h
    | some y => rw [e1, e2] at h; cases h; exact ⟨x, y, rfl, rfl, rfl⟩
section
variable {X : Cx} {W : WX} {a b e tg : Expr} {es elts : List Expr} {kk : Nat} {tpos pos p : Pos} {fa fb : Sg → Mem → Rs Vl}
theorem okI_enm (hg : Gl X "enumerate") (hm : X.mg "enumerate" = none) (hp : Pln a) (ha : OkE X W a fa) : OkI X W (.Tuple elts kk tpos) (.Call (.Name "enumerate" p) [a] [] pos) (fun s M => (fa s M).bind fun v M1 => match v with
    | .p (.list ds) => .ok ⟨enumD ds, none⟩ M1
    | .p (.tuple ds) => .ok ⟨enumD ds, none⟩ M1
    | _ => .bad) := by
  obtain ⟨t, pe, se⟩ := ha
  refine ⟨⟨_, pi_enumA hg hm pe (star_of hp), fun io s H sg M R rs rm hpt => ?_⟩, fun g M w M' h => ?_⟩
  · refine se io s H sg M _ rs rm (hpt.seq fun x M1 io1 H1 u1 e1 g1 rm1 r1 hp1 => ?_)
    cases x with
    | p d =>
      cases r1 with
      | @lst q xs ds hx hn hs =>
        refine ⟨q, xs, rfl, .inl ⟨SqL.of hx, hp1.done rm1 ?_⟩⟩
        refine iw_pair walk_enum (by rw [enumD_length, hs.length]) (fun io' H' g => SqL.of (g.kp hx hn)) fun i d x y io2 H2 e g hx' hy => ?_
        obtain ⟨d2, e2, rfl⟩ := enumD_get e
        obtain ⟨v, e3, r⟩ := hs.get e2
        rw [hy] at e3
        cases e3
        cases hx'
        exact ⟨_, _, rfl, .int _, r.mono g⟩
      | @tup q xs ds hx hs =>
        refine ⟨q, xs, rfl, .inr ⟨hx.sq, hp1.done rm1 ?_⟩⟩
        refine iw_pair walk_enumT (by rw [enumD_length, hs.length]) (fun io' H' g => (hx.mono g).sq) fun i d x y io2 H2 e g hx' hy => ?_
        obtain ⟨d2, e2, rfl⟩ := enumD_get e
        obtain ⟨v, e3, r⟩ := hs.get e2
        rw [hy] at e3
        cases e3
        cases hx'
        exact ⟨_, _, rfl, .int _, r.mono g⟩
      | _ => exact hp1.elim
    | r i => exact hp1.elim
    | s ds => exact hp1.elim
  · obtain ⟨v, M1, _, h⟩ := bind_ok_of h
    cases v with
    | p d => cases d <;> cases h <;> rfl
    | r i => cases h
    | s ds => cases h
theorem okI_zip0 (hg : Gl X "zip") (hm : X.mg "zip" = none) (hp : Pln a) (hq : Pln b) (ha : OkE X W a fa) (hb : OkE X W b fb) : OkI X W (.Tuple elts kk tpos) (.Call (.Name "zip" p) [a, b] [] pos) (fun s M => (fa s M).bind fun v M1 => (fb s M1).bind fun w M2 => Rs.of M2 (zipW0 v w)) := by
  obtain ⟨t, pe, se⟩ := ha
  obtain ⟨t', pe', se'⟩ := hb
  have hs2 : starEach [b] X.env = [(false, eval b X.env)] := star_of hq
  refine ⟨⟨_, pi_zipA hg hm (pa_cons pe (pa_cons pe' pa_nil (star_of hq)) (star_of hp)) (star_of hp) (any_of ⟨hq, trivial⟩), fun io s H sg M R rs rm hpt => ?_⟩, fun g M w M' h => ?_⟩
  · refine se io s H sg M _ rs rm (hpt.seq fun x M1 io1 H1 u1 e1 g1 rm1 r1 hp1 => ?_)
    refine se' io1 s H1 sg M1 _ (rs.mono g1) rm1 (hp1.seq fun y M2 io2 H2 u2 e2 g2 rm2 r2 hp2 => ?_)
    have r1 := r1.mono g2
    cases e3 : zipW0 x y with
    | none => rw [e3] at hp2; exact hp2.elim
    | some w =>
      rw [e3] at hp2
      cases x with
      | p d =>
        cases y with
        | p d' =>
          cases r1 with
          | @lst q xs ds hx hn hs =>
            cases r2 with
            | @lst q' ys ds' hx' hn' hs' =>
              cases e3
              refine ⟨q, q', xs, ys, rfl, .inl ⟨SqL.of hx, SqL.of hx', hp2.done rm2 ?_⟩⟩
              refine iw_pair (walk_zip rfl) (by unfold zipD; rw [List.length_zipWith, hs.length, hs'.length]) (fun io' H' g => ⟨SqL.of (g.kp hx hn), SqL.of (g.kp hx' hn')⟩) fun i d x y io3 H3 e g hx1 hy1 => ?_
              obtain ⟨d1, d2, e4, e5, rfl⟩ := zipD_get e
              obtain ⟨v, e6, r⟩ := hs.get e4
              obtain ⟨v', e7, r'⟩ := hs'.get e5
              rw [hx1] at e6
              rw [hy1] at e7
              cases e6
              cases e7
              exact ⟨_, _, rfl, r.mono g, r'.mono g⟩
            | _ => cases e3
          | @tup q xs ds hx hs =>
            cases r2 with
            | @tup q' ys ds' hx' hs' =>
              cases e3
              refine ⟨q, q', xs, ys, rfl, .inr ⟨hx.sq, hx'.sq, hp2.done rm2 ?_⟩⟩
              refine iw_pair (walk_zipT rfl) (by unfold zipD; rw [List.length_zipWith, hs.length, hs'.length]) (fun io' H' g => ⟨(hx.mono g).sq, (hx'.mono g).sq⟩) fun i d x y io3 H3 e g hx1 hy1 => ?_
              obtain ⟨d1, d2, e4, e5, rfl⟩ := zipD_get e
              obtain ⟨v, e6, r⟩ := hs.get e4
              obtain ⟨v', e7, r'⟩ := hs'.get e5
              rw [hx1] at e6
              rw [hy1] at e7
              cases e6
              cases e7
              exact ⟨_, _, rfl, r.mono g, r'.mono g⟩
            | _ => cases e3
          | _ => cases d' <;> cases e3
        | r i => cases d <;> cases e3
        | s ds => cases d <;> cases e3
      | r i => cases y <;> cases e3
      | s ds => cases y <;> cases e3
  · obtain ⟨v, M1, _, h⟩ := bind_ok_of h
    obtain ⟨v2, M2, _, h⟩ := bind_ok_of h
    cases e3 : zipW0 v v2 with
    | none => rw [e3] at h; cases h
    | some w' =>
      rw [e3] at h
      cases h
      unfold zipW0 at e3
      split at e3 <;> cases e3 <;> rfl
theorem okI_rvd (hg : Gl X "reversed") (hm : X.mg "reversed" = none) (hp : Pln a) (ha : OkE X W a fa) : OkI X W tg (.Call (.Name "reversed" p) [a] [] pos) (fun s M => (fa s M).bind fun v M1 => match v with
    | .p (.list ds) => .ok ⟨ds.reverse, none⟩ M1
    | .p (.tuple ds) => .ok ⟨ds.reverse, none⟩ M1
    | _ => .bad) := by
  obtain ⟨t, pe, se⟩ := ha
  have key : ∀ {J : L2.It} {xs : List V} {ds : List D} {io : Io} {H : Hp} {G : Hp → Prop}, Walk J xs.length G (fun i H x H' => H' = H ∧ xs[xs.length - 1 - i]? = some x) → DVs io X.K H xs ds → (∀ io' H', Gr io H io' H' → G H') → IW (isTp tg) X.K io H J ⟨ds.reverse, none⟩ := by
    intro J xs ds io H G w hs hG
    refine ⟨G, _, by rw [show (⟨ds.reverse, none⟩ : Wk).items.length = xs.length by show ds.reverse.length = _; rw [List.length_reverse, hs.length]]; exact w, fun io' H' M' g _ _ => hG io' H' g, fun i H1 x H2 d io1 M1 e g rm _ y => ?_⟩
    obtain ⟨rfl, e2⟩ := y
    have e : ds.reverse[i]? = some d := e
    have hi : i < ds.length := by
      have := (List.getElem?_eq_some_iff.mp e).1
      simpa using this
    rw [List.getElem?_reverse hi] at e
    obtain ⟨v, e3, r⟩ := hs.get e
    rw [← hs.length] at e3
    rw [e2] at e3
    cases e3
    exact ⟨.refl, rm, .inl (r.mono g)⟩
  refine ⟨⟨_, pi_revA hg hm pe (star_of hp), fun io s H sg M R rs rm hpt => ?_⟩, fun g M w M' h => ?_⟩
  · refine se io s H sg M _ rs rm (hpt.seq fun x M1 io1 H1 u1 e1 g1 rm1 r1 hp1 => ?_)
    cases x with
    | p d =>
      cases r1 with
      | @lst q xs ds hx hn hs => exact ⟨q, xs, rfl, .inl ⟨SqL.of hx, hp1.done rm1 (key walk_rev hs fun io' H' g => SqL.of (g.kp hx hn))⟩⟩
      | @tup q xs ds hx hs => exact ⟨q, xs, rfl, .inr ⟨hx.sq, hp1.done rm1 (key walk_revT hs fun io' H' g => (hx.mono g).sq)⟩⟩
      | _ => exact hp1.elim
    | r i => exact hp1.elim
    | s ds => exact hp1.elim
  · obtain ⟨v, M1, _, h⟩ := bind_ok_of h
    cases v with
    | p d => cases d <;> cases h <;> rfl
    | r i => cases h
    | s ds => cases h
end
end Eg

/-! Engine, part O: dicts of the memory, sorted. By an AI agent. -/
namespace Eg
open PySem PySem.Spec PyProof.Rows L2
theorem sortI_of {ys ks : List Int} (h1 : ys.Perm ks) (h2 : ys.Pairwise (· ≤ ·)) : ys = sortI ks := by
  refine List.Perm.eq_of_pairwise (le := fun a b => a ≤ b) (fun a b _ _ x y => Int.le_antisymm x y) h2 ?_ (h1.trans (List.mergeSort_perm ks _).symm)
  have := List.pairwise_mergeSort (le := fun (a b : Int) => decide (a ≤ b)) (fun a b c x y => by simp at x y ⊢; omega) (fun a b => by simp; omega) ks
  exact this.imp fun h => of_decide_eq_true h
theorem DKs.ints {io : Io} {K : PySem.W.Frag} {H : Hp} : ∀ {kvs : List (Key × V)} {ds : List (D × D)} {ns : List Int}, DKs io K H kvs ds → keysI ds = some ns → kvs.map (·.1) = ns.map Sum.inl
  | _, _, _, .nil, e => by
    simp only [keysI, Option.some.injEq] at e
    subst e
    rfl
  | _, _, _, .cons (k := k) (v := v) h hs, e => by
    cases k with
    | inl i =>
      unfold keysI keyD at e
      obtain ⟨ns, e1, rfl⟩ := Option.map_eq_some_iff.mp e
      rw [List.map_cons, List.map_cons, hs.ints e1]
    | inr x => simp [keysI, keyD] at e
section
variable {X : Cx} {W : WX} {a : Expr} {pos p : Pos} {fa : Sg → Mem → Rs Vl}
/-- sorted(d), sorted(xs) -/
theorem zip_dv {io : Io} {K : PySem.W.Frag} {H : Hp} : ∀ {xs : List V} {ds : List D}, DVs io K H xs ds → ∀ p ∈ xs.zip ds, DV io K H p.1 p.2
  | _, _, .nil, p, h => by cases h
  | _, _, .cons r rs, p, h => by
    rcases List.mem_cons.mp h with rfl | h
    · exact r
    · exact zip_dv rs p h
theorem dvs_of {io : Io} {K : PySem.W.Frag} {H : Hp} : ∀ {ps : List (V × D)}, (∀ p ∈ ps, DV io K H p.1 p.2) → DVs io K H (ps.map (·.1)) (ps.map (·.2))
  | [], _ => .nil
  | p :: ps, h => .cons (h p List.mem_cons_self) (dvs_of fun q hq => h q (List.mem_cons_of_mem _ hq))
theorem sortbl_of {ds : List D} (h : sortbl ds = true) : PySem.W.Sortable ds := by
  rcases Bool.or_eq_true_iff.mp h with h | h
  · refine .inl fun d hd => ?_
    have := List.all_eq_true.mp h d hd
    unfold tupC at this
    split at this
    · exact ⟨_, _, rfl⟩
    · cases this
  · refine .inr fun d hd => ?_
    have := List.all_eq_true.mp h d hd
    unfold nonT at this
    split at this
    · cases this
    · cases this
    · rename_i h1 h2
      exact ⟨fun e => h1 e, fun xs e => h2 xs e⟩
theorem srtL_ok {q : Addr} {xs : List V} {ds es : List D} {io : Io} {H : Hp} {M : Mem} {Q : VK} {E : XK} (rm : RM io X.K H M) (hx : SqL X.K H q xs) (hs : DVs io X.K H xs ds) (e : srtL ds = some es) (h : Post X.K (RV X.K) io H (.ok (.p (.list es)) M) Q E) :
    rSorted X.K [.ref q] H Q ∨ rSortD X.K [.ref q] H Q ∨ rSortT X.K [.ref q] H Q ∨ rSort1 X.K [.ref q] H Q := by
  unfold srtL at e
  cases e3 : intsOf ds with
  | some ns =>
    rw [e3] at e
    obtain ⟨hz, rfl⟩ := ite_some e
    refine .inl ⟨q, ns, rfl, by rw [← hs.ints e3]; exact hx, hz, fun ys p h1 h2 hq => ?_⟩
    rw [sortI_of h1 h2]
    exact res_lst h rm (DVs.of_ints _) hq
  | none =>
    rw [e3] at e
    by_cases hz : (flats 58 ds && alikes ds && sortbl ds) = true
    case neg =>
      dsimp only at e
      rw [if_neg hz] at e
      by_cases h1 : ds.length = 1
      · rw [if_pos h1] at e
        cases e
        exact .inr (.inr (.inr ⟨q, xs, rfl, hx, by have := hs.length; omega, fun p hp => res_lst h rm hs hp⟩))
      · rw [if_neg h1] at e
        cases e
    dsimp only at e
    rw [if_pos hz] at e
    cases e
    obtain ⟨h1, h2, h3⟩ := and3 hz
    obtain ⟨c1, c2⟩ := flats_lay _ _ h1
    have l1 : (xs.zip ds).map (·.1) = xs := List.map_fst_zip (by rw [hs.length]; exact Nat.le_refl _)
    have l2 : (xs.zip ds).map (·.2) = ds := List.map_snd_zip (by rw [hs.length]; exact Nat.le_refl _)
    refine .inr (.inl ⟨q, xs.zip ds, rfl, by rw [l1]; exact hx, by rw [l1, l2]; exact hs.dps, by rw [l2]; exact fun x hx y hy => alikes_of h2 x hx y hy, by rw [l2]; exact sortbl_of h3, by rw [l2]; omega, fun p hp => ?_⟩)
    have em : ((xs.zip ds).mergeSort (PySem.W.dataLe false (·.2))).map (·.2) = sortD ds := by
      have := List.map_mergeSort (f := (·.2)) (r := PySem.W.dataLe false (fun (p : V × D) => p.2)) (s := fun a b => !dataLt b a) (l := xs.zip ds) (fun a _ b _ => by rw [PySem.W.dataLe_eq]; rfl)
      rw [this, l2]
      rfl
    have hv : DVs io X.K H (((xs.zip ds).mergeSort (PySem.W.dataLe false (·.2))).map (·.1)) (sortD ds) := by
      rw [← em]
      exact dvs_of fun p hp => zip_dv hs p ((List.mergeSort_perm _ _).mem_iff.mp hp)
    exact res_lst h rm hv hp
theorem srtT_ok {q : Addr} {xs : List V} {ds es : List D} {io : Io} {H : Hp} {M : Mem} {Q : VK} {E : XK} (rm : RM io X.K H M) (hx : SqT X.K H q xs) (hs : DVs io X.K H xs ds) (e : srtT ds = some es) (h : Post X.K (RV X.K) io H (.ok (.p (.list es)) M) Q E) : rSortT X.K [.ref q] H Q := by
  unfold srtT at e
  obtain ⟨hz, e⟩ := ite_of e
  cases e
  obtain ⟨h1, h2, h3⟩ := and3 hz
  obtain ⟨c1, c2⟩ := flats_lay _ _ h1
  have l1 : (xs.zip ds).map (·.1) = xs := List.map_fst_zip (by rw [hs.length]; exact Nat.le_refl _)
  have l2 : (xs.zip ds).map (·.2) = ds := List.map_snd_zip (by rw [hs.length]; exact Nat.le_refl _)
  refine ⟨q, xs.zip ds, rfl, by rw [l1]; exact hx, by rw [l1, l2]; exact hs.dps, by rw [l2]; exact fun x hx y hy => alikes_of h2 x hx y hy, by rw [l2]; exact sortbl_of h3, by rw [l2]; omega, fun p hp => ?_⟩
  have em : ((xs.zip ds).mergeSort (PySem.W.dataLe false (·.2))).map (·.2) = sortD ds := by
    have := List.map_mergeSort (f := (·.2)) (r := PySem.W.dataLe false (fun (p : V × D) => p.2)) (s := fun a b => !dataLt b a) (l := xs.zip ds) (fun a _ b _ => by rw [PySem.W.dataLe_eq]; rfl)
    rw [this, l2]
    rfl
  have hv : DVs io X.K H (((xs.zip ds).mergeSort (PySem.W.dataLe false (·.2))).map (·.1)) (sortD ds) := by
    rw [← em]
    exact dvs_of fun p hp => zip_dv hs p ((List.mergeSort_perm _ _).mem_iff.mp hp)
  exact res_lst h rm hv hp
theorem okE_srt (hc : X.calm = true) (hu : X.A.units + 65 < cLine) (hg : Gl X "sorted") (hm : X.mg "sorted" = none) (hpa : Pln a) (ha : OkE X W a fa) : OkE X W (.Call (.Name "sorted" p) [a] [] pos) (fun s M => (fa s M).bind fun x M1 => Rs.of M1 ((srtOf M1 x).map .p)) := by
  refine okE_b1 (g := fun M x => Rs.of M ((srtOf M x).map .p)) ((call_sortedDI hc).or (cr_sorted.or ((cr_sortedD hu).or ((cr_sortedTu hu).or cr_sorted1)))) hg hm (by decide +kernel) hpa ha fun io H M u v Q E rm r h => ?_
  have fin : ∀ {ns : List Int}, Post X.K (RV X.K) io H (.ok (.p (.list ((sortI ns).map .int))) M) Q E → ∀ (ys : List Int) (q : Addr), ys.Perm ns → ys.Pairwise (· ≤ ·) → H q = none → Q (.ref q) (upd H q (.lst (ys.map V.int))) := by
    intro ns h ys q h1 h2 hq
    rw [sortI_of h1 h2]
    exact res_lst h rm (DVs.of_ints _) hq
  cases e : srtOf M v with
  | none => rw [e] at h; exact h.elim
  | some d =>
    rw [e] at h
    have h : Post X.K (RV X.K) io H (.ok (.p d) M) Q E := h
    unfold srtOf at e
    cases v with
    | r i =>
      obtain ⟨q, rfl, hq⟩ := r
      dsimp only at e
      cases e2 : M[i]? with
      | none => rw [e2] at e; cases e
      | some o =>
        rw [e2] at e
        cases o with
        | dic kvs =>
          obtain ⟨ns, e3, e4⟩ := Option.bind_eq_some_iff.mp e
          obtain ⟨hz, rfl⟩ := ite_some e4
          obtain ⟨kv, hk, hs⟩ := (show ∃ kv, H q = some (.dK kv) ∧ DKs io X.K H kv kvs from rm.at_ i q _ hq e2)
          exact .inl ⟨q, kv, ns, rfl, .inl hk, hs.ints e3, hz, fin h⟩
        | lst ds =>
          obtain ⟨es, e3, rfl⟩ := Option.map_eq_some_iff.mp e
          obtain ⟨xs, hx, hs⟩ := rm.list hq e2
          exact .inr (srtL_ok rm (SqL.of hx) hs e3 h)
        | dit _ => cases e
        | ins _ _ => cases e
    | p y =>
      cases r with
      | @lst q xs ds hx hn hs =>
        obtain ⟨es, e3, rfl⟩ := Option.map_eq_some_iff.mp e
        exact .inr (srtL_ok rm (SqL.of hx) hs e3 h)
      | @tup q xs ds hx hs =>
        obtain ⟨es, e3, rfl⟩ := Option.map_eq_some_iff.mp e
        exact .inr (.inr (.inr (.inl (srtT_ok rm hx.sq hs e3 h))))
      | _ => cases e
    | s ds => cases e
/-! ### sorted(set(pairs)) -/
theorem pairs_ks {io : Io} {K : PySem.W.Frag} {H : Hp} : ∀ {ds : List D} {xs : List V} {ps : List (Int × Int)}, DVs io K H xs ds → pairsI ds = some ps →
    ∃ ks : List (Addr × List Int), xs = ks.map (fun p => V.ref p.1) ∧ (∀ p ∈ ks, TQ io K H p.1 (p.2.map V.int) ∧ DVs io K H (p.2.map V.int) (p.2.map PyData.int)) ∧ ks.map (·.2) = ps.map (fun p => [p.1, p.2]) ∧ ∀ p ∈ ps, 0 ≤ p.1 ∧ p.1 < 64 ∧ 0 ≤ p.2 ∧ p.2 < 64
  | [], _, _, .nil, e => by
    simp only [pairsI, Option.some.injEq] at e
    subst e
    exact ⟨[], rfl, fun p h => (by cases h), rfl, fun p h => (by cases h)⟩
  | d :: ds, _, ps, .cons (v := v) r rs, e => by
    unfold pairsI at e
    split at e
    · rename_i h; cases h
    · rename_i i j r' h
      obtain ⟨rfl, rfl⟩ := List.cons.inj h
      obtain ⟨hb, e⟩ := (show (0 ≤ i ∧ i < 64 ∧ 0 ≤ j ∧ j < 64) ∧ (pairsI ds).map ((i, j) :: ·) = some ps by
        by_cases c : 0 ≤ i ∧ i < 64 ∧ 0 ≤ j ∧ j < 64
        · rw [if_pos c] at e; exact ⟨c, e⟩
        · rw [if_neg c] at e; cases e)
      obtain ⟨ps', e1, rfl⟩ := Option.map_eq_some_iff.mp e
      obtain ⟨ks, rfl, h1, h2, h3⟩ := pairs_ks rs e1
      cases r with
      | @tup a zs _ hq hs =>
        have ez : zs = [i, j].map V.int := hs.ints (by rfl)
        subst ez
        refine ⟨(a, [i, j]) :: ks, rfl, fun p hp => ?_, by rw [List.map_cons, List.map_cons, h2], fun p hp => ?_⟩
        · rcases List.mem_cons.mp hp with rfl | hp
          · exact ⟨hq, hs⟩
          · exact h1 p hp
        · rcases List.mem_cons.mp hp with rfl | hp
          · exact hb
          · exact h3 p hp
    · cases e
theorem mem_dd : ∀ {l : List (Int × Int)} {x : Int × Int}, x ∈ dd l ↔ x ∈ l
  | [], _ => Iff.rfl
  | y :: l, x => by
    unfold dd
    by_cases h : y ∈ l
    · rw [if_pos h, mem_dd, List.mem_cons]
      exact ⟨.inr, fun z => z.elim (fun e => e ▸ h) id⟩
    · rw [if_neg h, List.mem_cons, List.mem_cons, mem_dd]
theorem nodup_dd : ∀ l : List (Int × Int), (dd l).Nodup
  | [] => List.nodup_nil
  | y :: l => by
    unfold dd
    by_cases h : y ∈ l
    · rw [if_pos h]; exact nodup_dd l
    · rw [if_neg h]; exact List.nodup_cons.mpr ⟨fun z => h (mem_dd.mp z), nodup_dd l⟩
theorem code_inj {p q : Int × Int} (hp : 0 ≤ p.1 ∧ p.1 < 64 ∧ 0 ≤ p.2 ∧ p.2 < 64) (hq : 0 ≤ q.1 ∧ q.1 < 64 ∧ 0 ≤ q.2 ∧ q.2 < 64) (h : codeP p = codeP q) : p = q := by
  obtain ⟨a, b⟩ := p
  obtain ⟨c, d⟩ := q
  unfold codeP at h
  dsimp only at *
  have e1 : a = c := by omega
  have e2 : b = d := by omega
  rw [e1, e2]
/-- the pairs in order, each once, are one list -/
theorem sortP_of {ps qs : List (Int × Int)} (hb : ∀ p ∈ ps, 0 ≤ p.1 ∧ p.1 < 64 ∧ 0 ≤ p.2 ∧ p.2 < 64) (h1 : ∀ p, p ∈ qs ↔ p ∈ ps) (hn : qs.Nodup) (hp : qs.Pairwise fun a b => codeP a ≤ codeP b) : qs = sortP ps := by
  have pm : qs.Perm (sortP ps) := by
    refine ((List.perm_ext_iff_of_nodup hn ?_).mpr fun p => ?_).trans (List.mergeSort_perm (dd ps) _).symm
    · exact nodup_dd ps
    · rw [h1, mem_dd]
  have b2 : ∀ p ∈ qs, 0 ≤ p.1 ∧ p.1 < 64 ∧ 0 ≤ p.2 ∧ p.2 < 64 := fun p h => hb p ((h1 p).mp h)
  refine List.Perm.eq_of_pairwise (le := fun a b => codeP a ≤ codeP b) (fun a b ha hb' x y => code_inj (b2 a ha) (b2 b (pm.mem_iff.mpr hb')) (Int.le_antisymm x y)) hp ?_ pm
  have := List.pairwise_mergeSort (le := fun (a b : Int × Int) => decide (codeP a ≤ codeP b)) (fun a b c x y => by simp at x y ⊢; omega) (fun a b => by simp; omega) (dd ps)
  exact this.imp fun h => of_decide_eq_true h
theorem code2 (x y : Int) : TS.code 64 [x, y] = codeP (x, y) := code_pair x y
theorem okE_srs {p2 pos2 : Pos} (hc : X.calm = true) (hu : X.A.units + 65 < cLine) (hg : Gl X "sorted") (hm : X.mg "sorted" = none) (hg2 : Gl X "set") (hm2 : X.mg "set" = none) (hpa : Pln a) (ha : OkE X W a fa) :
    OkE X W (.Call (.Name "sorted" p) [.Call (.Name "set" p2) [a] [] pos2] [] pos) (fun s M => (fa s M).bind fun x M1 => Rs.of M1 ((srsOf M1 x).map .p)) := by
  obtain ⟨t, pe, se⟩ := ha
  have pset : PE X (.Call (.Name "set" p2) [a] [] pos2) (tCB (rSetOfT X.K X.prog X.w) (tCons t tNil)) := pe_callTy (cr_setOfT hc (by omega)) hg2 hm2 (by decide +kernel) (pa_cons pe pa_nil (star_of hpa)) (by decide) (by decide) (star_of hpa) rfl
  have hps : starEach [.Call (.Name "set" p2) [a] [] pos2] X.env = (false, eval (.Call (.Name "set" p2) [a] [] pos2) X.env) :: starEach [] X.env := star_of trivial
  refine ⟨_, pe_callB (cr_sortedT hc) hg hm (by decide +kernel) (pa_cons pset pa_nil hps) (by decide) (by decide) hps rfl, fun io s H sg M Q rs rm hp => ?_⟩
  refine se io s H sg M _ rs rm (hp.seq fun x M1 io1 H1 u1 e1 g1 rm1 r1 hp1 => ?_)
  cases e : srsOf M1 x with
  | none => rw [e] at hp1; exact hp1.elim
  | some d =>
    rw [e] at hp1
    have hp1 : Post X.K (RV X.K) io1 H1 (.ok (.p d) M1) Q (fun cls d H' => W cls d s H') := hp1
    obtain ⟨dx, e2, e3⟩ := Option.bind_eq_some_iff.mp e
    cases r1.db rm1 e2 with
    | @lst l xs ds hx hs =>
      obtain ⟨ps, e4, e5⟩ := Option.bind_eq_some_iff.mp e3
      obtain ⟨hz, rfl⟩ := ite_some e5
      obtain ⟨ks, rfl, k1, k2, k3⟩ := pairs_ks hs e4
      have klen : ks.length = ps.length := by
        have := congrArg List.length k2
        simpa using this
      have in2 : ∀ q ∈ ks, ∃ p ∈ ps, q.2 = [p.1, p.2] := fun q hq => by
        have : q.2 ∈ ps.map fun p => [p.1, p.2] := by rw [← k2]; exact List.mem_map.mpr ⟨q, hq, rfl⟩
        obtain ⟨p, hp, e⟩ := List.mem_map.mp this
        exact ⟨p, hp, e.symm⟩
      refine ⟨l, ks, rfl, SqL.of hx, fun p hp => (k1 p hp).1.sq, by omega, fun b L hb hL hk => ?_⟩
      have gu : Gr io1 H1 io1 (upd H1 b (SetTO X.prog X.w b L)) := Gr.upd hb
      have rm2 := rm1.upd (o := SetTO X.prog X.w b L) hb
      refine ⟨b, L, 2, 64, rfl, upd_same, fun p hp => ((k1 p (hL p hp)).1.mono gu).sq, by omega, fun p hp => ?_, fun L' q pm nd h64 pw hq => ?_⟩
      · obtain ⟨r, hr, e⟩ := in2 p (hL p hp)
        have := k3 r hr
        rw [e]
        refine ⟨rfl, fun m hm => ?_⟩
        rcases List.mem_cons.mp hm with rfl | hm
        · omega
        · rw [List.mem_singleton.mp hm]; omega
      · -- the sorted pairs
        have hL' : ∀ p ∈ L', p ∈ ks := fun p hp => hL p (pm.mem_iff.mp hp)
        have two : ∀ p ∈ L', ∃ r ∈ ps, p.2 = [r.1, r.2] := fun p hp => in2 p (hL' p hp)
        have ex : ∀ L0 : List (Addr × List Int), (∀ p ∈ L0, ∃ r ∈ ps, p.2 = [r.1, r.2]) → ∃ qs : List (Int × Int), L0.map (·.2) = qs.map (fun p => [p.1, p.2]) ∧ ∀ r ∈ qs, r ∈ ps := by
          intro L0
          induction L0 with
          | nil => exact fun _ => ⟨[], rfl, fun r h => (by cases h)⟩
          | cons p L0 ih =>
            intro h
            obtain ⟨r, hr, e⟩ := h p List.mem_cons_self
            obtain ⟨qs, e1, h1⟩ := ih fun q hq => h q (List.mem_cons_of_mem _ hq)
            refine ⟨r :: qs, by rw [List.map_cons, List.map_cons, e1, e], fun z hz => ?_⟩
            rcases List.mem_cons.mp hz with rfl | hz
            · exact hr
            · exact h1 z hz
        obtain ⟨qs, eq, hqs⟩ := ex L' two
        have inj : ∀ {x y : Int × Int}, ([x.1, x.2] : List Int) = [y.1, y.2] → x = y := by
          intro x y h
          obtain ⟨a, b⟩ := x
          obtain ⟨c, d⟩ := y
          simp only [List.cons.injEq, and_true] at h
          rw [h.1, h.2]
        have hqe : qs = sortP ps := by
          refine sortP_of k3 (fun p => ⟨hqs p, fun hp => ?_⟩) ?_ ?_
          · have : [p.1, p.2] ∈ ks.map (·.2) := by rw [k2]; exact List.mem_map.mpr ⟨p, hp, rfl⟩
            obtain ⟨k, hk1, hk2⟩ := List.mem_map.mp this
            have h1 := hk k hk1
            have h2 : k.2 ∈ L'.map (·.2) := (pm.map (·.2)).mem_iff.mpr h1
            rw [eq] at h2
            obtain ⟨r, hr, er⟩ := List.mem_map.mp h2
            rw [hk2] at er
            rw [← inj er]
            exact hr
          · have nd' := nd
            rw [eq] at nd'
            exact List.Pairwise.of_map _ (fun a b hne e => hne (by rw [e])) nd'
          · have pw' : (L'.map (·.2)).Pairwise fun a b => TS.code 64 a ≤ TS.code 64 b := List.pairwise_map.mpr pw
            rw [eq, List.pairwise_map] at pw'
            exact pw'.imp fun {a b} h => by rw [code2, code2] at h; exact h
        have hv : DVs io1 X.K (upd H1 b (SetTO X.prog X.w b L)) (L'.map fun q => V.ref q.1) ((sortP ps).map fun p => PyData.tuple [.int p.1, .int p.2]) := by
          have e6 : ((sortP ps).map fun p => PyData.tuple [.int p.1, .int p.2]) = L'.map fun q => PyData.tuple (q.2.map PyData.int) := by
            rw [← hqe]
            have : (L'.map (·.2)).map (fun l => PyData.tuple (l.map PyData.int)) = (qs.map fun p => [p.1, p.2]).map (fun l => PyData.tuple (l.map PyData.int)) := by rw [eq]
            rw [List.map_map, List.map_map] at this
            exact this.symm
          rw [e6]
          have go : ∀ L0 : List (Addr × List Int), (∀ p ∈ L0, p ∈ ks) → DVs io1 X.K (upd H1 b (SetTO X.prog X.w b L)) (L0.map fun q => V.ref q.1) (L0.map fun q => PyData.tuple (q.2.map PyData.int)) := by
            intro L0
            induction L0 with
            | nil => exact fun _ => .nil
            | cons p L0 ih => exact fun h => .cons (.tup ((k1 p (h p List.mem_cons_self)).1.mono gu) ((k1 p (h p List.mem_cons_self)).2.mono gu)) (ih fun q hq => h q (List.mem_cons_of_mem _ hq))
          exact go L' hL'
        exact res_lst (hp1.shift gu) rm2 hv hq
    | _ => cases e3
/-! ### o.index(v) -/
def NoKx (e : Expr) : Prop := NoK e
theorem idxL_ok {ds : List D} {d r : D} (e : idxL ds d = some r) : ∃ j z, r = .int (j : Nat) ∧ flat 60 d = true ∧ flats 60 ds = true ∧ ds[j]? = some z ∧ PyData.eqv z d = true ∧ ∀ (m : Nat) (z' : PyData), m < j → ds[m]? = some z' → PyData.eqv z' d = false := by
  unfold idxL at e
  obtain ⟨hz, e⟩ := ite_of e
  obtain ⟨h1, h2⟩ := Bool.and_eq_true_iff.mp hz
  obtain ⟨j, e1, rfl⟩ := Option.map_eq_some_iff.mp e
  obtain ⟨hj, h3, h4⟩ := List.findIdx?_eq_some_iff_getElem.mp e1
  refine ⟨j, ds[j], rfl, h1, h2, List.getElem?_eq_getElem hj, h3, fun m z' hm hz' => ?_⟩
  obtain ⟨hm', rfl⟩ := List.getElem?_eq_some_iff.mp hz'
  exact Bool.eq_false_iff.mpr (h4 m hm)
variable {o v : Expr} {fo fv : Sg → Mem → Rs Vl}
theorem okE_idx {apos : Pos} (hu : X.A.units + 65 < cLine) (ho : OkE X W o fo) (hv : OkE X W v fv) (hpv : Pln v) (hk : NoK o) (hline : (apos.endLine == p.line) = true) :
    OkE X W (.Call (.Attribute o "index" apos) [v] [] p) (fun g M => (fo g M).bind fun x M1 => if isSq M1 x then (fv g M1).bind fun y M2 => Rs.of M2 (idxOf M2 x y) else .bad) := by
  obtain ⟨to, po, so⟩ := ho
  obtain ⟨tv, pv, sv⟩ := hv
  have p1 : PE X (.Call (.Attribute o "index" apos) [v] [] p) (tBM X.K "list" (rIndexD X.K) to (tCons tv tNil)) := pe_bm F.plainAttrs_list F.slot_list_index F.type_list_index (mt_indexD hu) po (pa_cons pv pa_nil (star_of hpv)) (base_of hk) (few_of ⟨hpv, trivial⟩ (by simp)) hline (star_of hpv) rfl
  have p2 : PE X (.Call (.Attribute o "index" apos) [v] [] p) (tBMT X.K (rIndexT X.K) to (tCons tv tNil)) := pe_bmT F.plainAttrs_tuple F.slot_tuple_index F.type_tuple_index (mt_indexT hu) po (pa_cons pv pa_nil (star_of hpv)) (base_of hk) (few_of ⟨hpv, trivial⟩ (by simp)) hline (star_of hpv) rfl
  refine ⟨fun σ H Q => tBM X.K "list" (rIndexD X.K) to (tCons tv tNil) σ H Q ∨ tBMT X.K (rIndexT X.K) to (tCons tv tNil) σ H Q, ⟨fun pins s σ H Q I h => h.elim (p1.run pins s σ H Q I) (p2.run pins s σ H Q I)⟩, fun io s H g M Q rs rm hp => ?_⟩
  have hp : Post X.K (RV X.K) io H ((fo g M).bind fun x M1 => if isSq M1 x then (fv g M1).bind fun y M2 => Rs.of M2 (idxOf M2 x y) else .bad) Q (fun cls d H' => W cls d s H') := hp
  have main : ∀ (x : Vl) (M1 : Mem), fo g M = .ok x M1 → (∃ ds, look M1 x = some (.list ds)) ∨ (∃ ds, look M1 x = some (.tuple ds)) := by
    intro x M1 e
    rw [e] at hp
    by_cases hL : isSq M1 x = true
    · unfold isSq at hL
      cases e2 : look M1 x with
      | none => rw [e2] at hL; cases hL
      | some d =>
        rw [e2] at hL
        cases d with
        | list ds => exact .inl ⟨ds, rfl⟩
        | tuple ds => exact .inr ⟨ds, rfl⟩
        | _ => cases hL
    · rw [Rs.bind_ok, if_neg hL] at hp
      exact hp.elim
  cases eo : fo g M with
  | bad => rw [eo] at hp; exact hp.elim
  | exc c fs M1 =>
    refine .inl (so io s H g M _ rs rm ?_)
    rw [eo] at hp ⊢
    exact hp
  | ok x M1 =>
    have sqx : isSq M1 x = true := by
      by_cases hL : isSq M1 x = true
      · exact hL
      · rw [eo, Rs.bind_ok, if_neg hL] at hp
        exact hp.elim
    rcases main x M1 eo with ⟨ds0, el⟩ | ⟨ds0, el⟩
    · refine .inl (so io s H g M _ rs rm (hp.seq fun x' M1' io1 H1 u1 e1 g1 rm1 r1 h1 => ?_))
      rw [eo] at e1
      cases e1
      rw [if_pos sqx] at h1
      have rd := r1.db rm1 el
      cases rd with
      | @lst q xs _ hx hs =>
        refine ⟨.inl ⟨rfl, xs, SqL.of hx⟩, sv io1 s H1 g M1 _ (rs.mono g1) rm1 (h1.seq fun y M2 io2 H2 u2 e2 g2 rm2 r2 h2 => ?_)⟩
        obtain ⟨dx, dy, r, e3, e4, e5, h3⟩ := data2 h2
        have rd2 := (r1.mono g2).db rm2 e3
        cases rd2 with
        | @lst _ ys es hy hss =>
          obtain ⟨d, e6, rfl⟩ := Option.map_eq_some_iff.mp e5
          obtain ⟨j, z, rfl, f1, f2, z1, z2, z3⟩ := idxL_ok e6
          exact ⟨q, u2, dy, es, j, z, rfl, rfl, (DB.lst hy hss).dp, (r2.db rm2 e4).dp, (shapeds_of f2).1, shaped_of f1, z1, z2, z3, res_p h3 rm2 (.int _)⟩
        | @tup _ ys es hy hss =>
          exfalso
          cases x with
          | p d => cases el; cases e3
          | r i =>
            unfold look at e3
            dsimp only at e3
            split at e3 <;> cases e3
          | s ds => cases el
    · refine .inr (so io s H g M _ rs rm (hp.seq fun x' M1' io1 H1 u1 e1 g1 rm1 r1 h1 => ?_))
      rw [eo] at e1
      cases e1
      rw [if_pos sqx] at h1
      have rd := r1.db rm1 el
      cases rd with
      | @tup q xs _ hx hs =>
        have ty : tyT X.K (.ref q) H1 := by
          rcases hx with ⟨⟨o, h, k⟩, _⟩ | ⟨o, its, n, h1, h2, h3, _⟩
          · exact ⟨q, rfl, .inl ⟨o, _, h, k⟩⟩
          · exact ⟨q, rfl, .inr ⟨o, h1, h2, h3⟩⟩
        refine ⟨ty, sv io1 s H1 g M1 _ (rs.mono g1) rm1 (h1.seq fun y M2 io2 H2 u2 e2 g2 rm2 r2 h2 => ?_)⟩
        obtain ⟨dx, dy, r, e3, e4, e5, h3⟩ := data2 h2
        have ex : dx = .tuple ds0 := by
          cases x with
          | p d => cases el; cases e3; rfl
          | r i =>
            unfold look at el
            dsimp only at el
            split at el <;> cases el
          | s ds => cases el
        subst ex
        obtain ⟨d, e6, rfl⟩ := Option.map_eq_some_iff.mp e5
        obtain ⟨j, z, rfl, f1, f2, z1, z2, z3⟩ := idxL_ok e6
        exact ⟨q, u2, dy, ds0, j, z, rfl, rfl, ((r1.mono g2).db rm2 e3).dp, (r2.db rm2 e4).dp, (shapeds_of f2).2, shaped_of f1, z1, z2, z3, res_p h3 rm2 (.int _)⟩
/-- x = {k: v for ..} on one line, x a local -/
theorem ps_setDc {i : Nat} {y : Str} {py cp spos : Pos} {kx vx tgt it : Expr} {tests : List Expr} {bs : Scope} {own : List (Str × Nat)} {wi : TI} {g : TG} {tt : TT} {tk tv : TE} (hc : X.calm = true) (nd : X.N.Nodup) (hy : X.N[i]? = some y) (hl : X.env.scope.names.lookup y = some .local)
    (hsw : swapsWith (.DictComp kx vx [⟨tgt, it, tests, 0⟩] bs cp) (some (.Name y py)) spos.line X.env = pure true) (hi : PI X tgt it wi) (ok : BlkOk X.N X.env.scope bs own)
    (hg : ∀ (s : Shared) (H : Hp) (C : Addr) (cl : List (Str × Addr)) (fp : List Addr), PG (X.blk s H bs (compEnvC bs cl C X.env) fp) tgt g) (ht : ∀ (s : Shared) (H : Hp) (C : Addr) (cl : List (Str × Addr)) (fp : List Addr), PTs (X.blk s H bs (compEnvC bs cl C X.env) fp) tests tt)
    (hk : ∀ (s : Shared) (H : Hp) (C : Addr) (cl : List (Str × Addr)) (fp : List Addr), PE (X.blk s H bs (compEnvC bs cl C X.env) fp) kx tk) (hv : ∀ (s : Shared) (H : Hp) (C : Addr) (cl : List (Str × Addr)) (fp : List Addr), PE (X.blk s H bs (compEnvC bs cl C X.env) fp) vx tv)
    (hs : ∀ x, foldedSetIterable it X.env x = pure x) : PS X (.Assign [.Name y py] (.DictComp kx vx [⟨tgt, it, tests, 0⟩] bs cp) spos) (tAsg (tDc wi g tt tk tv (own.map (·.2))) (gName i)) := by
  refine ⟨fun pins st σ H D I h => ?_⟩
  rw [exec_Assign_Name_used _ _ _ _ hsw]
  have h : tDc wi g tt tk tv (own.map (·.2)) σ H (fun x H1 => gName i x σ H1 D.nx) := h
  have core := dc_core (pos := cp) (pos' := firstIterPos [⟨tgt, it, tests, 0⟩] cp) (use := some (assign (.Name y py) X.env)) (Qf := fun _ s' => SP X pins D .next s') hc nd I hi ok hg ht hk hv hs h fun L C s' m H' I' q hn f => by
    show wpAny _ _ (assign (.Name y py) X.env (.ref L)) _ _ _
    obtain ⟨f0, f1, f2, f3, f4, f5⟩ := f
    refine wpAny_assign_Name (store_ok2 (v := V.ref L) I' nd hy (.inl hl) rfl (fun s2 I2 ⟨a, sb, ha⟩ => ?_) (.inr hl))
    have hne : C ≠ a := ha.elim (fun z => by rw [z]; exact f1) fun z e => f4 y a z e.symm
    exact ⟨m, hn.sameBut sb hne, fun h3 sb3 => ⟨_, H', I2.turned (t' := s2.toks) (fun b o hb e => (sb3.2 b hb).trans e) f0 f1 f3 f4 f5, q⟩⟩
  refine wpAny_bind (wpAny_standAt (wpAny_bind ?_))
  show wpAny _ X.A (do let _ ← comprehension (.DictComp kx vx [⟨tgt, it, tests, 0⟩] bs cp) bs X.env (firstIterPos [⟨tgt, it, tests, 0⟩] cp) newDict false (eval it X.env) (some (assign (.Name y py) X.env))) _ _ st
  exact wpAny_bind (thn core fun _ s' hq => wpAny_pure (wpAny_pure hq))
end
end Eg
namespace Eg
open PySem PySem.Spec PyProof.Rows L2
theorem keyD_inj {a b : Key} (h : keyD a = keyD b) : a = b := by
  cases a <;> cases b <;> simp_all [keyD]
section
variable {io : Io} {K : PySem.W.Frag} {H : Hp}
theorem DKs.any {k : Key} : ∀ {kvs : List (Key × V)} {ds : List (D × D)}, DKs io K H kvs ds → (kvs.any fun kv => decide (kv.1 = k)) = (ds.any fun q => decide (q.1 = keyD k))
  | _, _, .nil => rfl
  | _, _, .cons (k := j) h hs => by
    rw [List.any_cons, List.any_cons, hs.any]
    have : decide (j = k) = decide (keyD j = keyD k) := by
      by_cases e : j = k
      · subst e; simp
      · rw [decide_eq_false e, decide_eq_false fun z => e (keyD_inj z)]
    rw [this]
theorem DKs.app : ∀ {a b : List (Key × V)} {c d : List (D × D)}, DKs io K H a c → DKs io K H b d → DKs io K H (a ++ b) (c ++ d)
  | _, _, _, _, .nil, k => k
  | _, _, _, _, .cons h hs, k => .cons h (hs.app k)
theorem DKs.put {k : Key} {z : V} {d : D} (hz : DV io K H z d) {kvs : List (Key × V)} {ds : List (D × D)} (h : DKs io K H kvs ds) : DKs io K H (putK kvs k z) (putD ds (keyD k) d) := by
  unfold putK putD
  rw [h.any]
  by_cases c : (ds.any fun q => decide (q.1 = keyD k)) = true
  · rw [if_pos c, if_pos c]
    clear c
    have go : ∀ {kvs : List (Key × V)} {ds : List (D × D)}, DKs io K H kvs ds → DKs io K H (kvs.map fun kv => if kv.1 = k then (kv.1, z) else kv) (ds.map fun q => if q.1 = keyD k then (q.1, d) else q) := by
      intro kvs ds h
      induction h with
      | nil => exact .nil
      | @cons j v e kvs ds hv hs ih =>
        rw [List.map_cons, List.map_cons]
        by_cases e : j = k
        · rw [if_pos e, if_pos (by rw [e])]
          exact .cons hz ih
        · rw [if_neg e, if_neg fun q => e (keyD_inj q)]
          exact .cons hv ih
    exact go h
  · rw [if_neg c, if_neg c]
    exact h.app (.cons hz .nil)
theorem DKs.over {p : Addr} {o : HO} {xs : List (Key × V)} {ds : List (D × D)} (hp : p ∈ io.no) (h : DKs io K H xs ds) : DKs io K (L2.upd H p o) xs ds :=
  h.stay fun a u n e => by rw [upd_ne (fun z => by subst z; exact n hp)]; exact e
end
section
variable {X : Cx} {W : WX} {ft : Sg → Mem → Rs Bool} {fi : Sg → Mem → Rs Wk} {fk fv : Sg → Mem → Rs Vl}
/-- the reading of a dict comprehension -/
theorem dc_read {tgx : Tg} {wi : TI} {own : List Nat} {pr : Prop} (hi : SI pr X W wi fi) (hpr : pr → ∃ is, tgx = .tp is) (hok : ∀ g M w M', fi g M = .ok w M' → w.ok M' = true) (hsub : ∀ i ∈ tgSlots tgx, i ∈ own)
    {io : Io} {s : L2.St} {H : Hp} {g : Sg} {M : Mem} {Q : VK} (rs : RS io X.K H s g) (rm : RM io X.K H M)
    (hp : Post X.K (fun _ _ (_ : Addr) (_ : List D) => True) io H (fLc own tgx fi ft (fPair fk fv) g M) (fun _ _ => True) (fun cls d H' => W cls d s H'))
    (hQ : ∀ ps M2 io1 H1 io2 H2 L kvs, fLc own tgx fi ft (fPair fk fv) g M = .ok ps M2 → Gr io H io1 H1 → Gr io1 H1 io2 H2 → RM io2 X.K H2 M2 → H1 L = none → L ∈ io2.no → L ∉ io2.ids → H2 L = some (.dK kvs) → DKs io2 X.K H2 kvs (ps.foldl putP []) → Q (.ref L) H2) :
    tDc wi (tgT X.K tgx) (ttOf X.K Wno ft) (tOf X.K Wno fk) (tOf X.K Wno fv) own s H Q := by
  have hp0 : Post X.K (fun io H J w => IW pr X.K io H J w) io H (fi g M) (fun (_ : L2.It) _ => True) (fun cls d H' => W cls d s H') := by
    unfold fLc at hp
    cases e : fi g M with
    | bad => rw [e] at hp; exact hp
    | exc c fs M1 => rw [e] at hp; exact hp
    | ok w M1 => exact fun _ _ _ _ _ _ => trivial
  refine hi io s H g M _ rs rm ?_
  cases e : fi g M with
  | bad => rw [e] at hp0; exact hp0
  | exc c fs M1 => rw [e] at hp0; exact hp0
  | ok w M1 =>
    intro io1 H1 J g1 rm1 iw L hL
    obtain ⟨hz, hb, hfull⟩ := fLc_ok e hp
    have hok := hok _ _ _ _ e
    obtain ⟨G, Y, wk, hG, hY⟩ := iw
    have rs1 := rs.mono g1
    let total := lcLoop w (fStep own tgx ft (fPair fk fv) g) w.items M1 []
    let Pv : Nat → Hp → Prop := fun i Hn => ∃ io' M' acc kvs, Gr io1 H1 io' Hn ∧ RM io' X.K Hn M' ∧ w.ok M' = true ∧ L ∈ io'.no ∧ L ∉ io'.ids ∧ Hn L = some (.dK kvs) ∧ DKs io' X.K Hn kvs (acc.foldl putP []) ∧ kvs.length ≤ i ∧
        lcLoop w (fStep own tgx ft (fPair fk fv) g) (w.items.drop i) M' acc = total
    refine ⟨fun i m Hn => m = w.items.length - i ∧ i ≤ w.items.length ∧ Pv i Hn, ⟨_, rfl, Nat.zero_le _, io1.guard L, M1, [], [], Gr.guard hL, rm1.guard hL, hok, List.mem_cons_self, fun z => rm1.fresh hL (io1.sub _ z), upd_same, .nil, Nat.le_refl _, by rw [List.drop_zero]⟩, ?_⟩
    rintro i m Hn ⟨rfl, hi, io', M', acc, kvs, gr, rm', ok, d1, d2, d3, d4, d5, d6⟩
    have hg := hG io' Hn M' gr rm' ok
    by_cases hlt : i < w.items.length
    · refine .inr ⟨wk.goes i Hn hlt hg, Pv (i + 1), fun H' q => ⟨w.items.length - (i + 1), by omega, rfl, hlt, q⟩, fun x Hn' y => ?_⟩
      obtain ⟨g2, rm2, rx⟩ := hY i Hn x Hn' w.items[i] io' M' (List.getElem?_eq_getElem hlt) gr rm' ok (wk.yields i Hn x Hn' hlt hg y)
      have nb : lcLoop w (fStep own tgx ft (fPair fk fv) g) (w.items.drop i) M' acc ≠ .bad := by rw [d6]; exact hb
      rw [List.drop_eq_getElem_cons hlt] at nb d6
      obtain ⟨r, M2, es, ok2, el⟩ := lcLoop_cons nb
      rw [el] at d6
      have rs2 : RS io' X.K Hn' (L2.wipe s own) (wipe g own) := ((rs1.mono gr).mono g2).wipe own
      unfold fStep at es
      cases est : store tgx w.items[i] (wipe g own) with
      | none => rw [est] at es; cases es
      | some g' =>
        rw [est] at es
        refine sg_ok rs2 hpr rx est fun s' rs' hw => ⟨(hw own hsub).trans (wipe_wipe s own), ?_⟩
        obtain ⟨c, Mc, ec, es⟩ := bind_ok_of es
        refine st_uni io' s' Hn' g' M' _ rs' rm2 ?_
        rw [ec]
        intro io3 H3 k g3 rm3 ek
        cases ek
        have d3' := g2.keep _ _ d3 d2
        cases c with
        | false =>
          simp only [if_false, Bool.false_eq_true] at es ⊢
          cases es
          have g23 := g2.trans g3
          refine ⟨io3, _, acc, kvs, gr.trans g23, rm3, ok2, g23.mor _ d1, g23.outi d3 d2, g3.keep _ _ d3' (g2.outi d3 d2), d4.mono g23, by omega, ?_⟩
          rw [List.append_nil] at d6
          exact d6
        | true =>
          simp only [if_true] at es ⊢
          obtain ⟨pv, My, ep, es⟩ := bind_ok_of es
          unfold fPair at ep
          obtain ⟨kx, Mk, ekx, ep⟩ := bind_ok_of ep
          obtain ⟨vx, Mv, evx, ep⟩ := bind_ok_of ep
          refine se_uni io3 s' H3 g' Mc _ (rs'.mono g3) rm3 ?_
          rw [ekx]
          intro io4 H4 u g4 rm4 ru
          refine se_uni io4 s' H4 g' Mk _ ((rs'.mono g3).mono g4) rm4 ?_
          rw [evx]
          intro io5 H5 v g5 rm5 rv
          have g25 := ((g2.trans g3).trans g4).trans g5
          have k3 := g3.keep _ _ d3' (g2.outi d3 d2)
          have k4 := g4.keep _ _ k3 (g3.outi d3' (g2.outi d3 d2))
          have k5 := g5.keep _ _ k4 (g4.outi k3 (g3.outi d3' (g2.outi d3 d2)))
          cases kx with
          | p dk =>
            cases vx with
            | p dv =>
              have ep : Rs.of Mv (if keyB dk then some (Vl.p (.tuple [dk, dv])) else none) = .ok pv My := ep
              by_cases hkb : keyB dk = true
              · rw [if_pos hkb] at ep
                cases ep
                cases es
                have key : ∃ k : Key, u = kV k ∧ dk = keyD k := by
                  cases ru with
                  | int j => exact ⟨.inl j, rfl, rfl⟩
                  | str x => exact ⟨.inr x, rfl, rfl⟩
                  | _ => cases hkb
                obtain ⟨k, rfl, rfl⟩ := key
                have hd1 : L ∈ io5.no := g25.mor _ d1
                have hd2 : L ∉ io5.ids := g25.outi d3 d2
                refine ⟨kvs, k, rfl, k5, by rw [line_eq] at hz; omega, io5, _, acc ++ [.tuple [keyD k, dv]], putK kvs k v, (gr.trans g25).over hL, rm5.over hd1 hd2, ok2, hd1, hd2, upd_same, ?_, Nat.le_trans (length_putK kvs k v) (Nat.succ_le_succ d5), d6⟩
                rw [List.foldl_append]
                exact (DKs.put rv (d4.mono g25)).over hd1
              · rw [if_neg hkb] at ep
                cases ep
            | r i => cases ep
            | s ds => cases ep
          | r i => cases ep
          | s ds => cases ep
    · have ei : i = w.items.length := by omega
      subst ei
      refine .inl ⟨wk.stops Hn hg, ?_⟩
      rw [List.drop_eq_nil_of_le (Nat.le_refl _)] at d6
      exact hQ acc M' io1 H1 io' Hn L kvs (by rw [hfull]; exact d6.symm) g1 gr rm' hL d1 d2 d3 d4
end
end Eg
namespace Eg
open PySem PySem.Spec PyProof.Rows L2
theorem RM.takeO {io : Io} {K : PySem.W.Frag} {H : Hp} {M : Mem} {p : Addr} {o : MO} (r : RM io K H M) (hp : p ∈ io.no) (hi : p ∉ io.ids) (hm : MOk io K H p o) (hn : ∀ c fs, o ≠ .ins c fs) : RM (io.take p hp) K H (M ++ [o]) := r.takeM hp hi (hm.lessD (io := io) (io' := io.take p hp) (fun _ z => z) hn)
section
variable {X : Cx} {W : WX} {ft : Sg → Mem → Rs Bool} {fi : Sg → Mem → Rs Wk} {fk fv : Sg → Mem → Rs Vl} {tg kx vx iter : Expr} {pos : Pos}
structure DcOk (X : Cx) (tgx : Tg) (tg kx vx : Expr) (ifs : List Expr) (scope : Scope) (own : List (Str × Nat)) (ft : Sg → Mem → Rs Bool) (fk fv : Sg → Mem → Rs Vl) : Prop where
  k : LcOk X tgx tg kx ifs scope own ft fk
  v : LcOk X tgx tg vx ifs scope own ft fv
theorem okS_newd {tgx : Tg} {ifs : List Expr} {scope : Scope} {own : List (Str × Nat)} {i : Nat} {x : Str} {pos' cp : Pos} (hc : X.calm = true) (hN : X.N.Nodup) (hx : X.N[i]? = some x) (hl : X.env.scope.names.lookup x = some .local)
    (hsw : swapsWith (.DictComp kx vx [⟨tg, iter, ifs, 0⟩] scope cp) (some (.Name x pos')) pos.line X.env = pure true) (hpi : Pln iter) (hi : OkI X W tg iter fi) (hb : DcOk X tgx tg kx vx ifs scope own ft fk fv) :
    OkS X W (.Assign [.Name x pos'] (.DictComp kx vx [⟨tg, iter, ifs, 0⟩] scope cp) pos) (fun g M => lift (fLc (own.map (·.2)) tgx fi ft (fPair fk fv) g M) g fun ps M1 => some (.nx (g.set i (some (.r M1.length))), M1 ++ [.dic (ps.foldl putP [])])) := by
  obtain ⟨⟨wi, pi, si⟩, hok⟩ := hi
  refine ⟨_, ps_setDc (g := tgT X.K tgx) (tt := ttOf X.K Wno ft) (tk := tOf X.K Wno fk) (tv := tOf X.K Wno fv) hc hN hx hl hsw pi hb.k.blk (fun s H C cl fp => pg_ok (X := X.blk s H scope (compEnvC scope cl C X.env) fp) hN hc (hb.k.tg s H C cl fp)) (fun s H C cl fp => (hb.k.ifs s H C cl fp).uni) (fun s H C cl fp => (hb.k.elt s H C cl fp).uni) (fun s H C cl fp => (hb.v.elt s H C cl fp).uni) (set_of hpi), fun io s H g M Dn rs rm h => ?_⟩
  have h : SPost X.K io H (lift (fLc (own.map (·.2)) tgx fi ft (fPair fk fv) g M) g fun ps M1 => some (.nx (g.set i (some (.r M1.length))), M1 ++ [.dic (ps.foldl putP [])])) Dn W := h
  have hp : Post X.K (fun (_ : Io) (_ : Hp) (_ : Addr) (_ : List Eg.D) => True) io H (fLc (own.map (·.2)) tgx fi ft (fPair fk fv) g M) (fun (_ : Addr) _ => True) (fun cls d H' => W cls d s H') := by
    cases e : fLc (own.map (·.2)) tgx fi ft (fPair fk fv) g M with
    | bad => rw [e] at h; exact h
    | ok ds M2 => exact fun _ _ _ _ _ _ => trivial
    | exc c fs M1 => rw [e] at h; exact fun io1 H1 cls d g1 rm1 xr => h io1 s H1 cls d g1 rm1 (rs.mono g1) xr
  show tDc wi (tgT X.K tgx) (ttOf X.K Wno ft) (tOf X.K Wno fk) (tOf X.K Wno fv) (own.map (·.2)) s H (fun x H1 => gName i x s H1 Dn.nx)
  refine dc_read (Q := fun x H1 => gName i x s H1 Dn.nx) si hb.k.pr hok hb.k.sub rs rm hp fun ps M2 io1 H1 io2 H2 L kvs e g1 g2 rm2 h1 h2 h3 h5 h6 => ?_
  rw [e] at h
  have h0 : H L = none := by
    cases q : H L with
    | none => rfl
    | some o =>
      by_cases n : L ∈ io.ids
      · obtain ⟨t, ht⟩ := (g1.trans g2).pre
        exact absurd (by rw [← ht]; exact List.mem_append_left _ n) h3
      · rw [g1.keep L o q n] at h1
        cases h1
  have gt := (g1.trans g2).take h2 h0
  refine h (io2.take L h2) _ H2 gt (rm2.takeO h2 h3 ⟨kvs, h5, h6⟩ fun _ _ z => by cases z) ((rs.mono gt).set i ⟨L, rfl, ?_⟩)
  show (io2.ids ++ [L])[M2.length]? = some L
  rw [← rm2.len, List.getElem?_append_right (Nat.le_refl _), Nat.sub_self]
  rfl
end
end Eg
namespace Eg
open PySem PySem.Spec PyProof.Rows L2
section
variable {X : Cx} {W : WX} {a b : Expr} {pos p : Pos} {fa fb : Sg → Mem → Rs Vl}
def mmName (c : Bool) : Str := if c then "max" else "min"
theorem okE_mm2 {c : Bool} (hc : X.calm = true) (hg : Gl X (mmName c)) (hm : X.mg (mmName c) = none) (hpa : Pln a) (hpb : Pln b) (ha : OkE X W a fa) (hb : OkE X W b fb) :
    OkE X W (.Call (.Name (mmName c) p) [a, b] [] pos) (fun s M => (fa s M).bind fun x M1 => (fb s M1).bind fun y M2 => Rs.of M2 (mmOf c x y)) := by
  obtain ⟨t, pe, se⟩ := ha
  obtain ⟨t', pe', se'⟩ := hb
  have run : ∀ {r : List V → Hp → VK → Prop}, (∀ i j H Q, Q (.int (if c then (if j > i then j else i) else (if j < i then j else i))) H → r [.int i, .int j] H Q) → SE X W (tCB r (tCons t (tCons t' tNil))) (fun s M => (fa s M).bind fun x M1 => (fb s M1).bind fun y M2 => Rs.of M2 (mmOf c x y)) := by
    intro r hr io s H sg M Q rs rm hp
    refine se io s H sg M _ rs rm (hp.seq fun x M1 io1 H1 u1 e1 g1 rm1 r1 hp1 => ?_)
    refine se' io1 s H1 sg M1 _ (rs.mono g1) rm1 (hp1.seq fun y M2 io2 H2 u2 e2 g2 rm2 r2 hp2 => ?_)
    cases x with
    | p d =>
      cases y with
      | p d' =>
        cases r1 with
        | int i =>
          cases r2 with
          | int j => exact hr i j H2 Q (res_p hp2 rm2 (.int _))
          | _ => exact hp2.elim
        | _ => cases d' <;> exact hp2.elim
      | r i => cases d <;> exact hp2.elim
      | s ds => cases d <;> exact hp2.elim
    | r i => exact hp2.elim
    | s ds => exact hp2.elim
  have hs : starEach [a, b] X.env = (false, eval a X.env) :: starEach [b] X.env := star_of hpa
  cases c with
  | true => exact ⟨_, pe_callB (call_max2 hc) hg hm (by decide +kernel) (pa_cons pe (pa_cons pe' pa_nil (star_of hpb)) (star_of hpa)) (by decide) (by decide) hs (any_of ⟨hpb, trivial⟩), run fun i j H Q q => ⟨i, j, rfl, q⟩⟩
  | false => exact ⟨_, pe_callB (call_min2 hc) hg hm (by decide +kernel) (pa_cons pe (pa_cons pe' pa_nil (star_of hpb)) (star_of hpa)) (by decide) (by decide) hs (any_of ⟨hpb, trivial⟩), run fun i j H Q q => ⟨i, j, rfl, q⟩⟩
end
end Eg

/-! Engine: a dict display that is asked at once. By an AI agent. -/
namespace Eg
open PySem PySem.Spec PyProof.Rows L2
section
variable {io io1 : Io} {K : PySem.W.Frag} {H H1 : Hp} {p : Addr}
mutual
theorem DV.ovr {l : List (Key × V)} {o : HO} (hp : H p = some (.dK l)) : ∀ {v : V} {d : D}, DV io K H v d → DV io K (upd H p o) v d
  | _, _, .non => .non
  | _, _, .bl b => .bl b
  | _, _, .int i => .int i
  | _, _, .str x => .str x
  | _, _, .lst h n hs => .lst (by rw [upd_ne (fun e => by subst e; rw [hp] at h; cases h)]; exact h) n (DVs.ovr hp hs)
  | _, _, .tup h hs => .tup (h.elim (fun ⟨⟨q, h, k⟩, n⟩ => .inl ⟨⟨q, by rw [upd_ne (fun e => by subst e; rw [hp] at h; cases h)]; exact h, k⟩, n⟩) .inr) (DVs.ovr hp hs)
theorem DVs.ovr {l : List (Key × V)} {o : HO} (hp : H p = some (.dK l)) : ∀ {vs : List V} {ds : List D}, DVs io K H vs ds → DVs io K (upd H p o) vs ds
  | _, _, .nil => .nil
  | _, _, .cons h hs => .cons (DV.ovr hp h) (DVs.ovr hp hs)
end
theorem DKs.ovr {l : List (Key × V)} {o : HO} (hp : H p = some (.dK l)) : ∀ {kvs : List (Key × V)} {ds : List (D × D)}, DKs io K H kvs ds → DKs io K (upd H p o) kvs ds
  | _, _, .nil => .nil
  | _, _, .cons h hs => .cons (h.ovr hp) (DKs.ovr hp hs)
theorem DTs.ovr {l : List (Key × V)} {o : HO} (hp : H p = some (.dK l)) : ∀ {xs : TEs} {ds : List (List Int × D)}, DTs io K H xs ds → DTs io K (upd H p o) xs ds
  | _, _, .nil => .nil
  | _, _, .cons t h hs => .cons (t.elim (fun ⟨⟨q, h, k⟩, n⟩ => .inl ⟨⟨q, by rw [upd_ne (fun e => by subst e; rw [hp] at h; cases h)]; exact h, k⟩, n⟩) .inr) (h.ovr hp) (DTs.ovr hp hs)
theorem RM.ovr {M : Mem} {l : List (Key × V)} {o : HO} (hp : H p = some (.dK l)) (hn : p ∉ io.no) (r : RM io K H M) : RM io K (L2.upd H p o) M :=
  ⟨r.len, r.nd, fun i a u e e' => by
    have ha : a ≠ p := fun z => by subst z; exact hn (io.sub _ (List.mem_of_getElem? e))
    have h := r.at_ i a u e e'
    cases u with
    | lst ds => obtain ⟨xs, e1, hs⟩ := h; exact ⟨xs, by rw [upd_ne ha]; exact e1, hs.ovr hp⟩
    | dic ds => obtain ⟨kvs, e1, hs⟩ := h; exact ⟨kvs, by rw [upd_ne ha]; exact e1, hs.ovr hp⟩
    | dit ds => obtain ⟨xs, e1, l, hs⟩ := h; exact ⟨xs, by rw [upd_ne ha]; exact e1, l, hs.ovr hp⟩
    | ins c fs => obtain ⟨n, dx, fv, i, e1, hs⟩ := h; exact ⟨n, dx, fv, i, by rw [upd_ne ha]; exact e1, hs.to (fun _ _ r => r.ovr hp) fun _ _ _ q => q⟩, fun a ha => by
    have hne : a ≠ p := fun z => by subst z; exact hn ha
    rw [upd_ne hne]
    exact r.all a ha⟩
/-- from the heap without p to the one with p filled -/
theorem Gr.ovr {o o' : HO} (hp : H p = none) (hn : p ∉ io1.no) (g : Gr io (L2.upd H p o) io1 H1) : Gr io H io1 (L2.upd H1 p o') := by
  refine ⟨g.pre, g.mor, fun a h n => ?_, fun a h n => ?_, fun a u h n => ?_⟩
  · have := g.newi a h n
    have hne : a ≠ p := fun z => by subst z; exact hn (io1.sub _ h)
    rwa [upd_ne hne] at this
  · have := g.new a h n
    have hne : a ≠ p := fun z => by subst z; exact hn h
    rwa [upd_ne hne] at this
  · have hne : a ≠ p := fun z => by subst z; rw [hp] at h; cases h
    rw [upd_ne hne]
    exact g.keep a u (by rw [upd_ne hne]; exact h) n
theorem keyD_inj2 {a b : Key} (h : keyD a = keyD b) : a = b := by
  cases a with
  | inl i => cases b with
    | inl j => rw [PyData.int.inj h]
    | inr y => cases h
  | inr x => cases b with
    | inl j => cases h
    | inr y => rw [PyData.str.inj h]
theorem keyD_of {v : V} {d : D} (h : DV io K H v d) (hk : isKeyD d = true) : ∃ k : Key, v = kV k ∧ d = keyD k := by
  cases h with
  | int i => exact ⟨.inl i, rfl, rfl⟩
  | str x => exact ⟨.inr x, rfl, rfl⟩
  | _ => cases hk
/-- what is found, on both sides -/
def FV (io : Io) (K : PySem.W.Frag) (H : Hp) : Option V → Option D → Prop
  | none, none => True
  | some v, some d => DV io K H v d
  | _, _ => False
theorem FV.merge {k : Key} : ∀ {kvs : List (Key × V)} {ds : List (D × D)} {acc : List (Key × V)} {r : Option D}, DKs io K H kvs ds → FV io K H (valV acc k) r →
    FV io K H (valV (mergeK acc kvs) k) (ds.foldl (fun a p => if p.1 = keyD k then some p.2 else a) r)
  | _, _, _, _, .nil, h => h
  | _, _, acc, r, .cons (k := k') (v := v) (d := d) hv hs, h => by
    show FV io K H (valV (mergeK (putK acc k' v) _) k) (List.foldl (fun (a : Option D) (p : D × D) => if p.1 = keyD k then some p.2 else a) (if keyD k' = keyD k then some d else r) _)
    refine FV.merge (acc := putK acc k' v) hs ?_
    rw [valV_put]
    by_cases z : k = k'
    · rw [if_pos z, if_pos (by rw [z])]
      exact hv
    · rw [if_neg z, if_neg (fun e => z (keyD_inj2 e).symm)]
      exact h
theorem FV.lkp {k : Key} {kvs : List (Key × V)} {ds : List (D × D)} (h : DKs io K H kvs ds) : FV io K H (valV (mergeK [] kvs) k) (lkpD ds (keyD k)) := FV.merge h (by rw [valV_nil]; trivial)
end
section
variable {X : Cx} {W : WX}
def SPd (X : Cx) (W : WX) (trs : List (TE × TE)) (f : Sg → Mem → Rs (List (D × D))) : Prop :=
  ∀ (io : Io) (s : L2.St) (H : Hp) (g : Sg) (M : Mem) (Q : List (V × V) → Hp → Prop), RS io X.K H s g → RM io X.K H M →
    Post X.K (fun io H (us : List (V × V)) ds => ∃ kvs : List (Key × V), us = kvs.map (fun kv => (kV kv.1, kv.2)) ∧ DKs io X.K H kvs ds) io H (f g M) Q (fun cls d H' => W cls d s H') → tPairs trs s H Q
def OkPd (X : Cx) (W : WX) (pos : Pos) (ks : List (Option Expr)) (vs : List Expr) (f : Sg → Mem → Rs (List (D × D))) : Prop :=
  ∃ trs, PPs X pos ks vs trs ∧ SPd X W trs f ∧ ks.all (·.isSome) = true ∧ ks.length = vs.length ∧ ∀ g M ds M', f g M = .ok ds M' → ds.length = ks.length
theorem okP_nil {pos : Pos} : OkPd X W pos [] [] (fun _ M => .ok [] M) :=
  ⟨[], pps_nil, fun io s H g M Q rs rm h => h.done rm ⟨[], rfl, .nil⟩, rfl, rfl, fun g M ds M' h => by cases h; rfl⟩
theorem okP_cons {pos : Pos} {k v : Expr} {ks : List (Option Expr)} {vs : List Expr} {fk fv : Sg → Mem → Rs Vl} {fp : Sg → Mem → Rs (List (D × D))} (hk : OkE X W k fk) (hv : OkE X W v fv) (hp : OkPd X W pos ks vs fp) :
    OkPd X W pos (some k :: ks) (v :: vs) (fun g M => (fk g M).bind fun x M1 => (fv g M1).bind fun y M2 => (Rs.of M2 (pxOf x y)).bind fun p M3 => (fp g M3).bind fun qs M4 => .ok (p :: qs) M4) := by
  obtain ⟨tk, pk, sk⟩ := hk
  obtain ⟨tv, pv, sv⟩ := hv
  obtain ⟨trs, pp, sp, h1, h2, h3⟩ := hp
  refine ⟨(tk, tv) :: trs, pps_cons pk pv pp, fun io s H g M Q rs rm hq => ?_, by simpa using h1, by simp [h2], fun g M ds M' h => ?_⟩
  · refine sk io s H g M _ rs rm (hq.seq fun x M1 io1 H1 u1 e1 g1 rm1 r1 hq1 => ?_)
    refine sv io1 s H1 g M1 _ (rs.mono g1) rm1 (hq1.seq fun y M2 io2 H2 u2 e2 g2 rm2 r2 hq2 => ?_)
    cases e3 : pxOf x y with
    | none => rw [e3] at hq2; exact hq2.elim
    | some p =>
      rw [e3] at hq2
      simp only [Rs.of_some, Rs.bind_ok] at hq2
      refine sp io2 s H2 g M2 _ ((rs.mono g1).mono g2) rm2 (hq2.seq fun ds M4 io4 H4 u4 e4 g4 rm4 r4 hq4 => ?_)
      obtain ⟨kvs, rfl, hks⟩ := r4
      unfold pxOf at e3
      obtain ⟨dx, e5, e6⟩ := Option.bind_eq_some_iff.mp e3
      obtain ⟨dy, e7, e8⟩ := Option.bind_eq_some_iff.mp e6
      obtain ⟨hkey, rfl⟩ := ite_some e8
      cases x with
      | p d =>
        cases e5
        cases y with
        | p d' =>
          cases e7
          have r1 : DV io1 X.K H1 u1 dx := r1
          have r2 : DV io2 X.K H2 u2 dy := r2
          obtain ⟨k, rfl, rfl⟩ := keyD_of r1 hkey
          exact hq4.done rm4 ⟨(k, u2) :: kvs, rfl, .cons (r2.mono g4) hks⟩
        | _ => cases e7
      | _ => cases e5
  · obtain ⟨x, M1, _, h⟩ := bind_ok_of h
    obtain ⟨y, M2, _, h⟩ := bind_ok_of h
    obtain ⟨p, M3, _, h⟩ := bind_ok_of h
    obtain ⟨qs, M4, e, h⟩ := bind_ok_of h
    cases h
    rw [List.length_cons, List.length_cons, h3 _ _ _ _ e]
theorem okE_dgt {apos cpos dpos : Pos} {ks : List (Option Expr)} {vs : List Expr} {e f : Expr} {fp : Sg → Mem → Rs (List (D × D))} {fk fd : Sg → Mem → Rs Vl} (hu : X.A.units + 1 < cLine) (hp : OkPd X W dpos ks vs fp) (h0 : ks ≠ []) (h15 : ks.length ≤ 15) (hk : OkE X W e fk) (hd : OkE X W f fd) (pe : Pln e) (pf : Pln f) (hline : (apos.endLine == cpos.line) = true) :
    OkE X W (.Call (.Attribute (.Dict ks vs dpos) "get" apos) [e, f] [] cpos) (fun g M => (fp g M).bind fun ps M1 => (fk g M1).bind fun y M2 => (fd g M2).bind fun z M3 => Rs.of M3 (dgtOf ps y z)) := by
  obtain ⟨trs, pp, sp, h1, h2, h3⟩ := hp
  obtain ⟨tk, pk, sk⟩ := hk
  obtain ⟨td, pd, sd⟩ := hd
  refine ⟨_, pe_dget2 hu (pe_disp pp h1 h2 h0 h15) pk pd ⟨base_of (o := .Dict ks vs dpos) trivial, few_of ⟨pe, pf, trivial⟩ (by simp), hline, by
    unfold backTo
    rw [star_of pe, star_of pf]
    rfl⟩, fun io s H sg M Q rs rm hq => ?_⟩
  intro p hpn
  have hpo : p ∉ io.no := rm.fresh hpn
  refine sp io s _ sg M _ (rs.mono (Gr.upd hpn)) (rm.upd hpn) ((Post.shift (Gr.upd hpn) hq).seq fun ps M1 io1 H1 us e1 g1 rm1 r1 _ => ?_)
  obtain ⟨kvs, rfl, hks⟩ := r1
  have hp1 : H1 p = some (.dK []) := g1.keep p _ upd_same (Io.out hpo)
  have hpo1 : p ∉ io1.no := g1.out (o := .dK []) upd_same hpo
  simp only [e1, Rs.bind_ok] at hq
  have G : Gr io H io1 (upd H1 p (.dK (mergeK [] kvs))) := Gr.ovr hpn hpo1 g1
  have hq1 := Post.shift G hq
  refine ⟨hp1, kvs, rfl, by rw [hks.length, h3 _ _ _ _ e1]; exact h15, p, rfl, .inl ⟨_, .inl upd_same⟩, ?_⟩
  have hks := DKs.ovr (o := .dK (mergeK [] kvs)) hp1 hks
  have rm1 := RM.ovr (o := .dK (mergeK [] kvs)) hp1 hpo1 rm1
  have hp2 : upd H1 p (.dK (mergeK [] kvs)) p = some (.dK (mergeK [] kvs)) := upd_same
  generalize upd H1 p (.dK (mergeK [] kvs)) = H1' at *
  refine sk io1 s H1' sg M1 _ (rs.mono G) rm1 (hq1.seq fun y M2 io2 H2 u2 e2 g2 rm2 r2 hq2 => ?_)
  refine sd io2 s H2 sg M2 _ ((rs.mono G).mono g2) rm2 (hq2.seq fun z M3 io3 H3 u3 e3 g3 rm3 r3 hq3 => ?_)
  have r2 := r2.mono g3
  have hks := (hks.mono g2).mono g3
  have hp3 : H3 p = some (.dK (mergeK [] kvs)) := (g2.trans g3).keep p _ hp2 (Io.out hpo1)
  cases e4 : dgtOf ps y z with
  | none => rw [e4] at hq3; exact hq3.elim
  | some w =>
    rw [e4] at hq3
    unfold dgtOf at e4
    obtain ⟨dy, e5, e6⟩ := Option.bind_eq_some_iff.mp e4
    obtain ⟨dz, e7, e8⟩ := Option.bind_eq_some_iff.mp e6
    obtain ⟨hkey, rfl⟩ := ite_some e8
    cases y with
    | p d =>
      cases e5
      cases z with
      | p d' =>
        cases e7
        have r2 : DV io3 X.K H3 u2 dy := r2
        have r3 : DV io3 X.K H3 u3 dz := r3
        obtain ⟨k, rfl, rfl⟩ := keyD_of r2 hkey
        refine ⟨_, DGet.k hp3, hq3.done rm3 ?_⟩
        have hf := FV.lkp (k := k) hks
        show DV io3 X.K H3 _ _
        cases ev : valV (mergeK [] kvs) k with
        | none =>
          cases ed : lkpD ps (keyD k) with
          | none => exact r3
          | some d => rw [ev, ed] at hf; exact hf.elim
        | some v =>
          cases ed : lkpD ps (keyD k) with
          | none => rw [ev, ed] at hf; exact hf.elim
          | some d => rw [ev, ed] at hf; exact hf
      | _ => cases e7
    | _ => cases e5
theorem okE_dgi {dpos pos : Pos} {ks : List (Option Expr)} {vs : List Expr} {e : Expr} {fp : Sg → Mem → Rs (List (D × D))} {fk : Sg → Mem → Rs Vl} (hu : X.A.units + 1 < cLine) (hp : OkPd X W dpos ks vs fp) (h0 : ks ≠ []) (h15 : ks.length ≤ 15) (hk : OkE X W e fk) (hs : PlainIx e) :
    OkE X W (.Subscript (.Dict ks vs dpos) e pos) (fun g M => (fp g M).bind fun ps M1 => (fk g M1).bind fun y M2 => Rs.of M2 (dgiOf ps y)) := by
  obtain ⟨trs, pp, sp, h1, h2, h3⟩ := hp
  obtain ⟨tk, pk, sk⟩ := hk
  refine ⟨_, pe_dget hu (pe_disp pp h1 h2 h0 h15) pk hs, fun io s H sg M Q rs rm hq => ?_⟩
  intro p hpn
  have hpo : p ∉ io.no := rm.fresh hpn
  refine sp io s _ sg M _ (rs.mono (Gr.upd hpn)) (rm.upd hpn) ((Post.shift (Gr.upd hpn) hq).seq fun ps M1 io1 H1 us e1 g1 rm1 r1 _ => ?_)
  obtain ⟨kvs, rfl, hks⟩ := r1
  have hp1 : H1 p = some (.dK []) := g1.keep p _ upd_same (Io.out hpo)
  have hpo1 : p ∉ io1.no := g1.out (o := .dK []) upd_same hpo
  simp only [e1, Rs.bind_ok] at hq
  have G : Gr io H io1 (upd H1 p (.dK (mergeK [] kvs))) := Gr.ovr hpn hpo1 g1
  have hq1 := Post.shift G hq
  refine ⟨hp1, kvs, rfl, by rw [hks.length, h3 _ _ _ _ e1]; exact h15, ?_⟩
  have hks := DKs.ovr (o := .dK (mergeK [] kvs)) hp1 hks
  have rm1 := RM.ovr (o := .dK (mergeK [] kvs)) hp1 hpo1 rm1
  have hp2 : upd H1 p (.dK (mergeK [] kvs)) p = some (.dK (mergeK [] kvs)) := upd_same
  generalize upd H1 p (.dK (mergeK [] kvs)) = H1' at *
  refine sk io1 s H1' sg M1 _ (rs.mono G) rm1 (hq1.seq fun y M2 io2 H2 u2 e2 g2 rm2 r2 hq2 => ?_)
  have hks := hks.mono g2
  have hp3 : H2 p = some (.dK (mergeK [] kvs)) := g2.keep p _ hp2 (Io.out hpo1)
  cases e4 : dgiOf ps y with
  | none => rw [e4] at hq2; exact hq2.elim
  | some w =>
    rw [e4] at hq2
    unfold dgiOf at e4
    obtain ⟨dy, e5, e6⟩ := Option.bind_eq_some_iff.mp e4
    by_cases hkey : isKeyD dy = true
    · rw [if_pos hkey] at e6
      obtain ⟨dw, e7, rfl⟩ := Option.map_eq_some_iff.mp e6
      cases y with
      | p d =>
        cases e5
        have r2 : DV io2 X.K H2 u2 dy := r2
        obtain ⟨k, rfl, rfl⟩ := keyD_of r2 hkey
        have hf := FV.lkp (k := k) hks
        rw [e7] at hf
        cases ev : valV (mergeK [] kvs) k with
        | none => rw [ev] at hf; exact hf.elim
        | some v =>
          rw [ev] at hf
          exact ⟨p, v, rfl, by rw [← ev]; exact DGet.k hp3, hq2.done rm2 hf⟩
      | _ => cases e5
    · rw [if_neg hkey] at e6
      cases e6
end
end Eg

/-! Engine: zip of a list and a tuple. By an AI agent. -/
namespace Eg
open PySem PySem.Spec PyProof.Rows L2
open RZ (ItzT pi_zipA iZipA)
/-- a list and a tuple as they stand at each turn, the items in new pairs -/
def ItzM (K : PySem.W.Frag) (a b : Addr) : L2.It :=
  ⟨fun i H => ∃ (xs ys : List V) (x y : V), SqL K H a xs ∧ SqT K H b ys ∧ xs[i]? = some x ∧ ys[i]? = some y,
    fun i H v H' => ∃ T x y, v = .ref T ∧ H T = none ∧ H' = upd H T (.tup [x, y]) ∧ (∀ xs, SqL K H a xs → xs[i]? = some x) ∧ ∀ ys, SqT K H b ys → ys[i]? = some y,
    fun i H => ∃ xs ys : List V, SqL K H a xs ∧ SqT K H b ys ∧ i = min xs.length ys.length⟩
theorem sep_of {z TI TO i1 i2 a b : Addr} (D : ZipApart z TI TO i1 i2 a b) : ZipSep2 z TI TO i1 i2 [i1, a] [i2, b] where
  TIz := D.TIz
  TOz := D.TOz
  TITO := D.TITO
  TIi1 := D.TIi1
  mem1 := by simp
  zf1 := by simp [D.i1z.symm, D.l1z.symm]
  Tf1 := by simp [D.TOi1, D.l1TO.symm]
  TIi2 := D.TIi2
  mem2 := by simp
  zf2 := by simp [D.i2z.symm, D.l2z.symm]
  Tf2 := by simp [D.TOi2, D.l2TO.symm]
  sep1_2 := by simp [D.i12, D.l2i1.symm]
  sep2_1 := by simp [D.i12.symm, D.l1i2.symm]
theorem turn_zipM {P : Program} {w : World} {K : PySem.W.Frag} {elts : List Expr} {kk : Nat} {tpos : Pos} {a b z TI TO i1 i2 : Addr} (D : ZipApart z TI TO i1 i2 a b) :
    Turn P w K (.Tuple elts kk tpos) (ItzM K a b) [z, TI, TO, i1, i2] z (fun i h => IsZip h z TI TO .none ∧ IsPair h TI (.ref i1) (.ref i2) ∧ (∃ x y, IsPair h TO x y) ∧ h.IsListIter i1 a i ∧ h.IsTupleIter i2 b i) where
  mem := by simp
  obj := fun i h st c hc => by
    obtain ⟨hz, hTI, ⟨x, y, hTO⟩, ⟨o1, e1, _, d1⟩, ⟨o2, e2, _, d2⟩⟩ := st
    simp only [List.mem_cons, List.mem_nil_iff, or_false] at hc
    rcases hc with rfl | rfl | rfl | rfl | rfl
    · exact ⟨_, hz, fun v q => nomatch q⟩
    · exact ⟨_, hTI, fun v q => nomatch q⟩
    · exact ⟨_, hTO, fun v q => nomatch q⟩
    · exact ⟨o1, e1, fun v q => by rw [d1] at q; cases q⟩
    · exact ⟨o2, e2, fun v q => by rw [d2] at q; cases q⟩
  keep := fun i h h' st k => by
    obtain ⟨hz, hTI, ⟨x, y, hTO⟩, h1, h2⟩ := st
    exact ⟨k z (by simp) _ hz, k TI (by simp) _ hTI, ⟨x, y, k TO (by simp) _ hTO⟩, h1.at fun o q => k i1 (by simp) o q, h2.at fun o q => k i2 (by simp) o q⟩
  item := by
    intro X hP hw hK hc i pins s σ H E I hf st hg
    subst hP hw hK
    obtain ⟨hz, hTI, ⟨x0, y0, hTO⟩, h1, h2⟩ := st
    obtain ⟨xs, ys, x, y, hqx, hqy, hx, hy⟩ := hg
    obtain ⟨its, rv, p, _⟩ := I.list hqx
    obtain ⟨its2, rv2, p2, _⟩ := I.tuple hqy
    obtain ⟨u, hu, ru⟩ := rv.get hx
    obtain ⟨u2, hu2, ru2⟩ := rv2.get hy
    have hzl : z < s.heap.objs.size := Heap.lt_size hz
    have hl1 : i < its.toArray.size := by simpa using (List.getElem?_eq_some_iff.mp hu).1
    have hl2 : i < its2.toArray.size := by simpa using (List.getElem?_eq_some_iff.mp hu2).1
    have p2' : s.heap.IsTuple b its2.toArray := p2
    refine wpAny_pyNext_zipD2_item (sep_of D) (Draws.list (A := X.A.in1) (I.ok.hd hc) i1 a D.l1i1 its.toArray) (Draws.tuple (A := X.A.in1) (I.ok.hd hc) i2 b D.l2i2 its2.toArray) hz hTI hTO ⟨h1, p.isList⟩ ⟨h2, p2'⟩ hl1 hl2 fun y1 y2 h' tk q1 q2 z' TO' st1 st2 hT hsz hk => ?_
    have ey : y1 = u := by
      have h3 : its.toArray[i]? = some u := by simpa using hu
      rw [h3] at q1
      exact (Option.some.inj q1).symm
    have ey2 : y2 = u2 := by
      have h3 : its2.toArray[i]? = some u2 := by simpa using hu2
      rw [h3] at q2
      exact (Option.some.inj q2).symm
    subst ey ey2
    refine ⟨_, rfl, wpAny_letOwnedTupleGo_zip (s := { s with heap := h', toks := tk }) z' fun h'' z'' sb => ?_⟩
    have hT2 : h''.get? s.heap.objs.size = some { cls := .type "tuple", data := .seq #[y1, y2] } := (sb.2 _ (Nat.ne_of_gt hzl)).trans hT
    have new : ObjOk X.prog X.w (upd H s.heap.objs.size (.tup [x, y])) h'' s.heap.objs.size (.tup [x, y]) :=
      ⟨by show 2 ≤ sizeLine; decide, [y1, y2], .cons ru (.cons ru2 .nil), ⟨_, hT2, rfl, _, rfl⟩⟩
    have I1 : Inv X pins σ (upd H s.heap.objs.size (.tup [x, y])) { s with heap := h'', toks := tk } :=
      I.turnedNew (ch := [z, TI, TO, i1, i2]) (fun c o hb q => (sb.2 c (fun e => hb (by simp [e]))).trans (hk c o (fun e => hb (by simp [e])) (fun e => hb (by simp [e])) (fun e => hb (by simp [e])) (fun e => hb (by simp [e])) q)) hf (Nat.le_refl _) new
    refine ⟨.ref s.heap.objs.size, _, I1, rfl, ⟨_, x, y, rfl, I.hok.fresh (Nat.le_refl _), rfl, fun l hl => by rw [I.list_inj hl hqx]; exact hx, fun l hl => by rw [I.tuple_inj hl hqy]; exact hy⟩, ⟨z'', ?_, ⟨y1, y2, ?_⟩, ?_, ?_⟩, fun c hcm => ?_⟩
    · exact (sb.2 _ D.TIz).trans (hk _ _ D.TIz D.TITO D.TIi1 D.TIi2 hTI)
    · exact (sb.2 _ D.TOz).trans TO'
    · exact st1.1.at fun o e => (sb.2 _ D.i1z).trans e
    · exact st2.1.at fun o e => (sb.2 _ D.i2z).trans e
    · have hlt : c < s.heap.objs.size := by
        simp only [List.mem_cons, List.mem_nil_iff, or_false] at hcm
        rcases hcm with rfl | rfl | rfl | rfl | rfl
        · exact hzl
        · exact Heap.lt_size hTI
        · exact Heap.lt_size hTO
        · obtain ⟨_, e1, _⟩ := h1; exact Heap.lt_size e1
        · obtain ⟨_, e2, _⟩ := h2; exact Heap.lt_size e2
      rw [upd_ne (Nat.ne_of_lt hlt)]
      exact (hf c hcm).1
  done := by
    intro X hP hw hK hc i pins s σ H E I hf st hg
    subst hP hw hK
    obtain ⟨hz, hTI, ⟨x0, y0, hTO⟩, h1, h2⟩ := st
    obtain ⟨xs, ys, hqx, hqy, hend⟩ := hg
    obtain ⟨its, rv, p, _⟩ := I.list hqx
    obtain ⟨its2, rv2, p2, _⟩ := I.tuple hqy
    have l1 : its.toArray.size = xs.length := by rw [List.size_toArray]; exact rv.length.symm
    have l2 : its2.toArray.size = ys.length := by rw [List.size_toArray]; exact rv2.length.symm
    have p2' : s.heap.IsTuple b its2.toArray := p2
    exact wpAny_pyNext_zipD2_end (sep_of D) (Draws.list (A := X.A.in1) (I.ok.hd hc) i1 a D.l1i1 its.toArray) (Draws.tuple (A := X.A.in1) (I.ok.hd hc) i2 b D.l2i2 its2.toArray) hz hTI hTO ⟨h1, p.isList⟩ ⟨h2, p2'⟩ (by omega) (by omega) (by omega) fun h' tk hk =>
      ⟨rfl, I.turnedL (t' := tk) (ch := [z, TI, TO, i1, i2]) (fun c o hb q => hk c o (fun e => hb (by simp [e])) (fun e => hb (by simp [e])) (fun e => hb (by simp [e])) (fun e => hb (by simp [e])) q) hf⟩
  self := fun A i s Q E st h => wpAny_pyIter_zip st.1 h

def iZipM (K : PySem.W.Frag) (ta : TA) : TI := fun σ H R => ta σ H fun vs H1 => ∃ a b xs ys, vs = [.ref a, .ref b] ∧ SqL K H1 a xs ∧ SqT K H1 b ys ∧ R (ItzM K a b) H1
theorem pi_zipM {X : Cx} {e e2 : Expr} {ta : TA} {p pos tpos : Pos} {elts : List Expr} {kk : Nat} (hg : Gl X "zip") (hm : X.mg "zip" = none) (ha : PA X [e, e2] ta)
    (hs : starEach [e, e2] X.env = (false, eval e X.env) :: starEach [e2] X.env) (hpl : (backTo pos (starEach [e2] X.env)).any (·.1) = false) :
    PI X (.Tuple elts kk tpos) (.Call (.Name "zip" p) [e, e2] [] pos) (iZipM X.K ta) := by
  refine ⟨fun pins s σ H R I h => ?_⟩
  refine Call_ (ld_blt I hg hm PyProof.Rows.boot_zip (PyProof.Rows.callWith_type1 (thn (ha.run pos pins s σ H _ I h) fun us s1 ⟨vs, H1, I1, r1, q1⟩ => ?_) hs hpl))
  obtain ⟨a, b, xs, ys, ex, hqx, hqy, q⟩ := q1
  subst ex
  cases r1 with
  | cons r rr =>
    cases rr with
    | cons r' rr =>
      cases rr
      cases r
      cases r'
      have fresh5 : ∀ c, c ∈ [s1.heap.objs.size + 4, s1.heap.objs.size + 2, s1.heap.objs.size + 3, s1.heap.objs.size, s1.heap.objs.size + 1] → FpOk X pins H1 c := fun c hcm => by
        have hle : s1.heap.objs.size ≤ c := by
          simp only [List.mem_cons, List.mem_nil_iff, or_false] at hcm
          rcases hcm with rfl | rfl | rfl | rfl | rfl <;> first | exact Nat.le_refl _ | exact Nat.le_add_right _ _
        exact I1.fpOk hle (I1.hok.fresh hle)
      obtain ⟨its, rv, p1, _⟩ := I1.list hqx
      obtain ⟨its2, rv2, p2, _⟩ := I1.tuple hqy
      have p2' : s1.heap.IsTuple b its2.toArray := p2
      obtain ⟨o2, ho2, _⟩ := id p2
      refine zip_begins2 (begins_list a its.toArray) (begins_tuple b its2.toArray) p1.isList p2' fun h' hz hTI hTO h1 h2 hsz hk => wpAny_pyIter_zip hz ?_
      have I2 : Inv X pins σ H1 { s1 with heap := h' } := I1.kept (t' := s1.toks) hk
      exact ⟨s1.heap.objs.size + 4, [s1.heap.objs.size + 4, s1.heap.objs.size + 2, s1.heap.objs.size + 3, s1.heap.objs.size, s1.heap.objs.size + 1], _, _, H1, rfl, I2, turn_zipM (PySem.W.ktu_apart s1.heap.objs.size a b p1.lt (Heap.lt_size ho2)), ⟨hz, hTI, ⟨_, _, hTO⟩, ⟨_, h1, rfl, rfl⟩, ⟨_, h2, rfl, rfl⟩⟩, fresh5, q⟩
theorem walk_zipM {K : PySem.W.Frag} {a b : Addr} {xs ys : List V} {n : Nat} (hn : n = min xs.length ys.length) : Walk (ItzM K a b) n (fun H => SqL K H a xs ∧ SqT K H b ys) (YPair (fun i => xs[i]?) (fun i => ys[i]?)) := by
  subst hn
  refine ⟨fun i _ hi q => ?_, fun _ q => ⟨xs, ys, q.1, q.2, rfl⟩, fun i H v H' _ q y => ?_⟩
  · have h1 : i < xs.length := by omega
    have h2 : i < ys.length := by omega
    exact ⟨xs, ys, xs[i], ys[i], q.1, q.2, by simp [h1], by simp [h2]⟩
  · obtain ⟨T, x, z, h1, h2, h3, h4, h5⟩ := y
    exact ⟨T, x, z, h1, h2, h3, h4 xs q.1, h5 ys q.2⟩

section
variable {X : Cx} {W : WX} {a b : Expr} {fa fb : Sg → Mem → Rs Vl} {elts : List Expr} {kk : Nat} {tpos p pos : Pos}
theorem okI_zip (hg : Gl X "zip") (hm : X.mg "zip" = none) (hp : Pln a) (hq : Pln b) (ha : OkE X W a fa) (hb : OkE X W b fb) : OkI X W (.Tuple elts kk tpos) (.Call (.Name "zip" p) [a, b] [] pos) (fun s M => (fa s M).bind fun v M1 => (fb s M1).bind fun w M2 => Rs.of M2 (zipW v w)) := by
  obtain ⟨⟨wi0, p0, s0⟩, c0⟩ := okI_zip0 (elts := elts) (kk := kk) (tpos := tpos) (p := p) (pos := pos) hg hm hp hq ha hb
  obtain ⟨t, pe, se⟩ := ha
  obtain ⟨t', pe', se'⟩ := hb
  have p1 : PI X (.Tuple elts kk tpos) (.Call (.Name "zip" p) [a, b] [] pos) (iZipM X.K (tCons t (tCons t' tNil))) := pi_zipM hg hm (pa_cons pe (pa_cons pe' pa_nil (star_of hq)) (star_of hp)) (star_of hp) (any_of ⟨hq, trivial⟩)
  refine ⟨⟨fun σ H R => wi0 σ H R ∨ iZipM X.K (tCons t (tCons t' tNil)) σ H R, ⟨fun pins s σ H R I h => h.elim (p0.run pins s σ H R I) (p1.run pins s σ H R I)⟩, fun io s H sg M R rs rm hpt => ?_⟩, fun g M w M' h => ?_⟩
  · by_cases mix : ∃ ds es M1 M2, fa sg M = .ok (.p (.list ds)) M1 ∧ fb sg M1 = .ok (.p (.tuple es)) M2
    · obtain ⟨ds, es, M1, M2, f1, f2⟩ := mix
      refine .inr ?_
      have hpt : Post X.K (fun io H J w => IW (isTp (.Tuple elts kk tpos)) X.K io H J w) io H ((fa sg M).bind fun v M1 => (fb sg M1).bind fun w M2 => Rs.of M2 (zipW v w)) R (fun cls d H' => W cls d s H') := hpt
      refine se io s H sg M _ rs rm (hpt.seq fun x M1' io1 H1 u1 e1 g1 rm1 r1 hp1 => ?_)
      rw [f1] at e1
      cases e1
      refine se' io1 s H1 sg M1 _ (rs.mono g1) rm1 (hp1.seq fun y M2' io2 H2 u2 e2 g2 rm2 r2 hp2 => ?_)
      rw [f2] at e2
      cases e2
      have r1 : DV io1 X.K H1 u1 (.list ds) := r1
      have r2 : DV io2 X.K H2 u2 (.tuple es) := r2
      have r1 := r1.mono g2
      have hp2 : Post X.K (fun io H J w => IW (isTp (.Tuple elts kk tpos)) X.K io H J w) io2 H2 (.ok ⟨zipD ds es, none⟩ M2) R (fun cls d H' => W cls d s H') := hp2
      cases r1 with
      | @lst q xs _ hx hn hs =>
        cases r2 with
        | @tup q' ys _ hx' hs' =>
          refine ⟨q, q', xs, ys, rfl, SqL.of hx, hx'.sq, hp2.done rm2 ?_⟩
          refine iw_pair (walk_zipM rfl) (by unfold zipD; rw [List.length_zipWith, hs.length, hs'.length]) (fun io' H' g => ⟨SqL.of (g.kp hx hn), (hx'.mono g).sq⟩) fun i d x y io3 H3 e g hx1 hy1 => ?_
          obtain ⟨d1, d2, e4, e5, rfl⟩ := zipD_get e
          obtain ⟨v, e6, r⟩ := hs.get e4
          obtain ⟨v', e7, r'⟩ := hs'.get e5
          rw [hx1] at e6
          rw [hy1] at e7
          cases e6
          cases e7
          exact ⟨_, _, rfl, r.mono g, r'.mono g⟩
    · refine .inl (s0 io s H sg M R rs rm ?_)
      have e : ((fa sg M).bind fun v M1 => (fb sg M1).bind fun w M2 => Rs.of M2 (zipW v w)) = ((fa sg M).bind fun v M1 => (fb sg M1).bind fun w M2 => Rs.of M2 (zipW0 v w)) := by
        cases f1 : fa sg M with
        | bad => rfl
        | exc c fs M1 => rfl
        | ok v M1 =>
          simp only [Rs.bind_ok]
          cases f2 : fb sg M1 with
          | bad => rfl
          | exc c fs M2 => rfl
          | ok w M2 =>
            simp only [Rs.bind_ok]
            congr 1
            unfold zipW
            split
            · rename_i ds es
              exact absurd ⟨ds, es, M1, M2, f1, f2⟩ mix
            · rfl
      have hpt : Post X.K (fun io H J w => IW (isTp (.Tuple elts kk tpos)) X.K io H J w) io H ((fa sg M).bind fun v M1 => (fb sg M1).bind fun w M2 => Rs.of M2 (zipW v w)) R (fun cls d H' => W cls d s H') := hpt
      rw [e] at hpt
      exact hpt
  · obtain ⟨v, M1, _, h⟩ := bind_ok_of h
    obtain ⟨v2, M2, _, h⟩ := bind_ok_of h
    cases e3 : zipW v v2 with
    | none => rw [e3] at h; cases h
    | some w' =>
      rw [e3] at h
      cases h
      unfold zipW zipW0 at e3
      split at e3
      · cases e3; rfl
      · split at e3 <;> cases e3 <;> rfl
end
end Eg

/-! Engine: dicts of the memory asked and written; sorted by len. By an AI agent. -/
namespace Eg
open PySem PySem.Spec PyProof.Rows L2
/-! ### keys that are tuples of ints -/
theorem items_int {P : Program} {w : World} : ∀ {ks : List Int} {us : List Value}, Vals (ks.map V.int) us → ItemsAre (PySem.intKind P w) ks us
  | [], _, r => by rw [List.map_nil] at r; cases r; exact .nil
  | k :: ks, _, r => by
    rw [List.map_cons] at r
    cases r with
    | cons h t =>
      obtain ⟨t', e⟩ := (show ∃ t, _ = Value.int k t from h)
      subst e
      exact .cons (by simp [PySem.intKind, Value.isInt]) (items_int t)
section
variable {X : Cx} {pins : List (Addr × Obj)} {σ : L2.St} {H : Hp} {s : Shared}
theorem key_at (I : Inv X pins σ H s) {b : Addr} {ks : List Int} (h : SqT X.K H b (ks.map V.int)) : IsTupleKey (PySem.intKind X.prog X.w) s.heap ks b := by
  obtain ⟨its, rv, ⟨o, ho, hc, n, hd⟩, hl⟩ := I.tuple h
  exact ⟨o, its.toArray, n, ho, hc, hd, by simpa using items_int rv⟩
def DKeys (K : PySem.W.Frag) (H : Hp) (xs : TEs) : Prop := ∀ x ∈ xs, SqT K H x.2.1 (x.1.map V.int)
abbrev RT (p : List Int × Addr × V) (q : List Int × Addr × Value) : Prop := p.1 = q.1 ∧ p.2.1 = q.2.1 ∧ RelV p.2.2 q.2.2
theorem dxo_at (I : Inv X pins σ H s) {a : Addr} {xs : TEs} (e : H a = some (.ext (DicO a xs))) (ks : DKeys X.K H xs) :
    ∃ ys, Paired RT xs ys ∧ s.heap.DictOfH (tupleKind (PySem.intKind X.prog X.w)) a ys := by
  obtain ⟨⟨ys, o, es, ep, rel, h1, h2, h3, h4, h5⟩, _⟩ := (show ObjOk X.prog X.w H s.heap a (.ext (DicO a xs)) from I.hok a _ e)
  refine ⟨ys, rel, o, es, ep, h1, h2, h3, h4, ?_, h5⟩
  have all : ∀ {l : TEs} {m : List (List Int × Addr × Value)}, Paired RT l m → DKeys X.K H l → ∀ x ∈ m, (tupleKind (PySem.intKind X.prog X.w)).is s.heap x.1 x.2.1 := by
    intro l m q
    induction q with
    | nil => intro _ x hx; exact nomatch hx
    | @cons p q ps qs hq t ih =>
      intro dk x hx
      rcases List.mem_cons.mp hx with e | hx
      · subst e
        have := dk p List.mem_cons_self
        rw [hq.1, hq.2.1] at this
        exact key_at I this
      · exact ih (fun y hy => dk y (List.mem_cons_of_mem _ hy)) x hx
  exact all rel ks
def atX (xs : TEs) (k : List Int) : Option V := (xs.find? fun q => decide (q.1 = k)).map (·.2.2)
def putX (xs : TEs) (k : List Int) (b : Addr) (v : V) : TEs := if (xs.any fun q => decide (q.1 = k)) = true then xs.map (fun q => if q.1 = k then (q.1, q.2.1, v) else q) else xs ++ [(k, b, v)]
theorem rel_get {k : List Int} {v : V} {xs : TEs} {ys : List (List Int × Addr × Value)} (r : Paired RT xs ys) (e : atX xs k = some v) : ∃ p, atKey ys k = some p ∧ RelV v p.2 := by
  induction r with
  | nil => cases e
  | @cons p q ps qs h t ih =>
    unfold atX at e
    unfold atKey
    rw [List.find?_cons] at e ⊢
    by_cases z : p.1 = k
    · rw [decide_eq_true z] at e
      rw [decide_eq_true (h.1.symm.trans z)]
      cases e
      exact ⟨_, rfl, h.2.2⟩
    · rw [decide_eq_false z] at e
      rw [decide_eq_false (fun y => z (h.1.trans y))]
      exact ih e
theorem rel_any {k : List Int} {xs : TEs} {ys : List (List Int × Addr × Value)} (r : Paired RT xs ys) : (xs.any fun q => decide (q.1 = k)) = (atKey ys k).isSome := by
  induction r with
  | nil => rfl
  | @cons p q ps qs h t ih =>
    unfold atKey at ih ⊢
    rw [List.any_cons, List.find?_cons, ih]
    by_cases z : p.1 = k
    · rw [decide_eq_true z, decide_eq_true (h.1.symm.trans z)]; rfl
    · rw [decide_eq_false z, decide_eq_false (fun y => z (h.1.trans y))]; rfl
theorem rel_put {k : List Int} {b : Addr} {v : V} {u : Value} (rv : RelV v u) {xs : TEs} {ys : List (List Int × Addr × Value)} (r : Paired RT xs ys) : Paired RT (putX xs k b v) (storedH ys k b u) := by
  unfold putX storedH
  rw [rel_any r]
  by_cases c : (atKey ys k).isSome = true
  · rw [if_pos c, if_pos c]
    clear c
    induction r with
    | nil => exact .nil
    | @cons p q ps qs h t ih =>
      rw [List.map_cons, List.map_cons]
      refine .cons ?_ ih
      unfold putAt
      by_cases z : p.1 = k
      · rw [if_pos z, if_pos (h.1.symm.trans z)]; exact ⟨h.1, h.2.1, rv⟩
      · rw [if_neg z, if_neg (fun y => z (h.1.trans y))]; exact h
  · rw [if_neg c, if_neg c]
    exact Paired.snoc r ⟨rfl, rfl, rv⟩
theorem putX_len (xs : TEs) (k : List Int) (b : Addr) (v : V) : (putX xs k b v).length ≤ xs.length + 1 := by
  unfold putX
  split
  · rw [List.length_map]; omega
  · rw [List.length_append, List.length_cons, List.length_nil]; omega
theorem ext_new {P : Program} {w : World} {H' : Hp} {h' : Heap} {a : Addr} {xs : TEs} {ys : List (List Int × Addr × Value)} (rel : Paired RT xs ys) (dd : h'.DictOfH (tupleKind (PySem.intKind P w)) a ys) : ObjOk P w H' h' a (.ext (DicO a xs)) := by
  obtain ⟨q, es, ep, hq, h2, h3, h4, _, h5⟩ := dd
  exact ⟨⟨ys, q, es, ep, rel, hq, h2, h3, h4, h5⟩, ⟨q, hq⟩, fun h1 h2 ⟨ys, o, es, ep, rel, k1, k2, k3, k4, k5⟩ keep => ⟨ys, o, es, ep, rel, keep o k1, k2, k3, k4, k5⟩⟩
theorem dx_typeIs {a : Addr} {xs : TEs} (I : Inv X pins σ H s) (e : H a = some (.ext (DicO a xs))) (ks : DKeys X.K H xs) : s.TypeIs (.ref a) "dict" := by
  obtain ⟨ys, _, dd⟩ := dxo_at I e ks
  exact dd.typeIs
/-- what stands at a key -/
def DAsk (K : PySem.W.Frag) (H : Hp) (a : Addr) (y v : V) : Prop := DGet H a y (some v) ∨ ∃ xs k b, y = .ref b ∧ H a = some (.ext (DicO a xs)) ∧ DKeys K H xs ∧ SqT K H b (k.map V.int) ∧ atX xs k = some v
def tDx (K : PySem.W.Frag) (td ty : TE) : TE := fun σ H Q => td σ H fun x H1 => ty σ H1 fun y H2 => ∃ a v, x = .ref a ∧ DAsk K H2 a y v ∧ Q v H2
theorem pe_dx {o i : Expr} {td ty : TE} {pos : Pos} (hu : X.A.units + 1 < cLine) (ho : PE X o td) (hi : PE X i ty) (hs : NoSl i) : PE X (.Subscript o i pos) (tDx X.K td ty) := by
  refine ⟨fun pins s σ H Q I h => ?_⟩
  refine subD_of PySem.F.slot_dict_getitem.lookup hs (thn (ho.run pins s σ H _ I h) fun u s1 ⟨x, H1, I1, rx, q1⟩ => thn (hi.run pins s1 σ H1 _ I1 q1) fun iv s2 ⟨y, H2, I2, ry, a, v, ex, g, q2⟩ => ?_)
  subst ex
  obtain rfl : u = Value.ref a := rx
  rcases g with g | ⟨xs, k, b, rfl, e, ks, kt, ea⟩
  · exact ⟨dict_typeIs I2 g, d_getItem hu I2 g ry fun w' s3 I3 rw' => ⟨v, H2, I3, rw', q2⟩⟩
  · obtain ⟨ys, rel, dd⟩ := dxo_at I2 e ks
    obtain ⟨p, hp, rp⟩ := rel_get rel ea
    cases (show iv = Value.ref b from ry)
    exact ⟨dd.typeIs, wpAny_getItem_heap (tupleKind_room_in1 hu) (key_at I2 kt) dd hp ⟨v, H2, I2.tok _, rp, q2⟩⟩
/-- d[k] = v -/
def rSetX (K : PySem.W.Frag) : TSet := fun o i v H Q => ∃ a, o = .ref a ∧ ((∃ H', DPut H a i v H' ∧ Q H') ∨ ∃ xs k b, i = .ref b ∧ H a = some (.ext (DicO a xs)) ∧ xs.length < sizeLine ∧ DKeys K H xs ∧ SqT K H b (k.map V.int) ∧ Q (upd H a (.ext (DicO a (putX xs k b v)))))
theorem set_dx (hu : X.A.units + 1 < cLine) : PSet X (rSetX X.K) := by
  intro pins s σ H o i v ov iv u Q I ro ri rv h
  obtain ⟨a, rfl, h⟩ := h
  cases (show ov = Value.ref a from ro)
  rcases h with ⟨H', g, q⟩ | ⟨xs, k, b, rfl, e, hl, ks, kt, q⟩
  · exact d_setItem hu I g ri rv fun s' I' => ⟨H', I', q⟩
  · cases (show iv = Value.ref b from ri)
    obtain ⟨ys, rel, dd⟩ := dxo_at I e ks
    have hz : ys.length ≤ sizeLine := by rw [← Paired.length rel]; omega
    refine wpAny_setItem_heap (hsz := hz) (tupleKind_room_in1 hu) (key_at I kt) dd fun h' dd' hs => ⟨_, ?_, q⟩
    have he : ∃ q, h'.get? a = some q := let ⟨q, _, _, hq, _⟩ := dd'; ⟨q, hq⟩
    exact d_write I (by rw [e]; exact True.intro) hs he (ext_new (rel_put rv rel) dd')
/-- {k: v}, k a tuple of ints -/
def tDispT (K : PySem.W.Frag) (tk tv : TE) : TE := fun σ H Q => ∀ p, H p = none → tPairs [(tk, tv)] σ (upd H p (.ext (DicO p []))) fun ps H2 => H2 p = some (.ext (DicO p [])) ∧ ∃ b k v, ps = [(.ref b, v)] ∧ SqT K H2 b (k.map V.int) ∧ Q (.ref p) (upd H2 p (.ext (DicO p [(k, b, v)])))
theorem pe_dispT {pos : Pos} {k v : Expr} {tk tv : TE} (hu : X.A.units + 1 < cLine) (hk : PE X k tk) (hv : PE X v tv) : PE X (.Dict [some k] [v] pos) (tDispT X.K tk tv) := by
  refine ⟨fun pins s σ H Q I q => ?_⟩
  have hn := I.hok.fresh (Nat.le_refl s.heap.objs.size)
  have hb : sysModules < s.heap.objs.size := I.big
  have I1 := I.laid (a := s.heap.objs.size) (o := .ext (DicO s.heap.objs.size [])) (h' := s.heap.push { cls := .type "dict", data := .dict #[] }) (t' := s.toks) (fun _ _ q => Heap.get?_push_of_some _ q) (Nat.le_refl _)
    (ext_new (ys := []) .nil (Heap.DictOfH.new s.heap))
  refine wpAny_Dict_any rfl rfl (by simp) (by simp) (thn ((pps_cons (pos := pos) hk hv pps_nil).run pins _ σ _ _ I1 (q _ hn)) fun ws s2 ⟨ps, H2, I2, rel, e, b, ks, vv, ep, kt, q2⟩ => ?_)
  subst ep
  cases rel with
  | @cons p w ps ws h1 h2 =>
    cases h2
    obtain ⟨w1, w2⟩ := w
    obtain ⟨r1, r2⟩ := h1
    cases (show w1 = Value.ref b from r1)
    obtain ⟨ys, rel, dd⟩ := dxo_at I2 e (fun x hx => nomatch hx)
    cases rel
    unfold PySem.storeAll
    rw [List.forIn_cons]
    refine wpAny_bind (wpAny_bind (wpAny_dictSet_heap (knd := tupleKind (PySem.intKind X.prog X.w)) (hsz := Nat.zero_le _) (show X.A.units < cLine by omega) (key_at I2 kt) dd fun h' dd' hs => wpAny_pure ?_))
    dsimp only
    rw [List.forIn_nil]
    refine wpAny_pure ⟨.ref s.heap.objs.size, _, ?_, rfl, q2⟩
    have he : ∃ q, h'.get? s.heap.objs.size = some q := let ⟨q, _, _, hq, _⟩ := dd'; ⟨q, hq⟩
    exact d_write I2 (by rw [e]; exact True.intro) hs he (ext_new (rel_put r2 .nil) dd')
/-! ### sorted(.., key=len) -/
def rSrk (K : PySem.W.Frag) : List V → Hp → VK → Prop := fun vs H Q => ∃ (a : Addr) (ps : List (V × List D)), vs = [.ref a] ∧ SqL K H a (ps.map (·.1)) ∧ (∀ p ∈ ps, ∃ b ys, p.1 = V.ref b ∧ SqT K H b ys ∧ ys.length = p.2.length) ∧
  ∀ q, H q = none → Q (.ref q) (upd H q (.lst ((ps.mergeSort fun a b => decide (a.2.length ≤ b.2.length)).map (·.1))))
def RK (h : Heap) (v : Value) (p : V × List D) : Prop := RelV p.1 v ∧ ∃ b its, v = .ref b ∧ IsTup h b its ∧ its.size = p.2.length ∧ p.2.length ≤ sizeLine
theorem rk_each (I : Inv X pins σ H s) : ∀ {its : List Value} {ps : List (V × List D)}, Vals (ps.map (·.1)) its → (∀ p ∈ ps, ∃ b ys, p.1 = V.ref b ∧ SqT X.K H b ys ∧ ys.length = p.2.length) → PySem.W.EachIs (RK s.heap) its ps
  | _, [], r, _ => by rw [List.map_nil] at r; cases r; exact .nil
  | _, p :: ps, r, h => by
    rw [List.map_cons] at r
    cases r with
    | cons r t =>
      refine .cons ⟨r, ?_⟩ (rk_each I t fun q hq => h q (List.mem_cons_of_mem _ hq))
      obtain ⟨b, ys, e, hs, hl⟩ := h p List.mem_cons_self
      rw [e] at r
      obtain ⟨its, rv, it, hz⟩ := I.tuple hs
      exact ⟨b, its.toArray, r, it, by rw [List.size_toArray, ← rv.length]; exact hl, by omega⟩
theorem sort_lens (ps : List (V × List D)) : ps.mergeSort (PySem.W.dataLe false fun p => .int p.2.length) = ps.mergeSort fun a b => decide (a.2.length ≤ b.2.length) := by
  congr 1
  funext a b
  rw [PySem.W.dataLe_int]
  simp
theorem vals_fst {h : Heap} : ∀ {out : List Value} {ps : List (V × List D)}, PySem.W.EachIs (RK h) out ps → Vals (ps.map (·.1)) out
  | _, _, .nil => .nil
  | _, _, .cons r t => .cons r.1 (vals_fst t)
theorem pe_srk {a : Expr} {t : TE} {p q kp pos : Pos} (hu : X.A.units + 65 < cLine) (hg : Gl X "sorted") (hm : X.mg "sorted" = none) (hg2 : Gl X "len") (hm2 : X.mg "len" = none) (hpa : Pln a) (ha : PE X a t) :
    PE X (.Call (.Name "sorted" p) [a] [⟨some "key", .Name "len" q, kp⟩] pos) (tCB (rSrk X.K) (tCons t tNil)) := by
  refine ⟨fun pins s σ H Q I h => ?_⟩
  refine wpAny_Call_Name_kw (ld_blt I hg hm (u := .builtin "sorted") (by decide +kernel) ?_ (by decide) (by decide))
  refine PyProof.Rows.callWith_kw (thn ((pa_cons ha pa_nil (star_of hpa)).run pos pins s σ H _ I h) fun us s1 ⟨vs, H1, I1, r1, q1⟩ => ?_) (by unfold backTo; rw [star_of hpa]; rfl) (any_of ⟨hpa, trivial⟩) rfl rfl
  show wpAny _ _ (evalAll [(do let v ← eval (.Name "len" q) X.env; standAt pos; pure v)]) _ _ s1
  refine wpAny_evalAll_cons (wpAny_bind (ld_blt I1 hg2 hm2 (u := .builtin "len") (by decide +kernel) ?_ (by decide) (by decide)))
  refine wpAny_bind (wpAny_standAt (wpAny_pure ?_))
  refine wpAny_evalAll_nil ?_
  show wpAny (model X.prog X.w) X.A (call (.builtin "sorted") us [(Str.ofString "key", .builtin "len")]) (EP X pins σ Q) X.xe s1
  obtain ⟨l, ps, rfl, hs, hb, q2⟩ := q1
  obtain ⟨its, rv, pl, hl⟩ := I1.list hs
  rw [Vals.ref1 r1]
  have hlp : ps.length ≤ sizeLine := by rw [List.length_map] at hl; exact hl
  have e0 := rk_each I1 rv hb
  refine PySem.W.sorted_key_data (b := false) (bs := ps) (R := RK s1.heap) (fun p => .int p.2.length) pl.isList e0 (PySem.W.AllAlike.of fun _ _ => by simp [PySem.W.alike]) (PySem.W.Sortable.others fun _ => ⟨by simp, fun xs => by simp⟩) hlp (fun p _ => ?_)
    (ksk_s1 _ _) (fun _ => ksk_l1 _ _) (fun _ => ksk_t4 "len" _) (fun v p hp _ h tk kp => ?_) fun out c h' tk kp _ hD hlen eo => ?_
  · show X.A.units + 2 + PyData.depth (.int _) < cLine
    simp only [PyData.depth]
    omega
  · obtain ⟨_, b, its, rfl, it, hz, hsz⟩ := hp
    have it' : IsTup h b its := by
      obtain ⟨o, ho, hc⟩ := it
      exact ⟨o, kp _ _ ho, hc⟩
    refine len_tuple it' (by have := line63; rw [hz]; omega) ⟨_, _, rfl, fun b o e => e, ?_⟩
    rw [hz]
    exact .int _ _
  · rw [sort_lens] at eo
    have hlen2 : ((ps.mergeSort fun a b => decide (a.2.length ≤ b.2.length)).map (·.1)).length ≤ sizeLine := by rw [List.length_map, List.length_mergeSort]; exact hlp
    exact ⟨.ref _, upd H1 (s1.heap.objs.size + 1) (.lst ((ps.mergeSort fun a b => decide (a.2.length ≤ b.2.length)).map (·.1))), I1.laid (t' := tk) (fun b u e => kp b u e) (Nat.le_succ _) ⟨hlen2, out, c, vals_fst eo, hD⟩, rfl, q2 _ (I1.hok.fresh (Nat.le_succ _))⟩
end
/-! ### the engine's rules -/
section
variable {io io' : Io} {K : PySem.W.Frag} {H H' : Hp}
theorem DTs.keys : ∀ {xs : TEs} {ds : List (List Int × D)}, DTs io K H xs ds → DKeys K H xs
  | _, _, .nil => fun x hx => nomatch hx
  | _, _, .cons t h hs => fun x hx => by
    rcases List.mem_cons.mp hx with e | hx
    · rw [e]; exact t.sq
    · exact hs.keys x hx
theorem DTs.get {k : List Int} {d : D} : ∀ {xs : TEs} {ds : List (List Int × D)}, DTs io K H xs ds → getT ds k = some d → ∃ v, atX xs k = some v ∧ DV io K H v d
  | _, _, .nil, e => by cases e
  | _, _, .cons (k := j) (v := v) t h hs, e => by
    unfold getT at e
    unfold atX
    rw [List.find?_cons] at e ⊢
    by_cases z : j = k
    · rw [decide_eq_true z] at e ⊢
      cases e
      exact ⟨v, rfl, h⟩
    · rw [decide_eq_false z] at e ⊢
      exact hs.get e
theorem DTs.any {k : List Int} : ∀ {xs : TEs} {ds : List (List Int × D)}, DTs io K H xs ds → (xs.any fun q => decide (q.1 = k)) = (ds.any fun q => decide (q.1 = k))
  | _, _, .nil => rfl
  | _, _, .cons t h hs => by rw [List.any_cons, List.any_cons, hs.any]
theorem DTs.app : ∀ {a b : TEs} {c d : List (List Int × D)}, DTs io K H a c → DTs io K H b d → DTs io K H (a ++ b) (c ++ d)
  | _, _, _, _, .nil, k => k
  | _, _, _, _, .cons t h hs, k => .cons t h (hs.app k)
theorem DTs.put {k : List Int} {b : Addr} {v : V} {d : D} (t : TQ io K H b (k.map V.int)) (hv : DV io K H v d) {xs : TEs} {ds : List (List Int × D)} (h : DTs io K H xs ds) : DTs io K H (putX xs k b v) (putT ds k d) := by
  unfold putX putT
  rw [h.any]
  by_cases c : (ds.any fun q => decide (q.1 = k)) = true
  · rw [if_pos c, if_pos c]
    clear c
    have go : ∀ {xs : TEs} {ds : List (List Int × D)}, DTs io K H xs ds → DTs io K H (xs.map fun q => if q.1 = k then (q.1, q.2.1, v) else q) (ds.map fun q => if q.1 = k then (q.1, d) else q) := by
      intro xs ds h
      induction h with
      | nil => exact .nil
      | @cons j b' w e xs ds t' hw hs ih =>
        rw [List.map_cons, List.map_cons]
        by_cases z : j = k
        · rw [if_pos z, if_pos z]
          exact .cons t' hv ih
        · rw [if_neg z, if_neg z]
          exact .cons t' hw ih
    exact go h
  · rw [if_neg c, if_neg c]
    exact h.app (.cons t hv .nil)
theorem DTs.over {p : Addr} {o : HO} {xs : TEs} {ds : List (List Int × D)} (hp : p ∈ io.no) (h : DTs io K H xs ds) : DTs io K (L2.upd H p o) xs ds :=
  h.stay fun a u n e => by rw [upd_ne (fun z => by subst z; exact n hp)]; exact e
theorem TQ.over {p a : Addr} {o : HO} {xs : List V} (hp : p ∈ io.no) (h : TQ io K H a xs) : TQ io K (L2.upd H p o) a xs :=
  h.elim (fun ⟨⟨q, h, k⟩, n⟩ => .inl ⟨⟨q, by rw [upd_ne (fun z => by subst z; exact n hp)]; exact h, k⟩, n⟩) .inr
theorem DKs.get {k : Key} : ∀ {kvs : List (Key × V)} {ds : List (D × D)}, DKs io K H kvs ds → FV io K H (valV kvs k) (getK ds (keyD k))
  | _, _, .nil => trivial
  | _, _, .cons (k := j) (v := v) (d := d) h hs => by
    unfold getK valV
    rw [List.find?_cons, List.find?_cons]
    by_cases z : j = k
    · rw [decide_eq_true z, decide_eq_true (show keyD j = keyD k by rw [z])]
      exact h
    · rw [decide_eq_false z, decide_eq_false (fun e => z (keyD_inj2 e))]
      exact hs.get
/-- a tuple of ints, by its data -/
theorem dv_key {u : V} {ks : List D} {ns : List Int} (r : DV io K H u (.tuple ks)) (e : intsOf ks = some ns) : ∃ b, u = .ref b ∧ TQ io K H b (ns.map V.int) := by
  cases r with
  | tup t hs => exact ⟨_, rfl, by rw [← hs.ints e]; exact t⟩
end
section
variable {X : Cx} {W : WX} {a o k v : Expr} {pos p : Pos} {fa fo fk fv fd : Sg → Mem → Rs Vl}
theorem okE_dx (hu : X.A.units + 1 < cLine) (ho : OkE X W o fo) (hk : OkE X W k fk) (hs : PlainIx k) :
    OkE X W (.Subscript o k pos) (fun g M => (fo g M).bind fun x M1 => (fk g M1).bind fun y M2 => Rs.of M2 (dxOf M2 x y)) := by
  obtain ⟨to, po, so⟩ := ho
  obtain ⟨tk, pk, sk⟩ := hk
  refine ⟨_, pe_dx hu po pk hs, fun io s H sg M Q rs rm hq => ?_⟩
  refine so io s H sg M _ rs rm (hq.seq fun x M1 io1 H1 u1 e1 g1 rm1 r1 hq1 => ?_)
  refine sk io1 s H1 sg M1 _ (rs.mono g1) rm1 (hq1.seq fun y M2 io2 H2 u2 e2 g2 rm2 r2 hq2 => ?_)
  cases e4 : dxOf M2 x y with
  | none => rw [e4] at hq2; exact hq2.elim
  | some w =>
    rw [e4] at hq2
    unfold dxOf at e4
    cases x with
    | r i =>
      obtain ⟨q, rfl, hq0⟩ := r1
      have hq3 := prefix_get g2.pre hq0
      dsimp only at e4
      cases e5 : M2[i]? with
      | none => rw [e5] at e4; cases e4
      | some mo =>
        rw [e5] at e4
        cases mo with
        | dic kvs =>
          obtain ⟨dy, e6, e7⟩ := Option.bind_eq_some_iff.mp e4
          by_cases hkey : isKeyD dy = true
          · rw [if_pos hkey] at e7
            obtain ⟨dw, e8, rfl⟩ := Option.map_eq_some_iff.mp e7
            cases y with
            | p d =>
              cases e6
              obtain ⟨kk, rfl, rfl⟩ := keyD_of (show DV io2 X.K H2 u2 dy from r2) hkey
              obtain ⟨kv, hk, hs⟩ := (show ∃ kv, H2 q = some (.dK kv) ∧ DKs io2 X.K H2 kv kvs from rm2.at_ i q _ hq3 e5)
              have hf := hs.get (k := kk)
              rw [e8] at hf
              cases ev : valV kv kk with
              | none => rw [ev] at hf; exact hf.elim
              | some v =>
                rw [ev] at hf
                exact ⟨q, v, rfl, .inl (by rw [← ev]; exact DGet.k hk), hq2.done rm2 hf⟩
            | _ => cases e6
          · rw [if_neg hkey] at e7
            cases e7
        | dit kvs =>
          dsimp only at e4
          split at e4
          · obtain ⟨ns, e6, e7⟩ := Option.bind_eq_some_iff.mp e4
            obtain ⟨dw, e8, rfl⟩ := Option.map_eq_some_iff.mp e7
            obtain ⟨b, rfl, t⟩ := dv_key r2 e6
            obtain ⟨xs, hx, _, hs⟩ := (show ∃ xs, H2 q = some (.ext (DicO q xs)) ∧ xs.length ≤ sizeLine ∧ DTs io2 X.K H2 xs kvs from rm2.at_ i q _ hq3 e5)
            obtain ⟨v, ev, rv⟩ := hs.get e8
            exact ⟨q, v, rfl, .inr ⟨xs, ns, b, rfl, hx, hs.keys, t.sq, ev⟩, hq2.done rm2 rv⟩
          · cases e4
        | lst _ => cases e4
        | ins _ _ => cases e4
    | p d => cases e4
    | s ds => cases e4
theorem okE_dg {apos cpos : Pos} (hu : X.A.units + 1 < cLine) (ho : OkE X W o fo) (hk : OkE X W k fk) (hd : OkE X W v fd) (pk : Pln k) (pd : Pln v) (hn : NoK o) (hline : (apos.endLine == cpos.line) = true) :
    OkE X W (.Call (.Attribute o "get" apos) [k, v] [] cpos) (fun g M => (fo g M).bind fun x M1 => if isDk M1 x then (fk g M1).bind fun y M2 => (fd g M2).bind fun z M3 => Rs.of M3 (dgOf M3 x y z) else .bad) := by
  obtain ⟨to, po, so⟩ := ho
  obtain ⟨tk, pk', sk⟩ := hk
  obtain ⟨td, pd', sd⟩ := hd
  refine ⟨_, pe_dget2 hu po pk' pd' ⟨base_of hn, few_of ⟨pk, pd, trivial⟩ (by simp), hline, by
    unfold backTo
    rw [star_of pk, star_of pd]
    rfl⟩, fun io s H sg M Q rs rm hq => ?_⟩
  refine so io s H sg M _ rs rm (hq.seq fun x M1 io1 H1 u1 e1 g1 rm1 r1 hq1 => ?_)
  by_cases hD : isDk M1 x = true
  case neg => rw [if_neg hD] at hq1; exact hq1.elim
  rw [if_pos hD] at hq1
  cases x with
  | p d => cases hD
  | s ds => cases hD
  | r i =>
    obtain ⟨q, rfl, hq0⟩ := r1
    have d1 : ∃ kv, H1 q = some (.dK kv) := by
      unfold isDk at hD
      dsimp only at hD
      cases e5 : M1[i]? with
      | none => rw [e5] at hD; cases hD
      | some mo =>
        rw [e5] at hD
        cases mo with
        | dic kvs =>
          obtain ⟨kv, hk, _⟩ := (show ∃ kv, H1 q = some (.dK kv) ∧ DKs io1 X.K H1 kv kvs from rm1.at_ i q _ hq0 e5)
          exact ⟨kv, hk⟩
        | _ => cases hD
    obtain ⟨kv1, hk1⟩ := d1
    refine ⟨q, rfl, .inl ⟨kv1, .inl hk1⟩, ?_⟩
    refine sk io1 s H1 sg M1 _ (rs.mono g1) rm1 (hq1.seq fun y M2 io2 H2 u2 e2 g2 rm2 r2 hq2 => ?_)
    refine sd io2 s H2 sg M2 _ ((rs.mono g1).mono g2) rm2 (hq2.seq fun z M3 io3 H3 u3 e3 g3 rm3 r3 hq3 => ?_)
    have r2 := r2.mono g3
    have hqi := prefix_get g3.pre (prefix_get g2.pre hq0)
    cases e4 : dgOf M3 (.r i) y z with
    | none => rw [e4] at hq3; exact hq3.elim
    | some w =>
      rw [e4] at hq3
      unfold dgOf at e4
      dsimp only at e4
      cases e5 : M3[i]? with
      | none => rw [e5] at e4; cases e4
      | some mo =>
        rw [e5] at e4
        cases mo with
        | dic kvs =>
          obtain ⟨dy, e5', e6⟩ := Option.bind_eq_some_iff.mp e4
          obtain ⟨dz, e7, e8⟩ := Option.bind_eq_some_iff.mp e6
          obtain ⟨hkey, rfl⟩ := ite_some e8
          obtain ⟨kv, hk, hs⟩ := (show ∃ kv, H3 q = some (.dK kv) ∧ DKs io3 X.K H3 kv kvs from rm3.at_ i q _ hqi e5)
          cases y with
          | p d =>
            cases e5'
            cases z with
            | p d' =>
              cases e7
              have r2 : DV io3 X.K H3 u2 dy := r2
              have r3 : DV io3 X.K H3 u3 dz := r3
              obtain ⟨k, rfl, rfl⟩ := keyD_of r2 hkey
              refine ⟨_, DGet.k hk, hq3.done rm3 ?_⟩
              have hf := hs.get (k := k)
              show DV io3 X.K H3 _ _
              cases ev : valV kv k with
              | none =>
                cases ed : getK kvs (keyD k) with
                | none => exact r3
                | some d => rw [ev, ed] at hf; exact hf.elim
              | some v =>
                cases ed : getK kvs (keyD k) with
                | none => rw [ev, ed] at hf; exact hf.elim
                | some d => rw [ev, ed] at hf; exact hf
            | _ => cases e7
          | _ => cases e5'
        | _ => cases e4
theorem lens_rel {io : Io} {H : Hp} : ∀ {xs : List V} {ds : List D} {rows : List (List D)}, DVs io X.K H xs ds → lensD ds = some rows → ds = rows.map .tuple ∧ (∀ q ∈ xs.zip rows, ∃ b ys, q.1 = V.ref b ∧ SqT X.K H b ys ∧ ys.length = q.2.length) ∧ ∀ q ∈ xs.zip rows, DV io X.K H q.1 (.tuple q.2)
  | _, _, _, .nil, e => by cases e; exact ⟨rfl, fun q hq => by simp at hq, fun q hq => by simp at hq⟩
  | _, d :: ds, rows, .cons h hs, e => by
    cases d with
    | tuple es =>
      simp only [lensD] at e
      obtain ⟨rs, e1, rfl⟩ := Option.map_eq_some_iff.mp e
      obtain ⟨i1, i2, i3⟩ := lens_rel hs e1
      refine ⟨by rw [List.map_cons, i1], fun q hq => ?_, fun q hq => ?_⟩
      · rw [List.zip_cons_cons] at hq
        rcases List.mem_cons.mp hq with rfl | hq
        · cases h with
          | tup t hes => exact ⟨_, _, rfl, t.sq, hes.length⟩
        · exact i2 q hq
      · rw [List.zip_cons_cons] at hq
        rcases List.mem_cons.mp hq with rfl | hq
        · exact h
        · exact i3 q hq
    | _ => cases e
theorem okE_srk {q kp : Pos} (hu : X.A.units + 65 < cLine) (hg : Gl X "sorted") (hm : X.mg "sorted" = none) (hg2 : Gl X "len") (hm2 : X.mg "len" = none) (hpa : Pln a) (ha : OkE X W a fa) :
    OkE X W (.Call (.Name "sorted" p) [a] [⟨some "key", .Name "len" q, kp⟩] pos) (fun s M => (fa s M).bind fun x M1 => Rs.of M1 ((srkOf M1 x).map .p)) := by
  obtain ⟨t, pe, se⟩ := ha
  refine ⟨_, pe_srk hu hg hm hg2 hm2 hpa pe, fun io s H sg M Q rs rm hq => ?_⟩
  refine se io s H sg M _ rs rm (hq.seq fun x M1 io1 H1 u1 e1 g1 rm1 r1 hq1 => ?_)
  cases e4 : srkOf M1 x with
  | none => rw [e4] at hq1; exact hq1.elim
  | some w =>
    rw [e4] at hq1
    unfold srkOf at e4
    obtain ⟨d, e5, e6⟩ := Option.bind_eq_some_iff.mp e4
    have rd := r1.db rm1 e5
    cases rd with
    | @lst b xs ds hx hs =>
      obtain ⟨rows, e7, rfl⟩ := Option.map_eq_some_iff.mp e6
      obtain ⟨i1, i2, i3⟩ := lens_rel hs e7
      have hl : xs.length = rows.length := by rw [hs.length, i1, List.length_map]
      have l1 : (xs.zip rows).map (·.1) = xs := List.map_fst_zip (by omega)
      have l2 : (xs.zip rows).map (·.2) = rows := List.map_snd_zip (by omega)
      refine ⟨b, xs.zip rows, rfl, by rw [l1]; exact SqL.of hx, i2, fun p hp => ?_⟩
      have em : ((xs.zip rows).mergeSort fun a b => decide (a.2.length ≤ b.2.length)).map (fun q => PyData.tuple q.2) = (rows.mergeSort fun a b => decide (a.length ≤ b.length)).map .tuple := by
        have := List.map_mergeSort (f := (·.2)) (r := fun (a b : V × List D) => decide (a.2.length ≤ b.2.length)) (s := fun a b => decide (a.length ≤ b.length)) (l := xs.zip rows) (fun a _ b _ => rfl)
        rw [l2] at this
        rw [← this, List.map_map]
        rfl
      have hv : DVs io1 X.K H1 (((xs.zip rows).mergeSort fun a b => decide (a.2.length ≤ b.2.length)).map (·.1)) ((rows.mergeSort fun a b => decide (a.length ≤ b.length)).map .tuple) := by
        rw [← em]
        have go : ∀ {l : List (V × List D)}, (∀ q ∈ l, DV io1 X.K H1 q.1 (.tuple q.2)) → DVs io1 X.K H1 (l.map (·.1)) (l.map fun q => PyData.tuple q.2) := by
          intro l
          induction l with
          | nil => exact fun _ => .nil
          | cons q l ih => exact fun h => .cons (h q List.mem_cons_self) (ih fun y hy => h y (List.mem_cons_of_mem _ hy))
        exact go fun q hq => i3 q ((List.mergeSort_perm _ _).mem_iff.mp hq)
      exact res_lst hq1 rm1 hv hp
    | _ => cases e6
theorem okE_cnt {apos : Pos} (ho : OkE X W o fo) (hv : OkE X W v fv) (hpv : Pln v) (hn : NoK o) (hline : (apos.endLine == p.line) = true) :
    OkE X W (.Call (.Attribute o "count" apos) [v] [] p) (fun g M => (fo g M).bind fun x M1 => if isLl M1 x then (fv g M1).bind fun y M2 => Rs.of M2 (cntOf M2 x y) else .bad) := by
  obtain ⟨to, po, so⟩ := ho
  obtain ⟨tv, pv, sv⟩ := hv
  refine ⟨_, pe_bm F.plainAttrs_list F.slot_list_count F.type_list_count mt_lcount po (pa_cons pv pa_nil (star_of hpv)) (base_of hn) (few_of ⟨hpv, trivial⟩ (by simp)) hline (star_of hpv) rfl, fun io s H sg M Q rs rm hq => ?_⟩
  refine so io s H sg M _ rs rm (hq.seq fun x M1 io1 H1 u1 e1 g1 rm1 r1 hq1 => ?_)
  by_cases hD : isLl M1 x = true
  case neg => rw [if_neg hD] at hq1; exact hq1.elim
  rw [if_pos hD] at hq1
  have ty : tyV X.K "list" u1 H1 := by
    unfold isLl at hD
    cases e5 : look M1 x with
    | none => rw [e5] at hD; cases hD
    | some d =>
      rw [e5] at hD
      cases d with
      | list ds =>
        have rd := r1.db rm1 e5
        cases rd with
        | lst hx hs => exact .inl ⟨rfl, _, SqL.of hx⟩
      | _ => cases hD
  refine ⟨ty, sv io1 s H1 sg M1 _ (rs.mono g1) rm1 (hq1.seq fun y M2 io2 H2 u2 e2 g2 rm2 r2 hq2 => ?_)⟩
  cases e4 : cntOf M2 x y with
  | none => rw [e4] at hq2; exact hq2.elim
  | some w =>
    rw [e4] at hq2
    unfold cntOf at e4
    obtain ⟨d, e5, e6⟩ := Option.bind_eq_some_iff.mp e4
    have rd := (r1.mono g2).db rm2 e5
    split at e6
    · obtain ⟨ns, e7, rfl⟩ := Option.map_eq_some_iff.mp e6
      cases rd with
      | lst hx hs =>
        cases r2 with
        | int _ => exact ⟨_, ns, _, rfl, rfl, by rw [← hs.ints e7]; exact SqL.of hx, res_p hq2 rm2 (.int _)⟩
    · cases e6
theorem okS_putd {tp : Pos} (hu : X.A.units + 1 < cLine) (hv : OkE X W v fv) (ho : OkE X W o fo) (hi : OkE X W a fa) (hsub : ∀ u, assign (.Subscript o a tp) X.env u = (do
      let ov ← holding [u] (eval o X.env)
      let iv ← holding [u, ov] (eval a X.env)
      standAt tp
      holding [u, ov, iv] (setItem ov iv u)
      release [u, ov, iv] [])) (hw : swappedStores [.Subscript o a tp] v X.env = pure none) :
    OkS X W (.Assign [.Subscript o a tp] v pos) (fun g M => lift (fv g M) g fun v M1 => lift (fo g M1) g fun x M2 => lift (fa g M2) g fun y M3 => (putdOf x y v M3).map fun M4 => (.nx g, M4)) := by
  obtain ⟨tv, pv, sv⟩ := hv
  obtain ⟨to, po, so⟩ := ho
  obtain ⟨ta, pa, sa⟩ := hi
  refine ⟨_, ps_asg pv (pg_sub po pa (set_dx hu) hsub) (by unfold swapsWithSole; exact sw_sub) hw rfl, fun io s H g M Dn rs rm h => sv io s H g M _ rs rm (SPost.lift rs h fun v M1 io1 H1 u e1 g1 rm1 r1 h1 => ?_)⟩
  refine so io1 s H1 g M1 _ (rs.mono g1) rm1 (SPost.lift (rs.mono g1) h1 fun x M2 io2 H2 u2 e2 g2 rm2 r2 h2 => ?_)
  refine sa io2 s H2 g M2 _ ((rs.mono g1).mono g2) rm2 (SPost.lift ((rs.mono g1).mono g2) h2 fun y M3 io3 H3 u3 e3 g3 rm3 r3 h3 => ?_)
  cases e4 : putdOf x y v M3 with
  | none => rw [e4] at h3; exact h3.elim
  | some M4 =>
    rw [e4] at h3
    unfold putdOf at e4
    cases x with
    | p _ => cases e4
    | s _ => cases e4
    | r i =>
      cases v with
      | r _ => cases e4
      | s _ => cases e4
      | p d =>
        dsimp only at e4
        obtain ⟨q, rfl, hq⟩ := r2
        have hq3 := prefix_get g3.pre hq
        have hv3 : DV io3 X.K H3 u d := DV.mono g3 (DV.mono g2 r1)
        have rs3 := ((rs.mono g1).mono g2).mono g3
        cases e5 : M3[i]? with
        | none => rw [e5] at e4; cases e4
        | some mo =>
          rw [e5] at e4
          cases mo with
          | dic kvs =>
            obtain ⟨dy, e6, e7⟩ := Option.bind_eq_some_iff.mp e4
            obtain ⟨hc, rfl⟩ := ite_some e7
            obtain ⟨hkey, hl⟩ := Bool.and_eq_true_iff.mp hc
            cases y with
            | p d' =>
              cases e6
              obtain ⟨kk, rfl, rfl⟩ := keyD_of (show DV io3 X.K H3 u3 dy from r3) hkey
              obtain ⟨kv, hk, hs⟩ := (show ∃ kv, H3 q = some (.dK kv) ∧ DKs io3 X.K H3 kv kvs from rm3.at_ i q _ hq3 e5)
              have hz : kv.length < sizeLine := by rw [hs.length, ← line_eq]; exact of_decide_eq_true hl
              have gw : Gr io3 H3 io3 (upd H3 q (.dK (putK kv kk u))) := Gr.write (List.mem_of_getElem? hq3)
              exact ⟨q, rfl, .inl ⟨_, DPut.k hk hz, h3 io3 s _ gw (rm3.writeO hq3 ⟨_, upd_same, (hs.put hv3).mono gw⟩) (rs3.mono gw)⟩⟩
            | r _ => cases e6
            | s _ => cases e6
          | dit kvs =>
            dsimp only at e4
            split at e4
            · obtain ⟨ns, e6, e7⟩ := Option.bind_eq_some_iff.mp e4
              obtain ⟨hl, rfl⟩ := ite_some e7
              obtain ⟨b, rfl, t⟩ := dv_key r3 e6
              obtain ⟨xs, hx, hle, hs⟩ := (show ∃ xs, H3 q = some (.ext (DicO q xs)) ∧ xs.length ≤ sizeLine ∧ DTs io3 X.K H3 xs kvs from rm3.at_ i q _ hq3 e5)
              have hz : xs.length < sizeLine := by rw [hs.length, ← line_eq]; exact hl
              have gw : Gr io3 H3 io3 (upd H3 q (.ext (DicO q (putX xs ns b u)))) := Gr.write (List.mem_of_getElem? hq3)
              exact ⟨q, rfl, .inr ⟨xs, ns, b, rfl, hx, hz, hs.keys, t.sq, h3 io3 s _ gw (rm3.writeO hq3 ⟨_, upd_same, by have := putX_len xs ns b u; omega, (hs.put t hv3).mono gw⟩) (rs3.mono gw)⟩⟩
            · cases e4
          | lst _ => cases e4
          | ins _ _ => cases e4
end
end Eg

/-! Engine: new dicts of the memory; the length of a dict comprehension. By an AI agent. -/
namespace Eg
open PySem PySem.Spec PyProof.Rows L2
section
variable {X : Cx} {W : WX} {k v : Expr} {pos : Pos} {fk fv : Sg → Mem → Rs Vl}
theorem guard_in {io io1 : Io} {H H1 : Hp} {p : Addr} {o : HO} {K : PySem.W.Frag} {M : Mem} (rm : RM io K H M) (hp : H p = none) (g : Gr (io.guard p) (upd H p o) io1 H1) : p ∈ io1.no ∧ p ∉ io1.ids ∧ H1 p = some o := by
  have hpo : p ∉ io.no := rm.fresh hp
  have hi : p ∉ (io.guard p).ids := fun z => hpo (io.sub _ z)
  exact ⟨g.mor _ List.mem_cons_self, g.outi upd_same hi, g.keep _ _ upd_same hi⟩
theorem gr_unguard {io io1 : Io} {H H1 : Hp} {p : Addr} {o : HO} (hp : H p = none) (g : Gr (io.guard p) (upd H p o) io1 H1) : Gr io H io1 H1 := (Gr.guard hp).trans g
theorem okS_newt {i : Nat} {x : Str} {pos' dp : Pos} (hu : X.A.units + 1 < cLine) (hN : X.N.Nodup) (ht : TnOk X i x) (hk : OkE X W k fk) (hv : OkE X W v fv) :
    OkS X W (.Assign [.Name x pos'] (.Dict [some k] [v] dp) pos) (fun g M => lift (fk g M) g fun x M1 => lift (fv g M1) g fun y M2 => (newtOf x y).map fun o => (.nx (g.set i (some (.r M2.length))), M2 ++ [o])) := by
  obtain ⟨tk, pk, sk⟩ := hk
  obtain ⟨tv, pv, sv⟩ := hv
  obtain ⟨h1, h2, h3⟩ := ht
  refine ⟨_, ps_set hN h1 h2 (pe_dispT hu pk pv) (sw_none trivial) h3, fun io s H g M Dn rs rm h => ?_⟩
  intro p hp
  have h : SPost X.K io H (lift (fk g M) g fun x M1 => lift (fv g M1) g fun y M2 => (newtOf x y).map fun o => (.nx (g.set i (some (.r M2.length))), M2 ++ [o])) Dn W := h
  have gg : Gr io H (io.guard p) (upd H p (.ext (DicO p []))) := Gr.guard hp
  refine sk (io.guard p) s _ g M _ (rs.mono gg) (rm.guard hp) (SPost.lift (rs.mono gg) (SPost.shift gg h) fun vx M1 io1 H1 u1 e1 g1 rm1 r1 q1 => ?_)
  refine sv io1 s H1 g M1 _ ((rs.mono gg).mono g1) rm1 (SPost.lift ((rs.mono gg).mono g1) q1 fun vy M2 io2 H2 u2 e2 g2 rm2 r2 q2 => ?_)
  obtain ⟨a1, a2, a3⟩ := guard_in rm hp (g1.trans g2)
  refine ⟨a3, ?_⟩
  cases e4 : newtOf vx vy with
  | none => rw [e4] at q2; exact q2.elim
  | some o =>
    rw [e4] at q2
    have e40 := e4
    unfold newtOf at e4
    split at e4
    · obtain ⟨ns, e5, rfl⟩ := Option.map_eq_some_iff.mp e4
      obtain ⟨b, rfl, t⟩ := dv_key (r1.mono g2) e5
      refine ⟨b, ns, u2, rfl, t.sq, ?_⟩
      have rv : DV io2 X.K H2 u2 _ := r2
      have G0 : Gr io H io2 H2 := gg.trans (g1.trans g2)
      have G : Gr io H io2 (upd H2 p (.ext (DicO p [(ns, b, u2)]))) := Gr.over G0 hp
      have rm' := rm2.over (o := .ext (DicO p [(ns, b, u2)])) a1 a2
      have ok : MOk io2 X.K (upd H2 p (.ext (DicO p [(ns, b, u2)]))) p (.dit [(ns, _)]) :=
        ⟨[(ns, b, u2)], upd_same, by rw [sizeLine_eq]; simp, .cons (TQ.over a1 t) (rv.stay fun a u n e => by rw [upd_ne (fun z => by subst z; exact n a1)]; exact e) .nil⟩
      have gt := G.take a1 hp
      rw [e1, lift_ok, e2, lift_ok, e40] at h
      exact h (io2.take p a1) _ _ gt (rm'.takeO a1 a2 ok fun _ _ z => by cases z) ((rs.mono gt).set i ⟨p, rfl, by
        show (io2.ids ++ [p])[M2.length]? = some p
        rw [← rm2.len, List.getElem?_append_right (Nat.le_refl _), Nat.sub_self]
        rfl⟩)
    · cases e4
theorem okS_newp0 {i : Nat} {x : Str} {pos' dpos : Pos} (hN : X.N.Nodup) (ht : TnOk X i x) :
    OkS X W (.Assign [.Name x pos'] (.Dict [] [] dpos) pos) (fun g M => some (.nx (g.set i (some (.r M.length))), M ++ [.dic []])) := by
  obtain ⟨h1, h2, h3⟩ := ht
  refine ⟨_, ps_set hN h1 h2 pe_dnewK (sw_none trivial) h3, fun io s H g M Dn rs rm h => ?_⟩
  intro p hp
  have gg : Gr io H (io.guard p) (upd H p (.dK [])) := Gr.guard hp
  have rmg := rm.guard (o := .dK []) hp
  have a1 : p ∈ (io.guard p).no := List.mem_cons_self
  have a2 : p ∉ (io.guard p).ids := fun z => rm.fresh hp (io.sub _ z)
  have gt := gg.take a1 hp
  exact h ((io.guard p).take p a1) _ _ gt (rmg.takeO a1 a2 ⟨[], upd_same, .nil⟩ fun _ _ z => by cases z) ((rs.mono gt).set i ⟨p, rfl, by
    show ((io.guard p).ids ++ [p])[M.length]? = some p
    rw [← rmg.len, List.getElem?_append_right (Nat.le_refl _), Nat.sub_self]
    rfl⟩)
theorem okS_newp {i : Nat} {x : Str} {pos' dpos : Pos} {ks : List (Option Expr)} {vs : List Expr} {fp : Sg → Mem → Rs (List (D × D))} (hN : X.N.Nodup) (ht : TnOk X i x) (hp : OkPd X W dpos ks vs fp) (h0 : ks ≠ []) (h15 : ks.length ≤ 15) :
    OkS X W (.Assign [.Name x pos'] (.Dict ks vs dpos) pos) (fun g M => lift (fp g M) g fun qs M1 => some (.nx (g.set i (some (.r M1.length))), M1 ++ [.dic (qs.foldl (fun a q => putD a q.1 q.2) [])])) := by
  obtain ⟨trs, pp, sp, l1, l2, l3⟩ := hp
  obtain ⟨h1, h2, h3⟩ := ht
  refine ⟨_, ps_set hN h1 h2 (pe_disp pp l1 l2 h0 h15) (sw_none trivial) h3, fun io s H g M Dn rs rm h => ?_⟩
  intro p hp
  have h : SPost X.K io H (lift (fp g M) g fun qs M1 => some (.nx (g.set i (some (.r M1.length))), M1 ++ [.dic (qs.foldl (fun a q => putD a q.1 q.2) [])])) Dn W := h
  have gg : Gr io H (io.guard p) (upd H p (.dK [])) := Gr.guard hp
  refine sp (io.guard p) s _ g M _ (rs.mono gg) (rm.guard hp) (SPost.lift (rs.mono gg) (SPost.shift gg h) fun qs M1 io1 H1 us e1 g1 rm1 r1 q1 => ?_)
  obtain ⟨a1, a2, a3⟩ := guard_in rm hp g1
  obtain ⟨kvs, rfl, hks⟩ := r1
  refine ⟨a3, kvs, rfl, by rw [hks.length, l3 _ _ _ _ e1]; exact h15, ?_⟩
  have G : Gr io H io1 (upd H1 p (.dK (mergeK [] kvs))) := Gr.over (gg.trans g1) hp
  have mg : ∀ {kvs : List (Key × V)} {qs : List (D × D)} {acc : List (Key × V)} {ac : List (D × D)}, DKs io1 X.K H1 kvs qs → DKs io1 X.K H1 acc ac → DKs io1 X.K H1 (mergeK acc kvs) (qs.foldl (fun a q => putD a q.1 q.2) ac) := by
    intro kvs qs acc ac h
    induction h generalizing acc ac with
    | nil => exact fun h => h
    | cons hv hs ih => exact fun h => ih (h.put hv)
  have ok : MOk io1 X.K (upd H1 p (.dK (mergeK [] kvs))) p (.dic (qs.foldl (fun a q => putD a q.1 q.2) [])) := ⟨_, upd_same, (mg hks .nil).over a1⟩
  have gt := G.take a1 hp
  rw [e1, lift_ok] at h
  exact h (io1.take p a1) _ _ gt ((rm1.over a1 a2).takeO a1 a2 ok fun _ _ z => by cases z) ((rs.mono gt).set i ⟨p, rfl, by
    show (io1.ids ++ [p])[M1.length]? = some p
    rw [← rm1.len, List.getElem?_append_right (Nat.le_refl _), Nat.sub_self]
    rfl⟩)
theorem okE_ldc {tgx : Tg} {tg kx vx iter : Expr} {ifs : List Expr} {scope : Scope} {own : List (Str × Nat)} {cp p : Pos} {ft : Sg → Mem → Rs Bool} {fi : Sg → Mem → Rs Wk} (hc : X.calm = true) (hN : X.N.Nodup) (hg : Gl X "len") (hm : X.mg "len" = none)
    (hpi : Pln iter) (hi : OkI X W tg iter fi) (hb : DcOk X tgx tg kx vx ifs scope own ft fk fv) :
    OkE X W (.Call (.Name "len" p) [.DictComp kx vx [⟨tg, iter, ifs, 0⟩] scope cp] [] pos) (fun g M => (fLc (own.map (·.2)) tgx fi ft (fPair fk fv) g M).bind fun ps M1 => .ok (.p (.int (ps.foldl putP []).length)) M1) := by
  obtain ⟨⟨wi, pi, si⟩, hok⟩ := hi
  have hpl : Pln (.DictComp kx vx [⟨tg, iter, ifs, 0⟩] scope cp) := trivial
  refine ⟨_, pe_callB call_lenD hg hm (by decide +kernel) (pa_cons (pe_dc (g := tgT X.K tgx) (tt := ttOf X.K Wno ft) (tk := tOf X.K Wno fk) (tv := tOf X.K Wno fv) hc hN pi hb.k.blk (fun s H C cl fp => pg_ok (X := X.blk s H scope (compEnvC scope cl C X.env) fp) hN hc (hb.k.tg s H C cl fp)) (fun s H C cl fp => (hb.k.ifs s H C cl fp).uni) (fun s H C cl fp => (hb.k.elt s H C cl fp).uni) (fun s H C cl fp => (hb.v.elt s H C cl fp).uni) (set_of hpi)) pa_nil (star_of hpl)) (by decide) (by decide) (star_of hpl) rfl, fun io s H g M Q rs rm h => ?_⟩
  have h : Post X.K (RV X.K) io H ((fLc (own.map (·.2)) tgx fi ft (fPair fk fv) g M).bind fun ps M1 => .ok (.p (.int (ps.foldl putP []).length)) M1) Q (fun cls d H' => W cls d s H') := h
  have hp : Post X.K (fun (_ : Io) (_ : Hp) (_ : Addr) (_ : List Eg.D) => True) io H (fLc (own.map (·.2)) tgx fi ft (fPair fk fv) g M) (fun (_ : Addr) _ => True) (fun cls d H' => W cls d s H') := by
    cases e : fLc (own.map (·.2)) tgx fi ft (fPair fk fv) g M with
    | bad => rw [e] at h; exact h
    | ok ds M2 => exact fun _ _ _ _ _ _ => trivial
    | exc c fs M1 => rw [e] at h; exact h
  show tDc wi (tgT X.K tgx) (ttOf X.K Wno ft) (tOf X.K Wno fk) (tOf X.K Wno fv) (own.map (·.2)) s H (fun x H1 => ∃ a kvs, [x] = [V.ref a] ∧ H1 a = some (HO.dK kvs) ∧ Q (V.int kvs.length) H1)
  refine dc_read (Q := fun x H1 => ∃ a kvs, [x] = [V.ref a] ∧ H1 a = some (HO.dK kvs) ∧ Q (V.int kvs.length) H1) si hb.k.pr hok hb.k.sub rs rm hp fun ps M2 io1 H1 io2 H2 L kvs e g1 g2 rm2 h1 h2 h3 h5 h6 => ?_
  rw [e] at h
  have h0 : H L = none := by
    cases q : H L with
    | none => rfl
    | some o =>
      by_cases n : L ∈ io.ids
      · obtain ⟨t, ht⟩ := (g1.trans g2).pre
        exact absurd (by rw [← ht]; exact List.mem_append_left _ n) h3
      · rw [g1.keep L o q n] at h1
        cases h1
  refine ⟨L, kvs, rfl, h5, ?_⟩
  refine h (io2.drop L h3) H2 _ ((g1.trans g2).drop h3 (rm.fresh h0)) (rm2.drop h3) ?_
  rw [h6.length]
  exact .int _
end
end Eg

/-! Engine: comprehensions of two clauses; sep.join. By an AI agent. -/
namespace Eg
open PySem PySem.Spec PyProof.Rows L2
section
variable {X : Cx} {W : WX} {a e tg : Expr} {pos p : Pos} {fa fe : Sg → Mem → Rs Vl} {ft ft1 : Sg → Mem → Rs Bool} {fi fi1 : Sg → Mem → Rs Wk}
/-! ### a walk over a range, one reading for all blocks -/
def RIr : Io → Hp → L2.It → Wk → Prop := fun _ _ J w => ∃ lo hi : Int, J = Itr lo (hi - lo).toNat ∧ w = ⟨rangeD lo hi, none⟩
def SIr (X : Cx) (W : WX) (wi : TI) (f : Sg → Mem → Rs Wk) : Prop :=
  ∀ (io : Io) (s : L2.St) (H : Hp) (g : Sg) (M : Mem) (R : L2.It → Hp → Prop), RS io X.K H s g → RM io X.K H M → Post X.K RIr io H (f g M) R (fun cls d H' => W cls d s H') → wi s H R
def OkIr (X : Cx) (W : WX) (tg e : Expr) (f : Sg → Mem → Rs Wk) : Prop := ∃ wi, PI X tg e wi ∧ SIr X W wi f
def tiOf (K : PySem.W.Frag) (W : WX) (f : Sg → Mem → Rs Wk) : TI := fun s H R => ∃ io g M, RS io K H s g ∧ RM io K H M ∧ Post K RIr io H (f g M) R (fun cls d H' => W cls d s H')
theorem OkIr.uni (h : OkIr X W tg e fi) : PI X tg e (tiOf X.K W fi) := by
  obtain ⟨wi, pi, si⟩ := h
  exact ⟨fun pins s σ H R I ⟨io, g, M, rs, rm, hp⟩ => pi.run pins s σ H R I (si io σ H g M R rs rm hp)⟩
theorem okIr_rng1 {b : Expr} {fb : Sg → Mem → Rs Vl} (hg : Gl X "range") (hm : X.mg "range" = none) (hpa : Pln a) (ha : OkE X W a fa) : OkIr X W tg (.Call (.Name "range" p) [a] [] pos) (fun s M => (fa s M).bind fun v M1 => fRw [v] M1) := by
  obtain ⟨t, pe, se⟩ := ha
  have hs : starEach [a] X.env = [(false, eval a X.env)] := star_of hpa
  refine ⟨_, pi_range1 hg hm (pa_cons pe pa_nil (star_of hpa)) hs, fun io s H sg M R rs rm hp => ?_⟩
  refine se io s H sg M _ rs rm (hp.seq fun x M1 io1 H1 u1 e1 g1 rm1 r1 hp1 => ?_)
  cases x with
  | p d =>
    cases r1 with
    | int j =>
      unfold fRw rangeOf at hp1
      by_cases hj : big62 j = true
      · simp only [if_pos hj] at hp1
        obtain ⟨b1, b2⟩ := of_decide_eq_true hj
        exact ⟨j, rfl, b1, b2, hp1.done rm1 ⟨0, j, by rw [Int.sub_zero], rfl⟩⟩
      · simp only [if_neg hj] at hp1
        exact hp1.elim
    | _ => exact hp1.elim
  | r i => exact hp1.elim
  | s ds => exact hp1.elim
theorem okIr_rng2 {b : Expr} {fb : Sg → Mem → Rs Vl} (hg : Gl X "range") (hm : X.mg "range" = none) (hpa : Pln a) (hpb : Pln b) (ha : OkE X W a fa) (hb : OkE X W b fb) :
    OkIr X W tg (.Call (.Name "range" p) [a, b] [] pos) (fun s M => (fa s M).bind fun v M1 => (fb s M1).bind fun w M2 => fRw [v, w] M2) := by
  obtain ⟨t, pe, se⟩ := ha
  obtain ⟨t', pe', se'⟩ := hb
  have hs2 : starEach [b] X.env = [(false, eval b X.env)] := star_of hpb
  have hs : starEach [a, b] X.env = [(false, eval a X.env), (false, eval b X.env)] := by rw [star_of hpa, hs2]
  refine ⟨_, pi_range2 hg hm (pa_cons pe (pa_cons pe' pa_nil (star_of hpb)) (star_of hpa)) hs hs2, fun io s H sg M R rs rm hp => ?_⟩
  refine se io s H sg M _ rs rm (hp.seq fun x M1 io1 H1 u1 e1 g1 rm1 r1 hp1 => ?_)
  refine se' io1 s H1 sg M1 _ (rs.mono g1) rm1 (hp1.seq fun y M2 io2 H2 u2 e2 g2 rm2 r2 hp2 => ?_)
  cases x with
  | p d =>
    cases y with
    | p d' =>
      cases r1 with
      | int i =>
        cases r2 with
        | int j =>
          unfold fRw rangeOf at hp2
          by_cases hj : (big62 i && big62 j) = true
          · simp only [if_pos hj] at hp2
            obtain ⟨h1, h2⟩ := Bool.and_eq_true_iff.mp hj
            obtain ⟨a1, a2⟩ := of_decide_eq_true h1
            obtain ⟨b1, b2⟩ := of_decide_eq_true h2
            exact ⟨i, j, rfl, ⟨a1, a2, b1, b2⟩, hp2.done rm2 ⟨i, j, rfl, rfl⟩⟩
          · simp only [if_neg hj] at hp2
            exact hp2.elim
        | _ => exact hp2.elim
      | _ => cases d' <;> exact hp2.elim
    | r i => cases d <;> exact hp2.elim
    | s ds => cases d <;> exact hp2.elim
  | r i => exact hp2.elim
  | s ds => exact hp2.elim
/-! ### the heap without one object -/
def rem (H : Hp) (D : Addr) : Hp := fun a => if a = D then none else H a
theorem rem_self {H : Hp} {D : Addr} : rem H D D = none := if_pos rfl
theorem rem_ne {H : Hp} {D a : Addr} (h : a ≠ D) : rem H D a = H a := if_neg h
theorem rem_some {H : Hp} {D a : Addr} {o : HO} (h : rem H D a = some o) : H a = some o := by
  unfold rem at h
  split at h
  · cases h
  · exact h
theorem Gr.rem0 {io : Io} {H : Hp} {D : Addr} : Gr io (rem H D) io H := ⟨List.prefix_refl _, fun _ h => h, fun _ h n => absurd h n, fun _ h n => absurd h n, fun a o e _ => rem_some e⟩
theorem Gr.rem {io io' : Io} {H H' : Hp} {D : Addr} (g : Gr io H io' H') (hD : H D = none) : Gr io H io' (rem H' D) := ⟨g.pre, g.mor, g.newi, g.new, fun a o e n => by rw [rem_ne (ne_of_none e hD)]; exact g.keep a o e n⟩
theorem RS.rem {io : Io} {K : PySem.W.Frag} {H : Hp} {s : L2.St} {g : Sg} {D : Addr} (h : RS io K H s g) (hD : D ∈ io.no) : RS io K (rem H D) s g := by
  have st : ∀ a o, a ∉ io.no → H a = some o → Eg.rem H D a = some o := fun a o n e => by rw [rem_ne (fun z => by subst z; exact n hD)]; exact e
  refine ⟨h.len, fun i v e => ?_⟩
  obtain ⟨u, e1, r⟩ := h.at_ i v e
  refine ⟨u, e1, ?_⟩
  cases v with
  | p d => exact DV.stay st r
  | r i => exact r
  | s ds =>
    obtain ⟨a, xs, rfl, q, hs⟩ := r
    refine ⟨a, xs, rfl, ?_, hs.stay st⟩
    rcases q with ⟨q | ⟨o, q⟩, n⟩ | q
    · exact .inl ⟨.inl (st _ _ n q), n⟩
    · exact .inl ⟨.inr ⟨o, st _ _ n q⟩, n⟩
    · exact .inr q
/-! ### a walk's loop that fills a list, D its address; ioB, HB: how it stood before D -/
theorem lc2_turns {J : L2.It} {w : Wk} {ioB io1 : Io} {HB H1 : Hp} {M1 : Mem} {pr : Prop} {Gw : Hp → Prop} {Y : Nat → Hp → V → Hp → Prop} (wk : Walk J w.items.length Gw Y) (hG : ∀ io' H' M', Gr ioB HB io' H' → RM io' X.K H' M' → w.ok M' = true → Gw H')
    (hY : ∀ i H1 x H2 d io1 M1, w.items[i]? = some d → Gr ioB HB io1 H1 → RM io1 X.K H1 M1 → w.ok M1 = true → Y i H1 x H2 → Gr io1 H1 io1 H2 ∧ RM io1 X.K H2 M1 ∧ DT pr io1 X.K H2 x d)
    (g0 : Gr ioB HB io1 H1) (hok : w.ok M1 = true) (rm1 : RM io1 X.K H1 M1) (hl : w.items.length ≤ 1000)
    {step : Eg.D → Mem → Rs (List Eg.D)} {L : Addr} {acc0 : List Eg.D} (hb : lcLoop w step w.items M1 acc0 ≠ .bad) {n0 : Nat} {xs0 : List V}
    {G : TG} {tt : TT} {rest : L2.St → Bool → (Hp → Prop) → Hp → Prop} {own : List Nat} {σ : L2.St}
    (d1 : L ∈ io1.no) (d2 : L ∉ io1.ids) (d3 : H1 L = some (.lst xs0)) (d4 : DVs io1 X.K H1 xs0 acc0) (d5 : xs0.length ≤ n0) (per : Nat)
    (ht : ∀ (i : Nat) (io' : Io) (M' : Mem) (acc : List Eg.D) (xs : List V) (x : V) (Hn' : Hp) (d : Eg.D), i < 1000 → Gr ioB HB io' Hn' → RM io' X.K Hn' M' → w.ok M' = true → L ∈ io'.no → L ∉ io'.ids → Hn' L = some (.lst xs) → DVs io' X.K Hn' xs acc → xs.length ≤ n0 + i * per →
      DT pr io' X.K Hn' x d → ∀ (r : List Eg.D) (M2 : Mem), step d M' = .ok r M2 → w.ok M2 = true → ∀ Nx : Hp → Prop,
        (∀ io4 H4 xs4, Gr ioB HB io4 H4 → RM io4 X.K H4 M2 → L ∈ io4.no → L ∉ io4.ids → H4 L = some (.lst xs4) → DVs io4 X.K H4 xs4 (acc ++ r) → xs4.length ≤ n0 + (i + 1) * per → Nx H4) →
        G x (L2.wipe σ own) Hn' fun σ2 H2 => L2.wipe σ2 own = L2.wipe σ own ∧ tt σ2 H2 fun b H3 => rest σ2 b Nx H3)
    {Qd : Hp → Prop} (hQ : ∀ ds M2 io2 H2 xs, lcLoop w step w.items M1 acc0 = .ok ds M2 → Gr ioB HB io2 H2 → RM io2 X.K H2 M2 → L ∈ io2.no → L ∉ io2.ids → H2 L = some (.lst xs) → DVs io2 X.K H2 xs ds → xs.length ≤ n0 + 1000 * per → Qd H2) :
    ∃ W : Nat → Nat → Hp → Prop, (∃ m, W 0 m H1) ∧ ∀ i m H, W i m H →
      (J.stop i H ∧ Qd H) ∨ (J.go i H ∧ ∃ Nx : Hp → Prop, (∀ H', Nx H' → ∃ m', m' < m ∧ W (i + 1) m' H') ∧ ∀ x H', J.yld i H x H' → G x (L2.wipe σ own) H' fun σ2 H2 => L2.wipe σ2 own = L2.wipe σ own ∧ tt σ2 H2 fun b H3 => rest σ2 b Nx H3) := by
  let total := lcLoop w step w.items M1 acc0
  let Pv : Nat → Hp → Prop := fun i Hn => ∃ io' M' acc xs, Gr ioB HB io' Hn ∧ RM io' X.K Hn M' ∧ w.ok M' = true ∧ L ∈ io'.no ∧ L ∉ io'.ids ∧ Hn L = some (.lst xs) ∧ DVs io' X.K Hn xs acc ∧ xs.length ≤ n0 + i * per ∧ lcLoop w step (w.items.drop i) M' acc = total
  refine ⟨fun i m H => m = w.items.length - i ∧ i ≤ w.items.length ∧ Pv i H, ⟨_, rfl, Nat.zero_le _, io1, M1, acc0, xs0, g0, rm1, hok, d1, d2, d3, d4, by omega, by rw [List.drop_zero]⟩, ?_⟩
  rintro i m H ⟨rfl, hi, io', M', acc, xs, gr, rm', ok, q1, q2, q3, q4, q5, q6⟩
  have hGH := hG io' H M' gr rm' ok
  by_cases hlt : i < w.items.length
  · refine .inr ⟨wk.goes i H hlt hGH, Pv (i + 1), fun H' p' => ⟨w.items.length - (i + 1), by omega, rfl, hlt, p'⟩, fun x H' y => ?_⟩
    have y := wk.yields i H x H' hlt hGH y
    have hit : w.items[i]? = some w.items[i] := List.getElem?_eq_getElem hlt
    obtain ⟨g2, rm2, rx⟩ := hY i H x H' w.items[i] io' M' hit gr rm' ok y
    have nb : lcLoop w step (w.items.drop i) M' acc ≠ .bad := by rw [q6]; exact hb
    rw [List.drop_eq_getElem_cons hlt] at nb q6
    obtain ⟨r, M2, es, ok2, el⟩ := lcLoop_cons nb
    rw [el] at q6
    exact ht i io' M' acc xs x H' w.items[i] (by omega) (gr.trans g2) rm2 ok q1 q2 (g2.keep _ _ q3 q2) (q4.mono g2) q5 rx r M2 es ok2 (Pv (i + 1)) fun io4 H4 xs4 g4 rm4 e1 e2 e3 e4 e5 =>
      ⟨io4, M2, acc ++ r, xs4, g4, rm4, ok2, e1, e2, e3, e4, e5, q6⟩
  · have e : i = w.items.length := by omega
    subst e
    refine .inl ⟨wk.stops H hGH, ?_⟩
    rw [List.drop_eq_nil_of_le (Nat.le_refl _)] at q6
    refine hQ acc M' io' H xs q6.symm gr rm' q1 q2 q3 q4 ?_
    have : w.items.length * per ≤ 1000 * per := Nat.mul_le_mul_right _ hl
    omega
theorem lcLoop_app {w : Wk} {step : D → Mem → Rs (List D)} : ∀ {xs : List D} {M : Mem} {acc acc2 : List D}, lcLoop w step xs M (acc2 ++ acc) = (match lcLoop w step xs M acc with
    | .ok ds M' => .ok (acc2 ++ ds) M'
    | .bad => .bad
    | .exc c fs M' => .exc c fs M')
  | [], M, acc, acc2 => rfl
  | x :: xs, M, acc, acc2 => by
    rw [lcLoop_step, lcLoop_step]
    cases step x M with
    | bad => rfl
    | exc => rfl
    | ok r M' =>
      dsimp only
      by_cases h : w.ok M' = true
      · rw [if_pos h, if_pos h, List.append_assoc, lcLoop_app]
      · rw [if_neg h, if_neg h]
/-- what the two blocks are to be shown -/
structure Lc2Ok (X : Cx) (tgx tgx1 : Tg) (tg tg1 iter1 elt : Expr) (ifs ifs1 : List Expr) (scope : Scope) (own : List (Str × Nat)) (own1 : List Nat) (ft : Sg → Mem → Rs Bool) (fi1 : Sg → Mem → Rs Wk) (ft1 : Sg → Mem → Rs Bool) (fe : Sg → Mem → Rs Vl) : Prop where
  out : LcOk X tgx tg elt ifs scope own ft fe
  in_ : LcOk X tgx1 tg1 elt ifs1 scope own ft1 fe
  sub : ∀ i ∈ own1, i ∈ own.map (·.2)
  sub1 : ∀ i ∈ tgSlots tgx1, i ∈ own1
  pln : Pln iter1
  it1 : ∀ (s : Shared) (H : Hp) (C : Addr) (cl : List (Str × Addr)) (fp : List Addr), OkIr (X.blk s H scope (compEnvC scope cl C X.env) fp) Wno tg1 iter1 fi1
variable {tgx tgx1 : Tg} {tg1 iter iter1 elt : Expr} {ifs ifs1 : List Expr} {scope : Scope} {own : List (Str × Nat)} {own1 : List Nat}
/-- the reading of a comprehension of two clauses -/
theorem lc2_read {wi : TI} (si : SI (isTp tg) X W wi fi) (hok : ∀ g M w M', fi g M = .ok w M' → w.ok M' = true) (hb : Lc2Ok X tgx tgx1 tg tg1 iter1 elt ifs ifs1 scope own own1 ft fi1 ft1 fe)
    {io : Io} {s : L2.St} {H : Hp} {g : Sg} {M : Mem} {Q : VK} (rs : RS io X.K H s g) (rm : RM io X.K H M)
    (hp : Post X.K (RV X.K) io H ((fLc2 (own.map (·.2)) tgx fi ft own1 tgx1 fi1 ft1 fe g M).bind fun ds M2 => .ok (.p (.list ds)) M2) Q (fun cls d H' => W cls d s H')) :
    tLc2 wi (tgT X.K tgx) (ttOf X.K Wno ft) (tiOf X.K Wno fi1) (tgT X.K tgx1) (ttOf X.K Wno ft1) (tOf X.K Wno fe) (own.map (·.2)) own1 s H Q := by
  refine si io s H g M _ rs rm ?_
  cases e : fi g M with
  | bad => unfold fLc2 at hp; rw [e] at hp; exact hp
  | exc c fs M1 => unfold fLc2 at hp; rw [e] at hp; exact hp
  | ok w M1 =>
    intro io1 H1 J g1 rm1 iw D hD
    have hp1 := hp.shift g1
    unfold fLc2 at hp1
    rw [e, Rs.bind_ok] at hp1
    by_cases hz : w.items.length ≤ 1000
    case neg => rw [if_neg hz] at hp1; exact hp1.elim
    rw [if_pos hz] at hp1
    have hbad : lcLoop w (fStep2 (own.map (·.2)) tgx ft own1 tgx1 fi1 ft1 fe g) w.items M1 [] ≠ .bad := fun z => by rw [z] at hp1; exact hp1.elim
    have hw := hok _ _ _ _ e
    have rs1 := rs.mono g1
    obtain ⟨Gw, Y, wk, hG, hY⟩ := iw
    refine lc2_turns (X := X) (ioB := io1) (HB := H1) (own := own.map (·.2)) (σ := s) wk hG hY (Gr.guard hD) hw (rm1.guard hD) hz hbad (n0 := 0) (per := 1000) (xs0 := []) List.mem_cons_self (fun z => rm1.fresh hD (io1.sub _ z)) upd_same .nil (Nat.le_refl _) ?_ ?_
    · intro i io' M' acc xs x Hn' d hi gr rm2 ok q1 q2 q3 q4 q5 rx r M2 es ok2 Nx hNx
      have rs2 : RS io' X.K Hn' (L2.wipe s (own.map (·.2))) (wipe g (own.map (·.2))) := (rs1.mono gr).wipe _
      unfold fStep2 at es
      cases est : store tgx d (wipe g (own.map (·.2))) with
      | none => rw [est] at es; cases es
      | some g' =>
        rw [est] at es
        refine sg_ok rs2 hb.out.pr rx est fun s' rs' hw' => ⟨(hw' _ hb.out.sub).trans (wipe_wipe s _), ?_⟩
        dsimp only at es
        obtain ⟨c, Mc, ec, es⟩ := bind_ok_of es
        refine st_uni (X := X) io' s' Hn' g' M' _ rs' rm2 ?_
        rw [ec]
        intro io3 H3 k g3 rm3 ek
        cases ek
        cases c with
        | false =>
          simp only [if_false, Bool.false_eq_true] at es ⊢
          cases es
          exact hNx io3 H3 xs (gr.trans g3) rm3 (g3.mor _ q1) (g3.outi q3 q2) (g3.keep _ _ q3 q2) (by rw [List.append_nil]; exact q4.mono g3) (by omega)
        | true =>
          simp only [if_true] at es ⊢
          obtain ⟨w1, Mw, ew, es⟩ := bind_ok_of es
          by_cases hz1 : w1.items.length ≤ 1000
          case neg => rw [if_neg hz1] at es; cases es
          rw [if_pos hz1] at es
          refine ⟨io3, g', Mc, rs'.mono g3, rm3, ?_⟩
          rw [ew]
          intro io4 H4 J1 g4 rm4 iw1
          obtain ⟨lo, hi', rfl, rfl⟩ := iw1
          have g34 := g3.trans g4
          have d1 := g34.mor _ q1
          have d2 := g34.outi q3 q2
          have d3 := g34.keep _ _ q3 q2
          have rs4 : RS io4 X.K (Eg.rem H4 D) s' g' := (rs'.mono g34).rem d1
          have ea : lcLoop ⟨rangeD lo hi', none⟩ (fStep own1 tgx1 ft1 fe g') (rangeD lo hi') Mw acc = .ok (acc ++ r) M2 := by
            have := lcLoop_app (w := ⟨rangeD lo hi', none⟩) (step := fStep own1 tgx1 ft1 fe g') (xs := rangeD lo hi') (M := Mw) (acc := []) (acc2 := acc)
            rw [List.append_nil] at this
            have es' : lcLoop ⟨rangeD lo hi', none⟩ (fStep own1 tgx1 ft1 fe g') (rangeD lo hi') Mw [] = .ok r M2 := es
            rw [es'] at this
            exact this
          obtain ⟨Gr1, Y1, wk1, hG1, hY1⟩ := iw_rng (pr := False) (K := X.K) (io := io4) (H := Eg.rem H4 D) lo hi'
          refine lc2_turns (X := X) (ioB := io4) (HB := Eg.rem H4 D) (own := own1) (σ := s') (acc0 := acc) (xs0 := xs) (n0 := i * 1000) (per := 1) (w := ⟨rangeD lo hi', none⟩) wk1 hG1 hY1 Gr.rem0 rfl rm4 hz1 (by rw [ea]; exact fun z => by cases z) d1 d2 d3 (q4.mono g34) (by omega) ?_ ?_
          · intro j io5 M5 acc5 xs5 x5 H5' d5 hj gr5 rm6 ok5 a1 a2 a3 a4 a5 rx6 r6 M6 es6 ok6 Nx1 hNx1
            have rs6 : RS io5 X.K H5' (L2.wipe s' own1) (wipe g' own1) := (rs4.mono gr5).wipe _
            unfold fStep at es6
            cases est6 : store tgx1 d5 (wipe g' own1) with
            | none => rw [est6] at es6; cases es6
            | some g6' =>
              rw [est6] at es6
              refine sg_ok rs6 (fun z => z.elim) rx6 est6 fun s6 rs6' hw6 => ⟨(hw6 _ hb.sub1).trans (wipe_wipe s' _), ?_⟩
              dsimp only at es6
              obtain ⟨c6, Mc6, ec6, es6⟩ := bind_ok_of es6
              refine st_uni (X := X) io5 s6 H5' g6' M5 _ rs6' rm6 ?_
              rw [ec6]
              intro io7 H7 k7 g7 rm7 ek
              cases ek
              cases c6 with
              | false =>
                simp only [if_false, Bool.false_eq_true] at es6 ⊢
                cases es6
                exact hNx1 io7 H7 xs5 (gr5.trans g7) rm7 (g7.mor _ a1) (g7.outi a3 a2) (g7.keep _ _ a3 a2) (by rw [List.append_nil]; exact a4.mono g7) (by omega)
              | true =>
                simp only [if_true] at es6 ⊢
                obtain ⟨yv, My, ey, es6⟩ := bind_ok_of es6
                refine se_uni (X := X) io7 s6 H7 g6' Mc6 _ (rs6'.mono g7) rm7 ?_
                rw [ey]
                intro io8 H8 u g8 rm8 ru
                have g78 := g7.trans g8
                cases yv with
                | p dy =>
                  cases es6
                  have b1 := g78.mor _ a1
                  have b2 := g78.outi a3 a2
                  refine ⟨xs5, g78.keep _ _ a3 a2, by rw [sizeLine_eq]; omega, ?_⟩
                  have sn : DVs io8 X.K H8 (xs5 ++ [u]) (acc5 ++ [dy]) := (a4.mono g78).snoc ru
                  exact hNx1 io8 _ (xs5 ++ [u]) ((gr5.trans g78).over rem_self) (rm8.over b1 b2) b1 b2 upd_same (sn.over b1) (by rw [List.length_append, List.length_singleton]; omega)
                | r i => cases es6
                | s ds => cases es6
          · intro ds5 M5 io5 H5 xs5 e5 gr5 rm5 a1 a2 a3 a4 a5
            have e5 : lcLoop ⟨rangeD lo hi', none⟩ (fStep own1 tgx1 ft1 fe g') (rangeD lo hi') Mw acc = .ok ds5 M5 := e5
            rw [ea] at e5
            cases e5
            exact hNx io5 H5 xs5 (((gr.trans g34).rem hD).trans gr5) rm5 a1 a2 a3 a4 (by omega)
    · intro ds M2 io2 H2 xs e2 gg rm2 q1 q2 q3 q4 q5
      rw [e2, Rs.bind_ok] at hp1
      refine hp1 (io2.drop D q2) H2 (.ref D) (gg.drop q2 (rm1.fresh hD)) (rm2.drop q2) ?_
      exact .lst q3 (Io.drop_no q2) (q4.less (Io.drop_less q2))
theorem okE_lc2 (hc : X.calm = true) (hN : X.N.Nodup) (hpi : Pln iter) (hi : OkI X W tg iter fi) (hb : Lc2Ok X tgx tgx1 tg tg1 iter1 elt ifs ifs1 scope own own1 ft fi1 ft1 fe) :
    OkE X W (.ListComp elt [⟨tg, iter, ifs, 0⟩, ⟨tg1, iter1, ifs1, 0⟩] scope pos) (fun g M => (fLc2 (own.map (·.2)) tgx fi ft own1 tgx1 fi1 ft1 fe g M).bind fun ds M2 => .ok (.p (.list ds)) M2) := by
  obtain ⟨⟨wi, pi, si⟩, hok⟩ := hi
  exact ⟨_, pe_lc2 (g := tgT X.K tgx) (tt := ttOf X.K Wno ft) (wi1 := tiOf X.K Wno fi1) (g1 := tgT X.K tgx1) (tt1 := ttOf X.K Wno ft1) (te := tOf X.K Wno fe) (vs1 := own1) hc hN pi hb.out.blk hb.sub
    (fun s H C cl fp => pg_ok (X := X.blk s H scope (compEnvC scope cl C X.env) fp) hN hc (hb.out.tg s H C cl fp)) (fun s H C cl fp => (hb.out.ifs s H C cl fp).uni) (fun s H C cl fp => (hb.it1 s H C cl fp).uni)
    (fun s H C cl fp => pg_ok (X := X.blk s H scope (compEnvC scope cl C X.env) fp) hN hc (hb.in_.tg s H C cl fp)) (fun s H C cl fp => (hb.in_.ifs s H C cl fp).uni) (fun s H C cl fp => (hb.out.elt s H C cl fp).uni) (set_of hpi) (fun env x => set_of hb.pln x), fun io s H g M Q rs rm hp => lc2_read si hok hb rs rm hp⟩
theorem okS_setLc2 {i : Nat} {x : Str} {pos' cp : Pos} (hc : X.calm = true) (hN : X.N.Nodup) (hx : X.N[i]? = some x) (hl : X.env.scope.names.lookup x = some .local)
    (hsw : swapsWith (.ListComp elt [⟨tg, iter, ifs, 0⟩, ⟨tg1, iter1, ifs1, 0⟩] scope cp) (some (.Name x pos')) pos.line X.env = pure true) (hpi : Pln iter) (hi : OkI X W tg iter fi) (hb : Lc2Ok X tgx tgx1 tg tg1 iter1 elt ifs ifs1 scope own own1 ft fi1 ft1 fe) :
    OkS X W (.Assign [.Name x pos'] (.ListComp elt [⟨tg, iter, ifs, 0⟩, ⟨tg1, iter1, ifs1, 0⟩] scope cp) pos) (fun g M => lift ((fLc2 (own.map (·.2)) tgx fi ft own1 tgx1 fi1 ft1 fe g M).bind fun ds M2 => .ok (.p (.list ds)) M2) g fun v M1 => some (.nx (g.set i (some v)), M1)) := by
  obtain ⟨⟨wi, pi, si⟩, hok⟩ := hi
  refine ⟨_, ps_setLc2 (g := tgT X.K tgx) (tt := ttOf X.K Wno ft) (wi1 := tiOf X.K Wno fi1) (g1 := tgT X.K tgx1) (tt1 := ttOf X.K Wno ft1) (te := tOf X.K Wno fe) (vs1 := own1) hc hN hx hl hsw pi hb.out.blk hb.sub
    (fun s H C cl fp => pg_ok (X := X.blk s H scope (compEnvC scope cl C X.env) fp) hN hc (hb.out.tg s H C cl fp)) (fun s H C cl fp => (hb.out.ifs s H C cl fp).uni) (fun s H C cl fp => (hb.it1 s H C cl fp).uni)
    (fun s H C cl fp => pg_ok (X := X.blk s H scope (compEnvC scope cl C X.env) fp) hN hc (hb.in_.tg s H C cl fp)) (fun s H C cl fp => (hb.in_.ifs s H C cl fp).uni) (fun s H C cl fp => (hb.out.elt s H C cl fp).uni) (set_of hpi) (fun env x => set_of hb.pln x), fun io s H g M D rs rm h => ?_⟩
  exact lc2_read (Q := fun x H1 => gName i x s H1 D.nx) si hok hb rs rm (SPost.lift rs h fun v M1 io1 H1 u e1 g1 rm1 r1 h1 => h1.nx rm1 ((rs.mono g1).set i r1))
/-! ### sep.join(l) -/
theorem DVs.strs {io : Io} {K : PySem.W.Frag} {H : Hp} : ∀ {vs : List V} {ds : List D} {ys : List Str}, DVs io K H vs ds → strsOf ds = some ys → vs = ys.map V.str
  | _, _, _, .nil, e => by cases e; rfl
  | _, _, _, .cons h hs, e => by
    cases h with
    | str x =>
      unfold strsOf at e
      obtain ⟨ns, e1, e2⟩ := Option.map_eq_some_iff.mp e
      rw [← e2, List.map_cons, hs.strs e1]
    | _ => simp [strsOf] at e
theorem okE_join {b : Expr} {fb : Sg → Mem → Rs Vl} {apos : Pos} (ha : OkE X W a fa) (hb : OkE X W b fb) (hpb : Pln b) (hn : NoK a) (hline : (apos.endLine == p.line) = true) :
    OkE X W (.Call (.Attribute a "join" apos) [b] [] p) (fun g M => (fa g M).bind fun x M1 => if isSt x then (fb g M1).bind fun y M2 => Rs.of M2 (joinOf M2 x y) else .bad) := by
  obtain ⟨ta, pa, sa⟩ := ha
  obtain ⟨tb, pb, sb⟩ := hb
  refine ⟨_, pe_join pa pb (star_of hpb) (base_of hn) hline, fun io s H sg M Q rs rm hq => ?_⟩
  refine sa io s H sg M _ rs rm (hq.seq fun x M1 io1 H1 u1 e1 g1 rm1 r1 hq1 => ?_)
  by_cases hD : isSt x = true
  case neg => rw [if_neg hD] at hq1; exact hq1.elim
  rw [if_pos hD] at hq1
  cases x with
  | r _ => cases hD
  | s _ => cases hD
  | p d =>
    cases d with
    | str z =>
      cases r1
      refine ⟨⟨z, rfl⟩, sb io1 s H1 sg M1 _ (rs.mono g1) rm1 (hq1.seq fun y M2 io2 H2 u2 e2 g2 rm2 r2 hq2 => ?_)⟩
      cases e4 : joinOf M2 (.p (.str z)) y with
      | none => rw [e4] at hq2; exact hq2.elim
      | some w =>
        rw [e4] at hq2
        unfold joinOf at e4
        simp only [plain_p, Option.bind_some] at e4
        obtain ⟨dy, e5, e6⟩ := Option.bind_eq_some_iff.mp e4
        have rd := r2.db rm2 e5
        cases rd with
        | @lst _ _ ds hx hs =>
          have e6 : ((strsOf ds).bind fun ys => if (ys.map (·.length)).sum + ys.length * z.length ≤ line then some (Vl.p (.str (PySem.Txt.join z ys))) else none) = some w := e6
          obtain ⟨ys, e7, e8⟩ := Option.bind_eq_some_iff.mp e6
          obtain ⟨hz, rfl⟩ := ite_some e8
          exact ⟨z, _, ys, rfl, rfl, .inl (by rw [← hs.strs e7]; exact SqL.of hx), by have : line = 16777216 := rfl; omega, res_p hq2 rm2 (.str _)⟩
        | _ => cases e6
    | _ => cases hD
end
end Eg

/-! Engine: classes of the text: fields, methods, new instances. By an AI agent. -/
namespace Eg
open PySem PySem.Spec PyProof.Rows L2
/-! ### the calls' trees -/
/-- no call without arguments -/
def NoK2 (e : Expr) : Prop := match e with
  | .Call _ [] _ _ => False
  | _ => True
theorem base2_of {n : Str} {o : Expr} {env : Env} (h : NoK2 o) : attributeBase o n env (eval o env) = eval o env := by
  cases o with
  | Call f as ks p =>
    cases as with
    | nil => exact h.elim
    | cons a as => cases f <;> rfl
  | _ => rfl
section
variable {X : Cx} {W : WX}
theorem mtree {o : Expr} {m : Str} {apos pos : Pos} {es : List Expr} (hn : NoK2 o) (hp : AllP es) (hl : es.length < 30) (hline : (apos.endLine == pos.line) = true) : eval (.Call (.Attribute o m apos) es [] pos) X.env = (do
      let ov ← eval o X.env
      standAt apos.atName
      let (f, first) ← holding [ov] (getMethod ov m (do return (← importBound o X.env).getD true))
      callWith pos f first (backTo pos (starEach es X.env)) (backToKw pos (keywordEach [] X.env))) := by
  refine L2.mcall_of (base2_of hn) fun ov => ?_
  have hf : methodCallForm (es.length + ([] : List Keyword).length) (backTo pos (starEach es X.env)) (backToKw pos (keywordEach [] X.env)) = true := few_of hp hl
  unfold methodCall calleeOf methodCallPos
  rw [hf, hline]
  simp
end
/-! ### calls where what is raised is wished for at the caller's slots -/
section
variable {X : Cx} {CX : CXT} {k : Nat} {f C : Addr} {fd : FuncData} {ps : List Str} {sp : Sp} {E : L2.St → XK} {x m : Str} {p pos apos : Pos} {e o : Expr} {es : List Expr} {ta : TE} {t : TA}
def tMethS2 (C : Addr) (m : Str) (sp : Sp) (E : L2.St → XK) (ta : TE) (t : TA) : TE := fun σ H Q => ta σ H fun x H1 => ∃ a dx fs, x = .ref a ∧ H1 a = some (.ins C dx fs) ∧ fs.lookup m = none ∧ t σ H1 fun vs H2 => sp (x :: vs) H2 Q (E σ)
theorem pe_methS2 {pl : Sem Bool} (he : PE X o ta) (c : Cls X.K C) (hm : Meth X.K C m f) (F : FnOk X.prog X.w X.K X.mg X.base CX k f fd ps sp) (hr : Room k X.A) (hb : Binds X.K fd ps []) (hx : ∀ σ, PassesAt CX X σ (E σ)) (ha : PA X (e :: es) t)
    (hst : starEach (e :: es) X.env = (false, eval e X.env) :: starEach es X.env) (hpl : (backTo pos (starEach es X.env)).any (·.1) = false)
    (ht : eval (.Call (.Attribute o m apos) (e :: es) [] pos) X.env = (do
      let ov ← eval o X.env
      standAt apos.atName
      let (f, first) ← holding [ov] (getMethod ov m pl)
      callWith pos f first (backTo pos (starEach (e :: es) X.env)) (backToKw pos (keywordEach [] X.env)))) :
    PE X (.Call (.Attribute o m apos) (e :: es) [] pos) (tMethS2 C m sp E ta t) := by
  refine ⟨fun pins s σ H Q I h => ?_⟩
  refine PySem.W.methodCall_KW (pl := pl) (thn (he.run pins s σ H _ I h) fun u s1 ⟨x, H1, I1, rx, a, dx, fs, ex, ea, l, q⟩ => ?_) ht
  subst ex
  obtain rfl : u = Value.ref a := rx
  refine getmeth_ok I1 ea c hm l ?_
  refine PySem.W.callWith_K (first := [.ref a]) (h₀ := X.base) I.ok.mod.kin hm.kp (thn (ha.run pos pins s1 σ H1 _ I1 q) fun us s2 ⟨vs, H2, I2, r, q2⟩ => ⟨I2.kIn, ?_⟩) hst hpl
  exact run_fnS (us := .ref a :: us) (vs := .ref a :: vs) F hr hb (hx σ) I2 (.cons rfl r) q2
theorem pe_methS0 {pl : Sem Bool} (he : PE X o ta) (c : Cls X.K C) (hm : Meth X.K C m f) (F : FnOk X.prog X.w X.K X.mg X.base CX k f fd ps sp) (hr : Room k X.A) (hb : Binds X.K fd ps []) (hx : ∀ σ, PassesAt CX X σ (E σ))
    (ht : eval (.Call (.Attribute o m apos) [] [] pos) X.env = (do
      let ov ← eval o X.env
      standAt apos.atName
      let (f, first) ← holding [ov] (getMethod ov m pl)
      callWith pos f first (backTo pos (starEach [] X.env)) (backToKw pos (keywordEach [] X.env)))) :
    PE X (.Call (.Attribute o m apos) [] [] pos) (tMethS2 C m sp E ta tNil) := by
  refine ⟨fun pins s σ H Q I h => ?_⟩
  refine PySem.W.methodCall_KW (pl := pl) (thn (he.run pins s σ H _ I h) fun u s1 ⟨x, H1, I1, rx, a, dx, fs, ex, ea, l, q⟩ => ?_) ht
  subst ex
  obtain rfl : u = Value.ref a := rx
  refine getmeth_ok I1 ea c hm l ?_
  exact PySem.W.callWith_K0 (first := [.ref a]) I1.kIn hm.kp (run_fnS (us := [.ref a]) (vs := [.ref a]) F hr hb (hx σ) I1 (.cons rfl .nil) q)
def tMakeS (C : Addr) (sp : Sp) (E : L2.St → XK) (t : TA) : TE := fun σ H Q => t σ H fun vs H1 => ∀ x dx, H1 x = none → H1 dx = none → dx ≠ x →
  sp (.ref x :: vs) (upd (upd H1 dx (.own x)) x (.ins C dx [])) (fun v H2 => v = .non ∧ Q (.ref x) H2) (E σ)
theorem run_makeS {pins : List (Addr × Obj)} {σ : L2.St} {H : Hp} {s : Shared} {Q : VK} {us : List Value} {vs : List V} (M : Mk X.K C f) (F : FnOk X.prog X.w X.K X.mg X.base CX k f fd ps sp) (hr : Room (k + 1) X.A) (hb : Binds X.K fd ps [])
    (hx : PassesAt CX X σ (E σ)) (I : Inv X pins σ H s) (r : Vals vs us) (hst : ∀ (H' : Hp) (e : Value) (s' : Shared), True)
    (hCX : ∀ (H1 : Hp) (s1 : Shared) (e : Value) (s' : Shared), Inv X pins σ H1 s1 → CX X.stack H1 s1 (E σ) e s' → X.xe e s')
    (h : ∀ x dx, H x = none → H dx = none → dx ≠ x → sp (.ref x :: vs) (upd (upd H dx (.own x)) x (.ins C dx [])) (fun v H2 => v = .non ∧ Q (.ref x) H2) (E σ)) :
    wpAny (model X.prog X.w) X.A (call (.ref C) us) (EP X pins σ Q) X.xe s := by
  have hq := h (s.heap.objs.size + 1) s.heap.objs.size (I.hok.fresh (Nat.le_succ _)) (I.hok.fresh (Nat.le_refl _)) (Nat.ne_of_lt (Nat.lt_succ_self _))
  have I2 := Inv.made (C := C) I
  have r2 : Vals (V.ref (s.heap.objs.size + 1) :: vs) (Value.ref (s.heap.objs.size + 1) :: us) := .cons rfl r
  have hl : (Value.ref (s.heap.objs.size + 1) :: us).length = ps.length := by
    have e := r2.length
    rw [F.len _ _ _ _ hq] at e
    exact e.symm
  have b := hb _ (Value.ref (s.heap.objs.size + 1) :: us) I2.kIn (by rw [List.append_nil]; exact hl)
  rw [List.append_nil] at b
  refine wpAny_call (make_map (f := f) I.kIn M.makes M.init (beq_iff_eq.mp M.fn) (codeAny_mono (F.run _ X.stack _ _ ⟨Value.ref (s.heap.objs.size + 1) :: us, []⟩ (Value.ref (s.heap.objs.size + 1) :: us) _ _ (E σ) (hr.make C us [])
    (I2.env0.make C us []) b r2 hq) fun r s' hq' => ?_))
  cases r with
  | error e => exact hCX _ _ e s' I2 hq'
  | ok fl =>
    cases fl with
    | ret u =>
      obtain ⟨v, H', I3, rv, ev, q3⟩ := I2.after hq'
      subst ev
      exact ⟨rv, ⟨V.ref (s.heap.objs.size + 1), H', I3, rfl, q3⟩⟩
    | next => exact False.elim hq'
    | brk => exact False.elim hq'
    | cont => exact False.elim hq'
theorem pe_makeS (M : Mk X.K C f) (F : FnOk X.prog X.w X.K X.mg X.base CX k f fd ps sp) (hr : Room (k + 1) X.A) (hg : Gl X x) (hm : X.mg x = some (.ref C)) (hb : Binds X.K fd ps []) (hx : ∀ σ, PassesAt CX X σ (E σ))
    (ha : PA X (e :: es) t) (hdb : (x == ("__debug__" : Str)) = false) (he : starEach (e :: es) X.env = (false, eval e X.env) :: starEach es X.env) (hpl : (backTo pos (starEach es X.env)).any (·.1) = false) :
    PE X (.Call (.Name x p) (e :: es) [] pos) (tMakeS C sp E t) := by
  refine ⟨fun pins s σ H Q I h => ?_⟩
  refine wpAny_Call_Name_kw (ld_glob I hg hm ?_ hdb)
  refine PySem.W.callWith_K (h₀ := X.base) I.ok.mod.kin M.kp (thn (ha.run pos pins s σ H _ I h) fun us s1 ⟨vs, H1, I1, r, q⟩ => ⟨I1.kIn, ?_⟩) he hpl
  exact run_makeS M F hr hb (hx σ) I1 r (fun _ _ _ => trivial) (fun H1 s1 e s' I' c => hx σ pins H1 s1 e s' I' c) q
end
/-! ### the engine's rules -/
theorem FVr.vv {io : Io} {K : PySem.W.Frag} {H : Hp} {n : Nat} {u : V} {v : Vl} (h : FVr io K H n u v) : VV io K H u v := by
  cases v with
  | p d => exact h
  | r j => obtain ⟨_, b, e, q⟩ := h; exact ⟨b, e, q⟩
  | s _ => exact h.elim
/-- what the text's class must be in the row's written part -/
structure CK1 (K : PySem.W.Frag) (c : String) (fs ms : List String) : Prop where
  cls : Cls K (He.ga K (Str.ofString c))
  noF : ∀ f, f ∈ fs → NoAttr K (He.ga K (Str.ofString c)) (Str.ofString f)
  met : ∀ m, m ∈ ms → Meth K (He.ga K (Str.ofString c)) (Str.ofString m) (He.ma K (He.ga K (Str.ofString c)) (Str.ofString m))
  mks : Mk K (He.ga K (Str.ofString c)) (He.ma K (He.ga K (Str.ofString c)) "__init__")
section
variable {X : Cx} {W : WX} {c f m : String} {fs ms : List String} {o e a : Expr} {es : List Expr} {pos p apos : Pos} {fo fe fa : Sg → Mem → Rs Vl} {fl : Sg → Mem → Rs (List Vl)}
theorem fldOf_ok {io : Io} {H : Hp} {M : Mem} {x w : Vl} {u : V} (rm : RM io X.K H M) (r : VV io X.K H u x) (e : fldOf c f M x = some w) :
    ∃ i q dx fv n v cf, x = .r i ∧ u = .ref q ∧ io.ids[i]? = some q ∧ M[i]? = some (.ins c cf) ∧ H q = some (.ins (He.ga X.K (Str.ofString c)) dx fv) ∧ FVs io X.K H n fv cf ∧ fv.lookup (Str.ofString f) = some v ∧ VV io X.K H v w := by
  unfold fldOf at e
  cases x with
  | r i =>
    obtain ⟨q, rfl, hq⟩ := r
    dsimp only at e
    cases e2 : M[i]? with
    | none => rw [e2] at e; cases e
    | some mo =>
      rw [e2] at e
      cases mo with
      | ins c' cf =>
        dsimp only at e
        by_cases hc : c' = c
        · rw [if_pos hc] at e
          subst hc
          have e2' := e2
          obtain ⟨n, dx, fv, _, hH, hs⟩ := (show ∃ (n : Nat) (dx : Addr) (fv : List (Str × V)), io.ids[n]? = some q ∧ H q = some (.ins (He.ga X.K (Str.ofString c')) dx fv) ∧ FVs io X.K H n fv cf from rm.at_ i q _ hq e2)
          obtain ⟨v, ev, rv⟩ := hs.get e
          exact ⟨i, q, dx, fv, n, v, cf, rfl, rfl, hq, by first | exact e2 | rfl, hH, hs, ev, rv.vv⟩
        · rw [if_neg hc] at e
          cases e
      | _ => cases e
  | _ => cases e
theorem okE_fld (k : CK1 X.K c fs ms) (hf : f ∈ fs) (hn : NoK2 o) (ho : OkE X W o fo) : OkE X W (.Attribute o (Str.ofString f) pos) (fun s M => (fo s M).bind fun x M1 => Rs.of M1 (fldOf c f M1 x)) := by
  obtain ⟨to, po, so⟩ := ho
  refine ⟨_, pe_fld po (base2_of hn), fun io s H sg M Q rs rm hq => ?_⟩
  refine so io s H sg M _ rs rm (hq.seq fun x M1 io1 H1 u1 e1 g1 rm1 r1 hq1 => ?_)
  cases e4 : fldOf c f M1 x with
  | none => rw [e4] at hq1; exact hq1.elim
  | some w =>
    rw [e4] at hq1
    obtain ⟨i, q, dx, fv, n, v, cf, rfl, rfl, hi, hM, hH, hs, ev, rv⟩ := fldOf_ok (X := X) rm1 r1 e4
    exact ⟨q, _, dx, fv, v, rfl, hH, k.cls, k.noF f hf, ev, hq1.done rm1 rv⟩
theorem isIns_ok {io : Io} {H : Hp} {M : Mem} {x : Vl} {u : V} (rm : RM io X.K H M) (r : VV io X.K H u x) (e : isIns c m M x = true) : ∃ q dx fv, u = .ref q ∧ H q = some (.ins (He.ga X.K (Str.ofString c)) dx fv) ∧ fv.lookup (Str.ofString m) = none := by
  unfold isIns at e
  cases x with
  | r i =>
    obtain ⟨q, rfl, hq⟩ := r
    dsimp only at e
    cases e2 : M[i]? with
    | none => rw [e2] at e; cases e
    | some mo =>
      rw [e2] at e
      cases mo with
      | ins c' cf =>
        obtain ⟨h1, h2⟩ := Bool.and_eq_true_iff.mp e
        have hc : c' = c := of_decide_eq_true h1
        subst hc
        obtain ⟨n, dx, fv, _, hH, hs⟩ := (show ∃ (n : Nat) (dx : Addr) (fv : List (Str × V)), io.ids[n]? = some q ∧ H q = some (.ins (He.ga X.K (Str.ofString c')) dx fv) ∧ FVs io X.K H n fv cf from rm.at_ i q _ hq e2)
        exact ⟨q, dx, fv, rfl, hH, hs.none (Option.isNone_iff_eq_none.mp h2)⟩
      | _ => cases e
  | _ => cases e
theorem okE_meth {n j : Nat} {fd : FuncData} {ps : List Str} {F : List Vl → Mem → Rs Vl} (k : CK1 X.K c fs ms) (hm : m ∈ ms) (Fk : FnOk X.prog X.w X.K X.mg X.base (L2.CX X.prog X.w) n (He.ma X.K (He.ga X.K (Str.ofString c)) (Str.ofString m)) fd ps (spF X.K F (j + 1))) (hr : Room n X.A) (hb : Binds X.K fd ps [])
    (tk : Takes X W) (hn : NoK2 o) (hline : (apos.endLine == p.line) = true) (hp : AllP (e :: es)) (hz : (e :: es).length < 30) (ho : OkE X W o fo) (ha : OkA X W (e :: es) fl) (hl : ∀ g M vs M', fl g M = .ok vs M' → vs.length = j) :
    OkE X W (.Call (.Attribute o (Str.ofString m) apos) (e :: es) [] p) (fun s M => (fo s M).bind fun x M1 => if isIns c m M1 x then (fl s M1).bind fun vs M2 => F (x :: vs) M2 else .bad) := by
  obtain ⟨to, po, so⟩ := ho
  obtain ⟨t, pa, sa⟩ := ha
  refine ⟨_, pe_methS2 (E := WE W) po k.cls (k.met m hm) Fk hr hb (fun s => passAt tk s) pa (star_of hp.1) (any_of hp.2) (mtree hn hp hz hline), fun io s H sg M Q rs rm hq => ?_⟩
  refine so io s H sg M _ rs rm (hq.seq fun x M1 io1 H1 u1 e1 g1 rm1 r1 hq1 => ?_)
  by_cases hD : isIns c m M1 x = true
  case neg => rw [if_neg hD] at hq1; exact hq1.elim
  rw [if_pos hD] at hq1
  obtain ⟨q, dx, fv, rfl, hH, hno⟩ := isIns_ok (X := X) rm1 r1 hD
  refine ⟨q, dx, fv, rfl, hH, hno, sa io1 s H1 sg M1 _ (rs.mono g1) rm1 (hq1.seq fun vs M2 io2 H2 us e2 g2 rm2 r2 hq2 => ?_)⟩
  exact ⟨io2, x :: vs, M2, .cons (r1.mono g2) r2, rm2, by rw [List.length_cons, hl _ _ _ _ e2], hq2⟩
theorem okE_meth0 {n : Nat} {fd : FuncData} {ps : List Str} {F : List Vl → Mem → Rs Vl} (k : CK1 X.K c fs ms) (hm : m ∈ ms) (Fk : FnOk X.prog X.w X.K X.mg X.base (L2.CX X.prog X.w) n (He.ma X.K (He.ga X.K (Str.ofString c)) (Str.ofString m)) fd ps (spF X.K F 1)) (hr : Room n X.A) (hb : Binds X.K fd ps [])
    (tk : Takes X W) (hn : NoK2 o) (hline : (apos.endLine == p.line) = true) (ho : OkE X W o fo) :
    OkE X W (.Call (.Attribute o (Str.ofString m) apos) [] [] p) (fun s M => (fo s M).bind fun x M1 => if isIns c m M1 x then F [x] M1 else .bad) := by
  obtain ⟨to, po, so⟩ := ho
  refine ⟨_, pe_methS0 (E := WE W) po k.cls (k.met m hm) Fk hr hb (fun s => passAt tk s) (mtree hn trivial (by decide) hline), fun io s H sg M Q rs rm hq => ?_⟩
  refine so io s H sg M _ rs rm (hq.seq fun x M1 io1 H1 u1 e1 g1 rm1 r1 hq1 => ?_)
  by_cases hD : isIns c m M1 x = true
  case neg => rw [if_neg hD] at hq1; exact hq1.elim
  rw [if_pos hD] at hq1
  obtain ⟨q, dx, fv, rfl, hH, hno⟩ := isIns_ok (X := X) rm1 r1 hD
  exact ⟨q, dx, fv, rfl, hH, hno, io1, [x], M1, .cons r1 .nil, rm1, rfl, hq1⟩
/-! ### fields stored -/
theorem FVs.put {io : Io} {K : PySem.W.Frag} {H : Hp} {n : Nat} {g : Str} {u : V} {v : Vl} (q : FVr io K H n u v) : ∀ {us : List (Str × V)} {vs : List (Str × Vl)}, FVs io K H n us vs → FVs io K H n (putF g u us) (putN g v vs)
  | _, _, .nil => .cons q .nil
  | _, _, .cons (f := f) h hs => by
    unfold putF putN
    by_cases z : f = g
    · rw [if_pos z, if_pos z]; exact .cons q hs
    · rw [if_neg z, if_neg z]; exact .cons h (FVs.put q hs)
theorem setfOf_ok {io : Io} {H : Hp} {M M' : Mem} {x v : Vl} {u : V} {y : V} (rm : RM io X.K H M) (r : VV io X.K H u x) (ry : VV io X.K H y v) (e : setfOf c f x v M = some M') :
    ∃ q dx fv, u = .ref q ∧ H q = some (.ins (He.ga X.K (Str.ofString c)) dx fv) ∧ fv.length < 1000 ∧ Gr io H io (upd H q (.ins (He.ga X.K (Str.ofString c)) dx (putF (Str.ofString f) y fv))) ∧ RM io X.K (upd H q (.ins (He.ga X.K (Str.ofString c)) dx (putF (Str.ofString f) y fv))) M' := by
  unfold setfOf at e
  cases x with
  | r i =>
    cases v with
    | p d =>
      obtain ⟨q, rfl, hq⟩ := r
      dsimp only at e
      cases e2 : M[i]? with
      | none => rw [e2] at e; cases e
      | some mo =>
        rw [e2] at e
        cases mo with
        | ins c' cf =>
          dsimp only at e
          obtain ⟨⟨hc, hl⟩, rfl⟩ := ite_some e
          subst hc
          obtain ⟨n, dx, fv, hn, hH, hs⟩ := (show ∃ (n : Nat) (dx : Addr) (fv : List (Str × V)), io.ids[n]? = some q ∧ H q = some (.ins (He.ga X.K (Str.ofString c')) dx fv) ∧ FVs io X.K H n fv cf from rm.at_ i q _ hq e2)
          have gw : Gr io H io (upd H q (.ins (He.ga X.K (Str.ofString c')) dx (putF (Str.ofString f) y fv))) := Gr.write (List.mem_of_getElem? hq)
          refine ⟨q, dx, fv, rfl, hH, by rw [hs.length]; omega, gw, rm.writeO hq ⟨n, dx, _, hn, upd_same, ?_⟩⟩
          exact (hs.put (v := .p d) (show FVr io X.K H n y (.p d) from ry)).to (fun _ _ z => z.mono gw) fun _ _ _ z => z
        | _ => cases e
    | r _ => cases e
    | s _ => cases e
  | p _ => cases v <;> cases e
  | s _ => cases v <;> cases e
theorem okS_setf {pos' : Pos} (k : CK1 X.K c fs ms) (hf : f ∈ fs) (hn : NoC e) (ho : OkE X W o fo) (he : OkE X W e fe) : OkS X W (.Assign [.Attribute o (Str.ofString f) pos'] e pos)
    (fun g M => lift (fe g M) g fun v M1 => lift (fo g M1) g fun x M2 => (setfOf c f x v M2).map fun M3 => (.nx g, M3)) := by
  obtain ⟨to, po, so⟩ := ho
  obtain ⟨te, pe, se⟩ := he
  refine ⟨_, ps_fld po pe (sw_none hn), fun io s H g M D rs rm h => se io s H g M _ rs rm (SPost.lift rs h fun v M1 io1 H1 u1 e1 g1 rm1 r1 h1 => ?_)⟩
  refine so io1 s H1 g M1 _ (rs.mono g1) rm1 (SPost.lift (rs.mono g1) h1 fun x M2 io2 H2 u2 e2 g2 rm2 r2 h2 => ?_)
  cases e4 : setfOf c f x v M2 with
  | none => rw [e4] at h2; exact h2.elim
  | some M3 =>
    rw [e4] at h2
    obtain ⟨q, dx, fv, rfl, hH, hl, gw, rm3⟩ := setfOf_ok (X := X) rm2 r2 (r1.mono g2) e4
    exact ⟨q, _, dx, fv, rfl, hH, k.cls, k.noF f hf, hl, h2 io2 s _ gw rm3 (((rs.mono g1).mono g2).mono gw)⟩
theorem okS_augf {pos' : Pos} (k : CK1 X.K c fs ms) (hf : f ∈ fs) (ho : OkE X W o fo) (he : OkE X W e fe) : OkS X W (.AugAssign (.Attribute o (Str.ofString f) pos') .Add e pos)
    (fun g M => lift (fo g M) g fun x M1 => lift (Rs.of M1 (fldOf c f M1 x)) g fun w M1 => lift (fe g M1) g fun y M2 => (augfOf c f x w y M2).map fun M3 => (.nx g, M3)) := by
  obtain ⟨to, po, so⟩ := ho
  obtain ⟨te, pe, se⟩ := he
  refine ⟨_, ps_fldaug po pe in_add, fun io s H g M D rs rm h => so io s H g M _ rs rm (SPost.lift rs h fun x M1 io1 H1 u1 e1 g1 rm1 r1 h1 => ?_)⟩
  cases e4 : fldOf c f M1 x with
  | none => rw [e4] at h1; exact h1.elim
  | some w =>
    rw [e4] at h1
    have h1 : SPost X.K io1 H1 (lift (fe g M1) g fun y M2 => (augfOf c f x w y M2).map fun M3 => (.nx g, M3)) D W := h1
    obtain ⟨i, q, dx, fv, n, v, cf, rfl, rfl, hi, hM, hH, hs, ev, rv⟩ := fldOf_ok (X := X) rm1 r1 e4
    refine ⟨q, _, dx, fv, v, rfl, hH, k.cls, k.noF f hf, ev, se io1 s H1 g M1 _ (rs.mono g1) rm1 (SPost.lift (rs.mono g1) h1 fun y M2 io2 H2 u2 e2 g2 rm2 r2 h2 => ?_)⟩
    cases e5 : augfOf c f (.r i) w y M2 with
    | none => rw [e5] at h2; exact h2.elim
    | some M3 =>
      rw [e5] at h2
      unfold augfOf at e5
      split at e5
      · cases rv
        cases r2
        refine ⟨_, _, rfl, rfl, ?_⟩
        obtain ⟨q', dx', fv', eq', hH', hl', gw, rm3⟩ := setfOf_ok (X := X) rm2 (r1.mono g2) (show VV io2 X.K H2 (.int _) (.p (.int _)) from DV.int _) e5
        cases eq'
        exact ⟨dx', fv', hH', hl', h2 io2 s _ gw rm3 (((rs.mono g1).mono g2).mono gw)⟩
      · cases e5
end
/-! ### new instances -/
/-- what an __init__ leaves: the instance at x, not yet of the memory -/
def RI (K : PySem.W.Frag) (c : String) (x : Addr) : Io → Hp → Unit → List (Str × Vl) → Prop := fun io H _ fs =>
  x ∈ io.no ∧ x ∉ io.ids ∧ ∃ dx fv, H x = some (.ins (He.ga K (Str.ofString c)) dx fv) ∧ FVs io K H io.ids.length fv fs
theorem RS.over {io : Io} {K : PySem.W.Frag} {H : Hp} {s : L2.St} {g : Sg} {p : Addr} {o : HO} (h : RS io K H s g) (hp : p ∈ io.no) : RS io K (upd H p o) s g := by
  have st : ∀ a u, a ∉ io.no → H a = some u → upd H p o a = some u := fun a u n e => by rw [upd_ne (fun z => by subst z; exact n hp)]; exact e
  refine ⟨h.len, fun i v e => ?_⟩
  obtain ⟨u, e1, r⟩ := h.at_ i v e
  refine ⟨u, e1, ?_⟩
  cases v with
  | p d => exact DV.stay st r
  | r i => exact r
  | s ds =>
    obtain ⟨a, xs, rfl, q, hs⟩ := r
    refine ⟨a, xs, rfl, ?_, hs.stay st⟩
    rcases q with ⟨q | ⟨o, q⟩, n⟩ | q
    · exact .inl ⟨.inl (st _ _ n q), n⟩
    · exact .inl ⟨.inr ⟨o, st _ _ n q⟩, n⟩
    · exact .inr q
theorem FVs.over {io : Io} {K : PySem.W.Frag} {H : Hp} {n : Nat} {p : Addr} {o : HO} {us : List (Str × V)} {vs : List (Str × Vl)} (h : FVs io K H n us vs) (hp : p ∈ io.no) : FVs io K (upd H p o) n us vs :=
  h.to (fun _ _ r => r.stay fun a u n e => by rw [upd_ne (fun z => by subst z; exact n hp)]; exact e) fun _ _ _ q => q
/-- the statements of an __init__, behind what is made so far -/
def SIni (X : Cx) (W : WX) (c : String) (t : TS) (f : Sg → Mem → List (Str × Vl) → Rs (List (Str × Vl))) : Prop :=
  ∀ (ioB io : Io) (HB H : Hp) (s : L2.St) (g : Sg) (M : Mem) (fs : List (Str × Vl)) (x dx : Addr) (fv : List (Str × V)) (D : Ends), HB x = none → Gr ioB HB io H → RS io X.K H s g → RM io X.K H M → s[0]? = some (some (.ref x)) → x ∈ io.no → x ∉ io.ids →
    H x = some (.ins (He.ga X.K (Str.ofString c)) dx fv) → FVs io X.K H io.ids.length fv fs → Post X.K (RI X.K c x) ioB HB (f g M fs) (fun (_ : Unit) H' => D.nx s H') (fun cls d H' => W cls d s H') → t D s H
def OkIni (X : Cx) (W : WX) (c : String) (sts : List Stmt) (f : Sg → Mem → List (Str × Vl) → Rs (List (Str × Vl))) : Prop := ∃ t, PSs X sts t ∧ SIni X W c t f
section
variable {X : Cx} {W : WX} {c f : String} {fs ms : List String} {e : Expr} {es : List Expr} {sts : List Stmt} {pos p : Pos} {fe : Sg → Mem → Rs Vl} {fl : Sg → Mem → Rs (List Vl)} {fr : Sg → Mem → List (Str × Vl) → Rs (List (Str × Vl))}
theorem okI_nil : OkIni X W c [] (fun _ M fs => .ok fs M) := by
  refine ⟨_, pss_nil, fun ioB io HB H s g M fs x dx fv D hx gB rs rm h0 h1 h2 h3 h4 h => ?_⟩
  exact h io H () gB rm ⟨h1, h2, dx, fv, h3, h4⟩
/-- behind an expression -/
theorem Post.at {α β ν μ : Type} {K : PySem.W.Frag} {R : Io → Hp → ν → α → Prop} {R' : Io → Hp → μ → β → Prop} {ioB io : Io} {HB H : Hp} {r : Rs β} {k : β → Mem → Rs α} {Q : ν → Hp → Prop} {E : XK} {Q' : μ → Hp → Prop} (g : Gr ioB HB io H) (h : Post K R ioB HB (r.bind k) Q E)
    (hk : ∀ (b : β) (M1 : Mem) (io1 : Io) (H1 : Hp) (u : μ), r = .ok b M1 → Gr io H io1 H1 → RM io1 K H1 M1 → R' io1 H1 u b → Post K R ioB HB (k b M1) Q E → Q' u H1) : Post K R' io H r Q' E := by
  cases r with
  | bad => exact h
  | ok b M1 => exact fun io1 H1 u g1 rm ru => hk b M1 io1 H1 u rfl g1 rm ru h
  | exc c fs M => exact fun io1 H1 cls d g1 => h io1 H1 cls d (g.trans g1)
theorem okI_drop (hn : NoC e) (he : OkE X W e fe) (hr : OkIni X W c sts fr) : OkIni X W c (.Expr e pos :: sts) (fun g M fs => (fe g M).bind fun _ M1 => fr g M1 fs) := by
  obtain ⟨te, pe, se⟩ := he
  obtain ⟨t, pt, st⟩ := hr
  refine ⟨_, pss_cons (ps_expr pe (sw_none hn)) pt, fun ioB io HB H s g M fs x dx fv D hx gB rs rm h0 h1 h2 h3 h4 h => ?_⟩
  refine se io s H g M _ rs rm (Post.at gB h fun v M1 io1 H1 u e1 g1 rm1 r1 hp1 => ?_)
  exact st ioB io1 HB H1 s g M1 fs x dx fv D hx (gB.trans g1) (rs.mono g1) rm1 h0 (g1.mor _ h1) (g1.outi h3 h2) (g1.keep _ _ h3 h2) ((h4.to (fun _ _ r => r.mono g1) fun _ _ _ q => prefix_get g1.pre q).grow (by
    obtain ⟨t, ht⟩ := g1.pre
    rw [← ht, List.length_append]; omega)) hp1
theorem putF_new {g : Str} {u : V} : ∀ {us : List (Str × V)}, us.lookup g = none → putF g u us = us ++ [(g, u)]
  | [], _ => rfl
  | (k, y) :: r, h => by
    rw [List.lookup_cons] at h
    have hk : ¬ k = g := fun z => by
      subst z
      simp at h
    have h' : r.lookup g = none := by
      cases z : g == k with
      | true => rw [z] at h; cases h
      | false => rw [z] at h; exact h
    show (if k = g then (k, u) :: r else (k, y) :: putF g u r) = _
    rw [if_neg hk, putF_new h']
    rfl
theorem ids_le {io io1 : Io} {H H1 : Hp} (g : Gr io H io1 H1) : io.ids.length ≤ io1.ids.length := by
  obtain ⟨t, ht⟩ := g.pre
  rw [← ht, List.length_append]
  omega
theorem okI_fld {pos' ps : Pos} (k : CK1 X.K c fs ms) (hf : f ∈ fs) (h0 : X.N[0]? = some ("self" : Str)) (hv : Vis X.env.scope "self") (hn : NoC e) (he : OkE X W e fe) (hr : OkIni X W c sts fr) :
    OkIni X W c (.Assign [.Attribute (.Name "self" ps) (Str.ofString f) pos'] e pos :: sts) (fun g M fs => (fe g M).bind fun v M1 => (Rs.of M1 (plain v)).bind fun d M2 => (Rs.of M2 (addN (Str.ofString f) (.p d) fs)).bind fun fs M3 => fr g M3 fs) := by
  obtain ⟨te, pe, se⟩ := he
  obtain ⟨t, pt, st⟩ := hr
  refine ⟨_, pss_cons (ps_fld (pe_var (i := 0) h0 hv (by decide) (by decide)) pe (sw_none hn)) pt, fun ioB io HB H s g M fl x dx fv D hx gB rs rm a0 a1 a2 a3 a4 h => ?_⟩
  refine se io s H g M _ rs rm (Post.at gB h fun v M1 io1 H1 u e1 g1 rm1 r1 hp1 => ?_)
  have b1 := g1.mor _ a1
  have b2 := g1.outi a3 a2
  have b3 := g1.keep _ _ a3 a2
  have b4 : FVs io1 X.K H1 io1.ids.length fv fl := (a4.to (fun _ _ r => r.mono g1) fun _ _ _ q => prefix_get g1.pre q).grow (ids_le g1)
  cases v with
  | r _ => exact hp1.elim
  | s _ => exact hp1.elim
  | p d =>
    have hp1 : Post X.K (RI X.K c x) ioB HB ((Rs.of M1 (addN (Str.ofString f) (.p d) fl)).bind fun fs M3 => fr g M3 fs) (fun (_ : Unit) H' => D.nx s H') (fun cls d H' => W cls d s H') := hp1
    cases e5 : addN (Str.ofString f) (.p d) fl with
    | none => rw [e5] at hp1; exact hp1.elim
    | some fl' =>
      rw [e5] at hp1
      obtain ⟨⟨hn1, hn2⟩, rfl⟩ := ite_some (show (if (fl.lookup (Str.ofString f)).isNone ∧ fl.length < 900 then some (fl ++ [(Str.ofString f, Vl.p d)]) else none) = some fl' from e5)
      have hno := b4.none (Option.isNone_iff_eq_none.mp hn1)
      refine ⟨_, a0, x, _, dx, fv, rfl, b3, k.cls, k.noF f hf, by rw [b4.length]; omega, ?_⟩
      rw [putF_new hno]
      exact st ioB io1 HB _ s g M1 _ x dx _ D hx ((gB.trans g1).over hx) ((rs.mono g1).over b1) (rm1.over b1 b2) a0 b1 b2 upd_same ((b4.snoc (v := .p d) r1).over b1) hp1
theorem okI_new {pos' ps lp : Pos} (k : CK1 X.K c fs ms) (hf : f ∈ fs) (h0 : X.N[0]? = some ("self" : Str)) (hv : Vis X.env.scope "self") (ha : OkA X W es fl) (hz : es.length ≤ 1000) (hl : ∀ g M vs M', fl g M = .ok vs M' → vs.length = es.length) (hr : OkIni X W c sts fr) :
    OkIni X W c (.Assign [.Attribute (.Name "self" ps) (Str.ofString f) pos'] (.List es lp) pos :: sts) (fun g M fs => (fl g M).bind fun vs M1 => (Rs.of M1 (plains vs)).bind fun ds M2 => (Rs.of M2 (addN (Str.ofString f) (.r M2.length) fs)).bind fun fs M3 => fr g (M3 ++ [.lst ds]) fs) := by
  obtain ⟨te, pe, se⟩ := ha
  obtain ⟨t, pt, st⟩ := hr
  refine ⟨_, pss_cons (ps_fld (pe_var (i := 0) h0 hv (by decide) (by decide)) (pe_lst pe) (sw_none trivial)) pt, fun ioB io HB H s g M fl x dx fv D hx gB rs rm a0 a1 a2 a3 a4 h => ?_⟩
  refine se io s H g M _ rs rm (Post.at gB h fun vs M1 io1 H1 us e1 g1 rm1 r1 hp1 => ?_)
  have b1 := g1.mor _ a1
  have b2 := g1.outi a3 a2
  have b3 := g1.keep _ _ a3 a2
  have b4 : FVs io1 X.K H1 io1.ids.length fv fl := (a4.to (fun _ _ r => r.mono g1) fun _ _ _ q => prefix_get g1.pre q).grow (ids_le g1)
  cases e4 : plains vs with
  | none => rw [e4] at hp1; exact hp1.elim
  | some ds =>
    rw [e4] at hp1
    have hp1 : Post X.K (RI X.K c x) ioB HB ((Rs.of M1 (addN (Str.ofString f) (.r M1.length) fl)).bind fun fs M3 => fr g (M3 ++ [.lst ds]) fs) (fun (_ : Unit) H' => D.nx s H') (fun cls d H' => W cls d s H') := hp1
    cases e5 : addN (Str.ofString f) (.r M1.length) fl with
    | none => rw [e5] at hp1; exact hp1.elim
    | some fl' =>
      rw [e5] at hp1
      obtain ⟨⟨hn1, hn2⟩, rfl⟩ := ite_some (show (if (fl.lookup (Str.ofString f)).isNone ∧ fl.length < 900 then some (fl ++ [(Str.ofString f, Vl.r M1.length)]) else none) = some fl' from e5)
      have hno := b4.none (Option.isNone_iff_eq_none.mp hn1)
      have rd := r1.plain e4
      refine ⟨by rw [r1.length, hl _ _ _ _ e1, sizeLine_eq]; omega, fun q hq => ?_⟩
      have hqx : x ≠ q := fun z => by subst z; rw [b3] at hq; cases hq
      have gq := Gr.guard (io := io1) (o := .lst us) hq
      have rmq := rm1.guard (o := .lst us) hq
      have q1 : q ∈ (io1.guard q).no := List.mem_cons_self
      have q2 : q ∉ (io1.guard q).ids := fun z => rm1.fresh hq (io1.sub _ z)
      have g2 : Gr io1 H1 ((io1.guard q).take q q1) (upd H1 q (.lst us)) := gq.take q1 hq
      have rm2 := rmq.take q1 q2 upd_same (rd.mono gq)
      have c1 := g2.mor _ b1
      have c2 := g2.outi b3 b2
      have c3 : upd H1 q (.lst us) x = _ := g2.keep _ _ b3 b2
      have c4 : FVs ((io1.guard q).take q q1) X.K (upd H1 q (.lst us)) ((io1.guard q).take q q1).ids.length fv fl := (b4.to (fun _ _ r => r.mono g2) fun _ _ _ z => prefix_get g2.pre z).grow (ids_le g2)
      have el : ((io1.guard q).take q q1).ids.length = M1.length + 1 := by
        show (io1.ids ++ [q]).length = _
        rw [List.length_append, rm1.len]
        rfl
      refine ⟨_, a0, x, _, dx, fv, rfl, c3, k.cls, k.noF f hf, by rw [c4.length]; omega, ?_⟩
      rw [putF_new hno]
      refine st ioB _ HB _ s g _ _ x dx _ D hx (((gB.trans g1).trans g2).over hx) (((rs.mono g1).mono g2).over c1) (rm2.over c1 c2) a0 c1 c2 upd_same ((c4.snoc (v := .r M1.length) ?_).over c1) hp1
      refine ⟨by rw [el]; omega, q, rfl, ?_⟩
      show (io1.ids ++ [q])[M1.length]? = some q
      rw [← rm1.len, List.getElem?_append_right (Nat.le_refl _), Nat.sub_self]
      rfl
/-- what an __init__ promises -/
def spMk (K : PySem.W.Frag) (c : String) (f : List Vl → Mem → Rs (List (Str × Vl))) (k : Nat) : Sp := fun vs H Q E =>
  ∃ (x dx : Addr) (us : List V) (ioB io : Io) (HB : Hp) (as : List Vl) (M : Mem), vs = .ref x :: us ∧ HB x = none ∧ Gr ioB HB io H ∧ VVs io K H us as ∧ RM io K H M ∧ x ∈ io.no ∧ x ∉ io.ids ∧ H x = some (.ins (He.ga K (Str.ofString c)) dx []) ∧ as.length = k ∧
    Post K (RI K c x) ioB HB (f as M) (fun (_ : Unit) H' => Q .non H') E
theorem okE_mk {n j : Nat} {fd : FuncData} {ps : List Str} {F : List Vl → Mem → Rs (List (Str × Vl))} (k : CK1 X.K c fs ms) (Fk : FnOk X.prog X.w X.K X.mg X.base (L2.CX X.prog X.w) n (He.ma X.K (He.ga X.K (Str.ofString c)) "__init__") fd ps (spMk X.K c F j)) (hr : Room (n + 1) X.A) (hb : Binds X.K fd ps [])
    (tk : Takes X W) (hg : Gl X (Str.ofString c)) (hm : X.mg (Str.ofString c) = some (.ref (He.ga X.K (Str.ofString c)))) (hd : (Str.ofString c == ("__debug__" : Str)) = false) (hp : AllP (e :: es)) (ha : OkA X W (e :: es) fl) (hl : ∀ g M vs M', fl g M = .ok vs M' → vs.length = j) :
    OkE X W (.Call (.Name (Str.ofString c) p) (e :: es) [] pos) (fun s M => (fl s M).bind fun vs M1 => mkR c M1.length (F vs M1)) := by
  obtain ⟨t, pa, sa⟩ := ha
  refine ⟨_, pe_makeS (E := WE W) k.mks Fk hr hg hm hb (fun s => passAt tk s) pa hd (star_of hp.1) (any_of hp.2), fun io s H sg M Q rs rm hq => ?_⟩
  refine sa io s H sg M _ rs rm (hq.seq fun vs M1 io1 H1 us e1 g1 rm1 r1 hq1 => ?_)
  intro x dx hx hdx hne
  have hx' : upd H1 dx (.own x) x = none := by rw [upd_ne (Ne.symm hne)]; exact hx
  have gu : Gr io1 H1 io1 (upd H1 dx (.own x)) := Gr.upd hdx
  have gg : Gr io1 H1 (io1.guard x) (upd (upd H1 dx (.own x)) x (.ins (He.ga X.K (Str.ofString c)) dx [])) := gu.trans (Gr.guard hx')
  have rmg := (rm1.upd (o := .own x) hdx).guard (o := .ins (He.ga X.K (Str.ofString c)) dx []) hx'
  refine ⟨x, dx, us, io1, io1.guard x, H1, vs, M1, rfl, hx, gg, r1.mono gg, rmg, List.mem_cons_self, fun z => rm1.fresh hx (io1.sub _ z), upd_same, hl _ _ _ _ e1, ?_⟩
  have hL := rm1.len
  cases e4 : F vs M1 with
  | bad => rw [e4] at hq1; exact hq1
  | ok fs2 M2 =>
    rw [e4] at hq1
    intro io2 H2 _ g2 rm2 ⟨i1, i2, dx2, fv, i3, i4⟩
    refine ⟨rfl, ?_⟩
    refine hq1 (io2.take x i1) H2 _ (g2.take i1 hx) (rm2.takeM i1 i2 ⟨io2.ids.length, dx2, fv, ?_, i3, ?_⟩) ⟨x, rfl, ?_⟩
    · show (io2.ids ++ [x])[io2.ids.length]? = some x
      rw [List.getElem?_append_right (Nat.le_refl _), Nat.sub_self]
      rfl
    · exact FVs.to (io := io2) (io' := io2.take x i1) (H := H2) (H' := H2) (fun _ _ r => DV.less (io := io2) (io' := io2.take x i1) (fun _ z => z) r) (fun j b _ z => prefix_get (List.prefix_append io2.ids [x]) z) i4
    · show (io2.ids ++ [x])[M2.length]? = some x
      rw [← rm2.len, List.getElem?_append_right (Nat.le_refl _), Nat.sub_self]
      rfl
  | exc ec es2 M2 =>
    rw [e4] at hq1
    intro io2 H2 cls d g2 rm2 xr
    obtain ⟨ee, dd, fv, ed, hdd, nn, hf⟩ := xr
    exact hq1 (io2.cut M1.length none) H2 cls d (g2.cut rm1 hL) rm2.cut ⟨ee, dd, fv, ed, hdd, fun z => nn (Io.cut_less _ z), fun f v e => let ⟨u, e1, r⟩ := hf f v e; ⟨u, e1, DV.less Io.cut_less r⟩⟩
end
/-! ### lists of the memory, handed on as data -/
theorem fz_ok {io : Io} {K : PySem.W.Frag} {H : Hp} {M : Mem} (rm : RM io K H M) {u : V} {v : Vl} {d : D} (r : VV io K H u v) (e : fzV M v = some d) (io0 : Io) (h0 : io0.no = []) : DV io0 K H u d := by
  cases v with
  | p x => cases e; exact DV.less (io := io) (fun a z => by rw [h0] at z; cases z) r
  | s ds => cases e
  | r i =>
    obtain ⟨a, rfl, hi⟩ := r
    simp only [fzV] at e
    cases em : M[i]? with
    | none => rw [em] at e; cases e
    | some o =>
      rw [em] at e
      cases o with
      | lst ds =>
        cases e
        obtain ⟨xs, h1, hs⟩ := rm.at_ i a _ hi em
        exact .lst h1 (by rw [h0]; simp) (DVs.less (io := io) (fun a z => by rw [h0] at z; cases z) hs)
      | dic _ => cases e
      | dit _ => cases e
      | ins _ _ => cases e
theorem fzs_ok {io : Io} {K : PySem.W.Frag} {H : Hp} {M : Mem} (rm : RM io K H M) (io0 : Io) (h0 : io0.no = []) : ∀ {us : List V} {vs : List Vl} {ds : List D}, VVs io K H us vs → fzVs M vs = some ds → DVs io0 K H us ds
  | _, _, _, .nil, e => by cases e; exact .nil
  | _, _, _, .cons (v := v) r rs, e => by
    simp only [fzVs] at e
    cases e1 : fzV M v with
    | none => rw [e1] at e; cases e
    | some d =>
      rw [e1] at e
      obtain ⟨ds, e2, rfl⟩ := Option.map_eq_some_iff.mp e
      exact .cons (fz_ok rm r e1 io0 h0) (fzs_ok rm io0 h0 rs e2)
section
variable {X : Cx} {W : WX} {e : Expr} {es : List Expr} {fe : Sg → Mem → Rs Vl} {fs : Sg → Mem → Rs (List Vl)} {x : Str} {pos p lp : Pos}
theorem okE_callz {n : Nat} {f : Addr} {fd : FuncData} {ps : List Str} {F : List Vl → Mem → Rs Vl} (Fk : FnOk X.prog X.w X.K X.mg X.base (L2.CX X.prog X.w) n f fd ps (spF X.K F 2)) (hr : Room n X.A) (hg : Gl X x) (hm : X.mg x = some (.ref f))
    (hk : PySem.W.keepIn X.K (.ref f) = true) (hb : Binds X.K fd ps []) (tk : Takes X W) (hd : (x == ("__debug__" : Str)) = false) (hpl : Pln e) (he : OkE X W e fe) (hA : OkA X W es fs) (hz : es.length ≤ 1000) (hl : ∀ g M vs M', fs g M = .ok vs M' → vs.length = es.length) :
    OkE X W (.Call (.Name x p) [e, .List es lp] [] pos) (fun s M => (fe s M).bind fun v M1 => (fs s M1).bind fun vs M2 => Rs.of M2 (zOf F M2 v vs)) := by
  obtain ⟨te, pe, se⟩ := he
  obtain ⟨ta, pa, sa⟩ := hA
  refine ⟨_, pe_callS Fk hr hg hm hk hb (E := WE W) (fun s => passAt tk s) (pa_cons pe (pa_cons (pe_lst pa) pa_nil (star_of (show Pln (.List es lp) from trivial))) (star_of hpl)) hd (star_of hpl) (any_of ⟨trivial, trivial⟩), fun io s H sg M Q rs rm hp => ?_⟩
  refine se io s H sg M _ rs rm (hp.seq fun v M1 io1 H1 u1 e1 g1 rm1 r1 hp1 => ?_)
  refine sa io1 s H1 sg M1 _ (rs.mono g1) rm1 (hp1.seq fun vs M2 io2 H2 us e2 g2 rm2 r2 hp2 => ?_)
  refine ⟨by rw [r2.length, hl _ _ _ _ e2, sizeLine_eq]; omega, fun q hq => ?_⟩
  have r1 := r1.mono g2
  have gu : ∀ io : Io, Gr io H2 io (upd H2 q (.lst us)) := fun io => Gr.upd hq
  unfold zOf at hp2
  cases ex : fzV M2 v with
  | none => rw [ex] at hp2; exact hp2.elim
  | some d =>
    rw [ex] at hp2
    cases ey : fzVs M2 vs with
    | none => rw [ey] at hp2; exact hp2.elim
    | some ds =>
      rw [ey] at hp2
      have d1 := fz_ok rm2 r1 ex ⟨[], [], by simp⟩ rfl
      have d2 := fzs_ok rm2 ⟨[], [], by simp⟩ rfl r2 ey
      refine ⟨⟨[], [], by simp⟩, [.p d, .p (.list ds)], [], .cons (d1.mono (gu _)) (.cons (.lst upd_same (by simp) (d2.mono (gu _))) .nil), ⟨rfl, List.nodup_nil, fun i a o e _ => by simp at e, fun a z => by simp at z⟩, rfl, ?_⟩
      simp only [Option.bind_some] at hp2
      cases eF : F [.p d, .p (.list ds)] [] with
      | bad => rw [eF] at hp2; exact hp2.elim
      | exc c fs' M' => rw [eF] at hp2; exact hp2.elim
      | ok w M' =>
        rw [eF] at hp2
        cases M' with
        | cons _ _ => cases w with
          | p d => cases d <;> exact hp2.elim
          | r i => exact hp2.elim
          | s ds => exact hp2.elim
        | nil => cases w with
          | r i => exact hp2.elim
          | s ds => exact hp2.elim
          | p d => cases d with
            | bool b =>
              intro io' H' u g' _ ru
              have gk : ∀ a o, H2 a = some o → H' a = some o := fun a o h => g'.keep a o (by rw [upd_ne (ne_of_none h hq)]; exact h) (by simp)
              have gg : Gr io2 H2 io2 H' := ⟨List.prefix_refl _, fun _ h => h, fun _ h n => absurd h n, fun _ h n => absurd h n, fun a o h _ => gk a o h⟩
              refine hp2 io2 H' u gg ⟨rm2.len, rm2.nd, fun i a o e e' => ?_, fun a z => let ⟨o, h⟩ := rm2.all a z; ⟨o, gk a o h⟩⟩ (by cases ru; exact .bl b)
              obtain ⟨o', h'⟩ := rm2.all a (io2.sub a (List.mem_of_getElem? e))
              exact (rm2.at_ i a o e e').mono gg (by rw [h', gk a o' h'])
            | _ => exact hp2.elim
end
end Eg

/-! Engine, part K: the match of a text, its meaning shown. By an AI agent. -/
namespace Eg
open PySem PySem.Spec PyProof.Rows L2
/-- a class of the text: its fields, its methods, its __init__ with its slots -/
structure Cd where
  name : String
  fields : List String
  meths : List String
  N : List Str
  dd : He.DefD
def plainArgs (a : Arguments) : Option (List Arg) := match a with
  | ⟨[], args, none, [], [], none, []⟩ => some args
  | _ => none
theorem plainArgs_of {a : Arguments} {args : List Arg} (h : plainArgs a = some args) : a = ⟨[], args, none, [], [], none, []⟩ := by
  unfold plainArgs at h
  split at h
  · cases h; rfl
  · cases h
/-- what is known where the code stands -/
structure Ck where
  N : List Str
  sc : Scope
  fn : Str → Bool
  frees : List Str
  cons : List (Str × D)
  defs : List Df
  xs : List Xd := []
  ts : List String := []
  cs : List Cd := []
  ms : List String := []
def Ck.blk (k : Ck) (scope : Scope) : Ck := { k with sc := relS scope k.sc, fn := fun x => scope.names.lookup x == some .cell }
/-- what is known of a class of exceptions -/
structure XOk (X : Cx) (ts : List String) (x : Xd) : Prop where
  k1 : XK1 ts X.K x
  two : 1 ≤ x.fields.length ∧ x.fields.length ≤ 2
  nd : (x.fields.map Str.ofString).Nodup
  fn : ∃ fd, FnOk X.prog X.w X.K X.mg X.base (L2.CX X.prog X.w) 1 (xI X.K x) fd (("self" : Str) :: x.F) (spI X.K x.F) ∧ Binds X.K fd (("self" : Str) :: x.F) []
  at_ : X.mg x.S = some (.ref (He.ga X.K x.S))
/-- .. of a class of the text -/
structure COk (X : Cx) (c : Cd) : Prop where
  k1 : CK1 X.K c.name c.fields c.meths
  at_ : X.mg (Str.ofString c.name) = some (.ref (He.ga X.K (Str.ofString c.name)))
  ini : ∃ args fd, plainArgs c.dd.params = some args ∧ c.N[0]? = some ("self" : Str) ∧ c.dd.scope.names.lookup ("self" : Str) = some .local ∧ FnScope c.N (args.map (·.arg)) c.dd.scope ∧ FunD X.K c.dd.name c.dd.qual c.dd.params c.dd.body c.dd.scope [] [] (He.ma X.K (He.ga X.K (Str.ofString c.name)) "__init__") fd ∧ Binds X.K fd (args.map (·.arg)) []
structure GX (wh : Wh) (n : Nat) (k : Ck) (X : Cx) (W : WX) : Prop where
  hN : X.N = k.N
  sc : X.env.scope = k.sc
  fn : X.fn = k.fn
  nd : X.N.Nodup
  calm : X.calm = true
  room : Room (3 * n + 2) X.A
  big : k.cs = [] ∨ Room (3 * n + 4) X.A
  tk : Takes X W
  free : ∀ x, x ∈ k.frees → X.mg x = none
  con : ∀ x d, (x, d) ∈ k.cons → ConstOk X.K X.mg x d
  fns : ∀ f d, f ∉ k.ms → findD k.defs f = some d → ∃ a fd ps, FnOk X.prog X.w X.K X.mg X.base (L2.CX X.prog X.w) (3 * n + 2) a fd ps (spF X.K (callF wh k.defs n f) d.np) ∧ X.mg (Str.ofString f) = some (.ref a) ∧ PySem.W.keepIn X.K (.ref a) = true ∧ Binds X.K fd ps []
  exc : ∀ x, x ∈ k.xs → XOk X k.ts x
  exm : ∀ t, t ∈ k.ts → X.mg (Str.ofString t) = some (.ref (He.ga X.K (Str.ofString t)))
  cls : ∀ c, c ∈ k.cs → COk X c
  mth : ∀ c, c ∈ k.cs → ∀ m, m ∈ c.meths → ∀ d, findD k.defs (c.name ++ "." ++ m) = some d → ∃ fd ps, FnOk X.prog X.w X.K X.mg X.base (L2.CX X.prog X.w) (3 * n + 2) (He.ma X.K (He.ga X.K (Str.ofString c.name)) (Str.ofString m)) fd ps (spF X.K (callF wh k.defs n (c.name ++ "." ++ m)) d.np) ∧ Binds X.K fd ps []
theorem GX.blk {wh : Wh} {n : Nat} {k : Ck} {X : Cx} {W : WX} (g : GX wh n k X W) (scope : Scope) (s : Shared) (H : Hp) (C : Addr) (cl : List (Str × Addr)) (fp : List Addr) : GX wh n (k.blk scope) (X.blk s H scope (compEnvC scope cl C X.env) fp) Wno :=
  ⟨g.hN, by show relS scope X.env.scope = _; rw [g.sc]; rfl, rfl, g.nd, g.calm, g.room, g.big, fun u s' ⟨_, _, _, _, _, _, _, _, _, _, _, _, _, _, _, _, w⟩ => w.elim, g.free, g.con, g.fns, fun x hx => let e := g.exc x hx; ⟨e.k1, e.two, e.nd, e.fn, e.at_⟩, g.exm, fun c hc => let e := g.cls c hc; ⟨e.k1, e.at_, e.ini⟩, g.mth⟩

/-! ### small matches -/
def plnB : Expr → Bool
  | .Starred _ _ => false
  | .Set _ _ _ => false
  | _ => true
theorem pln_of {e : Expr} (h : plnB e = true) : Pln e := by
  cases e <;> first | trivial | cases h
def noK : Expr → Bool
  | .Call _ _ _ _ => false
  | _ => true
theorem noK_of {e : Expr} (h : noK e = true) : NoK e := by
  cases e <;> first | trivial | cases h
def noK2 : Expr → Bool
  | .Call _ [] _ _ => false
  | _ => true
theorem noK2_of {e : Expr} (h : noK2 e = true) : NoK2 e := by
  cases e with
  | Call f as ks p => cases as with
    | nil => cases h
    | cons a as => trivial
  | _ => trivial
/-- the inner view of a class's __init__ -/
def Cd.ck (c : Cd) (k : Ck) : Ck := { k with N := c.N, sc := c.dd.scope, fn := fun _ => true, cs := [] }
def noC : Expr → Bool
  | .ListComp _ _ _ _ => false
  | .SetComp _ _ _ _ => false
  | .DictComp _ _ _ _ _ => false
  | _ => true
theorem noC_of {e : Expr} (h : noC e = true) : NoC e := by
  cases e <;> first | trivial | cases h
def noSl : Expr → Bool
  | .Slice _ _ _ _ => false
  | _ => true
theorem plainIx_of {e : Expr} (h : noSl e = true) : PlainIx e := by
  cases e <;> first | (intro _ _; rfl) | cases h
def opB : BOp → Operator → Bool
  | .add, .Add => true
  | .sub, .Sub => true
  | .mul, .Mult => true
  | .fdiv, .FloorDiv => true
  | .mod, .Mod => true
  | .pow, .Pow => true
  | _, _ => false
theorem op_of {o : BOp} {p : Operator} (h : opB o p = true) : p = bopOf o := by
  cases o <;> cases p <;> first | rfl | cases h
def copB : COp → CmpOp → Bool
  | .lt, .Lt => true
  | .le, .LtE => true
  | .gt, .Gt => true
  | .ge, .GtE => true
  | .eq, .Eq => true
  | .ne, .NotEq => true
  | .isin, .In => true
  | .notin, .NotIn => true
  | .is_, .Is => true
  | .isn, .IsNot => true
  | _, _ => false
theorem cop_of {o : COp} {p : CmpOp} (h : copB o p = true) : p = copOf o := by
  cases o <;> cases p <;> first | rfl | cases h
def Ck.gl (k : Ck) (x : Str) : Bool := decide (k.sc.names.lookup x = some .globalImplicit)
def Ck.vis (k : Ck) (x : Str) : Bool := match k.sc.names.lookup x with
  | some .local => true
  | some .cell => true
  | some .free => true
  | _ => false
def Ck.bu (k : Ck) (x y : Str) : Bool := decide (x = y) && (k.gl x && decide (x ∈ k.frees))
def Ck.tn (k : Ck) (i : Nat) (x : Str) : Bool := decide (k.N[i]? = some x) && match k.sc.names.lookup x with
  | some .local => true
  | some .cell => k.fn x
  | _ => false
def Ck.tns (k : Ck) : List Nat → List Expr → Bool
  | [], [] => true
  | i :: is, .Name x _ :: es => k.tn i x && k.tns is es
  | _, _ => false
def Ck.tg (k : Ck) : Tg → Expr → Bool
  | .nm i, .Name x _ => k.tn i x
  | .tp is, .Tuple es _ _ => k.tns is es
  | _, _ => false
theorem tg_pr {k : Ck} {t : Tg} {e : Expr} (h : k.tg t e = true) (hp : isTp e) : ∃ is, t = .tp is := by
  cases t with
  | nm i => cases e <;> first | cases h | exact hp.elim
  | tp is => exact ⟨is, rfl⟩
theorem ab {a b : Bool} (h : (a && b) = true) : a = true ∧ b = true := Bool.and_eq_true_iff.mp h
section
variable {wh : Wh} {n : Nat} {k : Ck} {X : Cx} {W : WX}
theorem GX.hu (g : GX wh n k X W) : X.A.units + 65 < cLine := by
  have := g.room.un
  omega
theorem GX.gl_of (g : GX wh n k X W) {x : Str} (h : k.gl x = true) : Gl X x := by
  show X.env.scope.names.lookup x = _
  rw [g.sc]
  exact of_decide_eq_true h
theorem GX.vis_of (g : GX wh n k X W) {x : Str} (h : k.vis x = true) : Vis X.env.scope x := by
  unfold Vis
  rw [g.sc]
  unfold Ck.vis at h
  split at h
  · exact .inl (by assumption)
  · exact .inr (.inl (by assumption))
  · exact .inr (.inr (by assumption))
  · cases h
theorem GX.bu_of (g : GX wh n k X W) {x y : Str} (h : k.bu x y = true) : x = y ∧ Gl X y ∧ X.mg y = none := by
  obtain ⟨h1, h2⟩ := ab h
  obtain ⟨h2, h3⟩ := ab h2
  have e : x = y := of_decide_eq_true h1
  subst e
  exact ⟨rfl, g.gl_of h2, g.free _ (of_decide_eq_true h3)⟩
theorem GX.tn_of (g : GX wh n k X W) {i : Nat} {x : Str} (h : k.tn i x = true) : TnOk X i x := by
  obtain ⟨h1, h2⟩ := ab h
  refine ⟨by rw [g.hN]; exact of_decide_eq_true h1, ?_⟩
  unfold L2.Loc
  rw [g.sc, g.fn]
  split at h2
  · rename_i e
    exact ⟨.inl e, .inr e⟩
  · rename_i e
    exact ⟨.inr e, .inl h2⟩
  · cases h2
theorem GX.tns_of (g : GX wh n k X W) : ∀ {is : List Nat} {es : List Expr}, k.tns is es = true → TgsOk X is es
  | [], [], _ => trivial
  | i :: is, e :: es, h => by
    cases e <;> first | cases h | skip
    rename_i x p
    obtain ⟨h1, h2⟩ := ab h
    exact ⟨⟨x, p, rfl, g.tn_of h1⟩, g.tns_of h2⟩
  | [], _ :: _, h => by cases h
  | _ :: _, [], h => by cases h
theorem GX.tg_of (g : GX wh n k X W) {t : Tg} {e : Expr} (h : k.tg t e = true) : TgOk X t e := by
  cases t with
  | nm i => cases e <;> first | cases h | exact ⟨_, _, rfl, g.tn_of h⟩
  | tp is => cases e <;> first | cases h | exact ⟨_, _, _, rfl, g.tns_of h⟩
end
/-! ### expressions -/
def ownP (N : List Str) (own : List Nat) : List (Str × Nat) := own.map fun i => (N.getD i "", i)
theorem ownP_snd (N : List Str) (own : List Nat) : (ownP N own).map (·.2) = own := by
  unfold ownP
  rw [List.map_map]
  exact List.map_id _
def isTup : Expr → Bool
  | .Tuple _ _ _ => true
  | _ => false
theorem tup_of {e : Expr} (h : isTup e = true) : ∃ es k p, e = .Tuple es k p := by
  cases e <;> first | exact ⟨_, _, _, rfl⟩ | cases h
def exsLen : Exs → Nat
  | .nil => 0
  | .cons _ es => exsLen es + 1
def findC : List Cd → String → Option Cd
  | [], _ => none
  | c :: cs, x => if c.name = x then some c else findC cs x
theorem findC_ok : ∀ {cs : List Cd} {x : String} {c : Cd}, findC cs x = some c → c ∈ cs ∧ c.name = x
  | [], _, _, h => by cases h
  | d :: cs, x, c, h => by
    unfold findC at h
    by_cases e : d.name = x
    · rw [if_pos e] at h; cases h; exact ⟨List.mem_cons_self, e⟩
    · rw [if_neg e] at h
      obtain ⟨h1, h2⟩ := findC_ok h
      exact ⟨List.mem_cons_of_mem _ h1, h2⟩
mutual
def ckE (k : Ck) : Ex → Expr → Bool
  | .var i, e => match e with
    | .Name x _ => decide (k.N[i]? = some x) && (k.vis x && (!(x == ("__debug__" : Str)) && !(x == ("__classdict__" : Str))))
    | _ => false
  | .con d, e => match e with
    | .Constant c _ _ => conOf d c
    | _ => false
  | .gcon x d, e => match e with
    | .Name y _ => k.gl y && (decide (y = Str.ofString x) && (!(y == ("__debug__" : Str)) && decide ((y, d) ∈ k.cons)))
    | _ => false
  | .bin o a b, e => match e with
    | .BinOp l op r _ => opB o op && (ckE k a l && ckE k b r)
    | _ => false
  | .neg a, e => match e with
    | .UnaryOp .USub x _ => ckE k a x
    | _ => false
  | .not a, e => match e with
    | .UnaryOp .Not x _ => ckE k a x
    | _ => false
  | .cmp o a b, e => match e with
    | .Compare l [op] [r] _ => copB o op && (plnB r && (ckE k a l && ckE k b r))
    | _ => false
  | .cmp2 o o' a b c, e => match e with
    | .Compare l [op, op'] [r, r'] _ => copB o op && (copB o' op' && (plnB r && (plnB r' && (ckE k a l && (ckE k b r && ckE k c r')))))
    | _ => false
  | .cmp3 o o' o2 a b c d, e => match e with
    | .Compare l [op, op', op2] [r, r', r2] _ => copB o op && (copB o' op' && (copB o2 op2 && (plnB r && (plnB r' && (plnB r2 && (ckE k a l && (ckE k b r && (ckE k c r' && ckE k d r2))))))))
    | _ => false
  | .and es, e => match e with
    | .BoolOp .And vs _ => !vs.isEmpty && ckEs k es vs
    | _ => false
  | .or es, e => match e with
    | .BoolOp .Or vs _ => !vs.isEmpty && ckEs k es vs
    | _ => false
  | .ite c a b, e => match e with
    | .IfExp t x y _ => ckE k c t && (ckE k a x && ckE k b y)
    | _ => false
  | .tup es, e => match e with
    | .Tuple xs _ _ => decide (xs.length ≤ 1000) && ckEs k es xs
    | _ => false
  | .lst es, e => match e with
    | .List xs _ => decide (xs.length ≤ 1000) && ckEs k es xs
    | _ => false
  | .ix a i, e => match e with
    | .Subscript x y _ => noSl y && (ckE k a x && ckE k i y)
    | _ => false
  | .sl a lo hi, e => match e with
    | .Subscript x (.Slice l h none _) _ => ckE k a x && (ckO k lo l && ckO k hi h)
    | _ => false
  | .rev a, e => match e with
    | .Subscript x (.Slice none none (some (.UnaryOp .USub (.Constant (.int 1) _ _) _)) _) _ => ckE k a x
    | _ => false
  | .bi b a, e => match e with
    | .Call (.Name f _) [x] [] _ => k.bu f (biName b) && (plnB x && ckE k a x)
    | _ => false
  | .isi a t, e => match e with
    | .Call (.Name f _) [x, .Name ty _] [] _ => decide (t ≠ .none) && (k.bu f "isinstance" && (k.bu ty (Str.ofString (tyName t)) && (plnB x && ckE k a x)))
    | _ => false
  | .rngl tupl es, e => match e with
    | .Call (.Name f _) [.Call (.Name r _) xs [] _] [] _ => k.bu f (if tupl then "tuple" else "list") && (k.bu r "range" && (decide (xs.length = 1 ∨ xs.length = 2) && ckEs k es xs))
    | _ => false
  | .lc elt tg it ifs own, e => match e with
    | .ListComp x [⟨t, i, fs, 0⟩] scope _ => ckI k it t i && (plnB i && (blkC k.N k.sc scope (ownP k.N own) && (((k.blk scope).tg tg t && (tgSlots tg).all fun i => decide (i ∈ own)) && (decide (fs.length ≤ 1) && (ckEs (k.blk scope) ifs fs && ckE (k.blk scope) elt x)))))
    | _ => false
  | .call f es, e => match e with
    | .Call (.Name g _) (x :: xs) [] _ => k.gl g && (decide (g = Str.ofString f) && (decide (f ∉ k.ms) && (!(g == ("__debug__" : Str)) && ((match findD k.defs f with
      | some d => decide (d.np = (x :: xs).length)
      | none => false) && ckEs k es (x :: xs)))))
    | _ => false
  | .pop o es, e => match e with
    | .Call (.Attribute x m ap) xs [] p => decide (m = "pop") && (noK x && ((ap.endLine == p.line) && (decide (xs.length ≤ 1) && (ckE k o x && ckEs k es xs))))
    | _ => false
  | .srt a, e => match e with
    | .Call (.Name f _) [x] [] _ => k.bu f "sorted" && (plnB x && ckE k a x)
    | _ => false
  | .mm2 c a b, e => match e with
    | .Call (.Name f _) [x, y] [] _ => k.bu f (mmName c) && (plnB x && (plnB y && (ckE k a x && ckE k b y)))
    | _ => false
  | .idx o v, e => match e with
    | .Call (.Attribute x m ap) [y] [] p => decide (m = "index") && (noK x && ((ap.endLine == p.line) && (plnB y && (ckE k o x && ckE k v y))))
    | _ => false
  | .srs a, e => match e with
    | .Call (.Name f _) [.Call (.Name r _) [x] [] _] [] _ => k.bu f "sorted" && (k.bu r "set" && (plnB x && ckE k a x))
    | _ => false
  | .dgi ps key, e => match e with
    | .Subscript (.Dict ks vs _) i _ => noSl i && (decide (ks ≠ []) && (decide (ks.length ≤ 15) && (ckP k ps ks vs && ckE k key i)))
    | _ => false
  | .dgt ps key d, e => match e with
    | .Call (.Attribute (.Dict ks vs _) m ap) [y, z] [] p => decide (m = "get") && ((ap.endLine == p.line) && (plnB y && (plnB z && (decide (ks ≠ []) && (decide (ks.length ≤ 15) && (ckP k ps ks vs && (ckE k key y && ckE k d z)))))))
    | _ => false
  | .dx o key, e => match e with
    | .Subscript x y _ => noSl y && (ckE k o x && ckE k key y)
    | _ => false
  | .dg o key d, e => match e with
    | .Call (.Attribute x m ap) [y, z] [] p => decide (m = "get") && (noK x && ((ap.endLine == p.line) && (plnB y && (plnB z && (ckE k o x && (ckE k key y && ckE k d z))))))
    | _ => false
  | .srk a, e => match e with
    | .Call (.Name f _) [x] [⟨some kw, .Name l _, _⟩] _ => decide (kw = "key") && (k.bu f "sorted" && (k.bu l "len" && (plnB x && ckE k a x)))
    | _ => false
  | .cnt o v, e => match e with
    | .Call (.Attribute x m ap) [y] [] p => decide (m = "count") && (noK x && ((ap.endLine == p.line) && (plnB y && (ckE k o x && ckE k v y))))
    | _ => false
  | .ldc kx vx tg it ifs own, e => match e with
    | .Call (.Name f _) [.DictComp ka va [⟨t, i, fs, 0⟩] scope _] [] _ => k.bu f "len" && (ckI k it t i && (plnB i && (blkC k.N k.sc scope (ownP k.N own) && (((k.blk scope).tg tg t && (tgSlots tg).all fun i => decide (i ∈ own)) && (decide (fs.length ≤ 1) && (ckEs (k.blk scope) ifs fs && (ckE (k.blk scope) kx ka && ckE (k.blk scope) vx va)))))))
    | _ => false
  | .lc2 elt tg it ifs own tg1 it1 ifs1 own1, e => match e with
    | .ListComp x [⟨t, i, fs, 0⟩, ⟨t1, i1, fs1, 0⟩] scope _ => ckI k it t i && (plnB i && (blkC k.N k.sc scope (ownP k.N own) && (((k.blk scope).tg tg t && (tgSlots tg).all fun i => decide (i ∈ own)) && (decide (fs.length ≤ 1) && (ckEs (k.blk scope) ifs fs && (ckE (k.blk scope) elt x &&
        ((own1.all fun i => decide (i ∈ own)) && (((k.blk scope).tg tg1 t1 && (tgSlots tg1).all fun i => decide (i ∈ own1)) && (plnB i1 && (decide (fs1.length ≤ 1) && (ckEs (k.blk scope) ifs1 fs1 && ckIr (k.blk scope) it1 i1)))))))))))
    | _ => false
  | .fld c o f, e => match e with
    | .Attribute x g _ => decide (g = Str.ofString f) && (noK2 x && ((match findC k.cs c with
      | some d => decide (f ∈ d.fields)
      | none => false) && ckE k o x))
    | _ => false
  | .meth c o m es, e => match e with
    | .Call (.Attribute x g ap) ys [] p => decide (g = Str.ofString m) && (noK2 x && ((ap.endLine == p.line) && (decide (ys.length < 30) && ((match findC k.cs c with
      | some d => decide (m ∈ d.meths)
      | none => false) && ((match findD k.defs (c ++ "." ++ m) with
      | some d => decide (d.np = ys.length + 1)
      | none => false) && (ckE k o x && ckEs k es ys))))))
    | _ => false
  | .mk c ns ini es, e => match e with
    | .Call (.Name g _) (x :: xs) [] _ => k.gl g && (decide (g = Str.ofString c) && (!(g == ("__debug__" : Str)) && ((match findC k.cs c with
      | some d => decide (d.N.length = ns) && ((match plainArgs d.dd.params with
        | some args => decide (args.length = xs.length + 2)
        | none => false) && ckIni (d.ck k) d.fields ini d.dd.body)
      | none => false) && ckEs k es (x :: xs))))
    | _ => false
  | .callz f e1 es, e => match e with
    | .Call (.Name g _) [x, .List ys _] [] _ => k.gl g && (decide (g = Str.ofString f) && (decide (f ∉ k.ms) && (!(g == ("__debug__" : Str)) && ((match findD k.defs f with
      | some d => decide (d.np = 2)
      | none => false) && (plnB x && (decide (ys.length ≤ 1000) && (ckE k e1 x && ckEs k es ys)))))))
    | _ => false
  | .join sep l, e => match e with
    | .Call (.Attribute x m ap) [y] [] p => decide (m = "join") && (noK x && ((ap.endLine == p.line) && (plnB y && (ckE k sep x && ckE k l y))))
    | _ => false
def ckIni (k : Ck) (fs : List String) : Inis → List Stmt → Bool
  | .nil, sts => sts.isEmpty
  | .drop e r, sts => match sts with
    | .Expr v _ :: sts => noC v && (ckE k e v && ckIni k fs r sts)
    | _ => false
  | .fld f e r, sts => match sts with
    | .Assign [.Attribute (.Name y _) g _] v _ :: sts => decide (y = "self") && (decide (g = Str.ofString f) && (decide (f ∈ fs) && (noC v && (ckE k e v && ckIni k fs r sts))))
    | _ => false
  | .new f es r, sts => match sts with
    | .Assign [.Attribute (.Name y _) g _] (.List xs _) _ :: sts => decide (y = "self") && (decide (g = Str.ofString f) && (decide (f ∈ fs) && (decide (xs.length ≤ 1000) && (ckEs k es xs && ckIni k fs r sts))))
    | _ => false
def ckIr (k : Ck) : It → Expr → Bool
  | .rng es, x => match x with
    | .Call (.Name r _) xs [] _ => k.bu r "range" && (decide (xs.length = 1 ∨ xs.length = 2) && ckEs k es xs)
    | _ => false
  | _, _ => false
def ckP (k : Ck) : Pxs → List (Option Expr) → List Expr → Bool
  | .nil, ks, vs => ks.isEmpty && vs.isEmpty
  | .cons a b ps, ks, vs => match ks, vs with
    | some x :: ks, y :: vs => ckE k a x && (ckE k b y && ckP k ps ks vs)
    | _, _ => false
def ckEs (k : Ck) : Exs → List Expr → Bool
  | .nil, xs => xs.isEmpty
  | .cons e es, xs => match xs with
    | x :: xs => plnB x && (ckE k e x && ckEs k es xs)
    | [] => false
def ckO (k : Ck) : Ops → Option Expr → Bool
  | .non, x => x.isNone
  | .som e, x => match x with
    | some x => ckE k e x
    | none => false
def ckI (k : Ck) : It → Expr → Expr → Bool
  | .sq e, _, x => ckE k e x
  | .rng es, _, x => match x with
    | .Call (.Name r _) xs [] _ => k.bu r "range" && (decide (xs.length = 1 ∨ xs.length = 2) && ckEs k es xs)
    | _ => false
  | .enm e, tg, x => isTup tg && match x with
    | .Call (.Name r _) [y] [] _ => k.bu r "enumerate" && (plnB y && ckE k e y)
    | _ => false
  | .zip a b, tg, x => isTup tg && match x with
    | .Call (.Name r _) [y, z] [] _ => k.bu r "zip" && (plnB y && (plnB z && (ckE k a y && ckE k b z)))
    | _ => false
  | .rvd e, _, x => match x with
    | .Call (.Name r _) [y] [] _ => k.bu r "reversed" && (plnB y && ckE k e y)
    | _ => false
end
theorem OkE.congr {X : Cx} {W : WX} {x : Expr} {f f' : Sg → Mem → Rs Vl} (h : OkE X W x f) (e : ∀ g M, f' g M = f g M) : OkE X W x f' := by
  have : f' = f := funext fun g => funext fun M => e g M
  rw [this]
  exact h
theorem OkT.congr {X : Cx} {W : WX} {x : Expr} {f f' : Sg → Mem → Rs Bool} (h : OkT X W x f) (e : ∀ g M, f' g M = f g M) : OkT X W x f' := by
  have : f' = f := funext fun g => funext fun M => e g M
  rw [this]
  exact h
theorem evs_len (F : Fns) : ∀ {es : Exs} {g : Sg} {M M' : Mem} {vs : List Vl}, evs F es g M = .ok vs M' → vs.length = exsLen es
  | .nil, g, M, M', vs, h => by
    simp only [evs, Rs.ok.injEq] at h
    rw [← h.1]
    rfl
  | .cons e es, g, M, M', vs, h => by
    simp only [evs] at h
    obtain ⟨v, M1, _, h⟩ := bind_ok_of h
    obtain ⟨ws, M2, h2, h⟩ := bind_ok_of h
    simp only [Rs.ok.injEq] at h
    rw [← h.1, List.length_cons, evs_len F h2]
    rfl
theorem ckEs_len {k : Ck} : ∀ {es : Exs} {xs : List Expr}, ckEs k es xs = true → xs.length = exsLen es
  | .nil, xs, h => by
    simp only [ckEs, List.isEmpty_iff] at h
    rw [h]
    rfl
  | .cons e es, xs, h => by
    cases xs with
    | nil => simp [ckEs] at h
    | cons x xs =>
      simp only [ckEs] at h
      rw [List.length_cons, ckEs_len (ab (ab h).2).2]
      rfl
theorem ckEs_pln {k : Ck} : ∀ {es : Exs} {xs : List Expr}, ckEs k es xs = true → AllP xs
  | .nil, xs, h => by
    simp only [ckEs, List.isEmpty_iff] at h
    rw [h]
    trivial
  | .cons e es, xs, h => by
    cases xs with
    | nil => simp [ckEs] at h
    | cons x xs =>
      simp only [ckEs] at h
      exact ⟨pln_of (ab h).1, ckEs_pln (ab (ab h).2).2⟩
theorem notT {b : Bool} (h : (!b) = true) : b = false := by cases b <;> first | rfl | cases h
section
variable {wh : Wh} {n : Nat} {defs : List Df}
abbrev KF (wh : Wh) (k : Ck) (n : Nat) : Fns := callF wh k.defs n
abbrev TF (wh : Wh) (k : Ck) (n : Nat) (e : Ex) : Sg → Mem → Rs Bool := fun g M => evT (KF wh k n) e (ev (KF wh k n) e g M) g M
theorem dflT {X : Cx} {W : WX} {x : Expr} {e : Ex} {k : Ck} (d : Dfl x) (h : OkE X W x (ev (KF wh k n) e)) (hT : ∀ w g M, evT (KF wh k n) e w g M = w.bind fun x M1 => Rs.of M1 ((look M1 x).bind truth)) : OkE X W x (ev (KF wh k n) e) ∧ OkT X W x (TF wh k n e) :=
  ⟨h, (okT_dfl d h).congr fun g M => hT _ g M⟩
theorem rs_startI {io : Io} {K : PySem.W.Frag} {H : Hp} {N : List Str} {u : V} {vs : List V} {args : List Vl} (h : VVs io K H vs args) : RS io K H (L2.start N (u :: vs)) (startI N.length args) := by
  have hl := h.length
  unfold L2.start startI
  refine ⟨by simp [hl]; omega, fun i v e => ?_⟩
  cases i with
  | zero => cases e
  | succ i =>
    rw [List.getElem?_cons_succ] at e
    by_cases hi : i < args.length
    · rw [List.getElem?_append_left (by simpa using hi), List.getElem?_map] at e
      obtain ⟨w, e1, e2⟩ := Option.map_eq_some_iff.mp e
      cases e2
      obtain ⟨u, e3, r⟩ := h.get e1
      exact ⟨u, by rw [List.getElem?_append_left (by simpa [hl] using hi), List.getElem?_map, List.getElem?_cons_succ, e3]; rfl, r⟩
    · rw [List.getElem?_append_right (by simpa using Nat.le_of_not_lt hi), List.getElem?_replicate] at e
      split at e <;> cases e
theorem lc2_blk {k : Ck} {X : Cx} {W : WX} {t t1 i1 x : Expr} {fs fs1 : List Expr} {scope : Scope} {tg tg1 : Tg} {it1 : It} {ifs ifs1 : Exs} {elt : Ex} {own own1 : List Nat} (G : GX wh n k X W) (h3 : blkC k.N k.sc scope (ownP k.N own) = true)
    (h4 : ((k.blk scope).tg tg t && (tgSlots tg).all fun i => decide (i ∈ own)) = true) (h5 : decide (fs.length ≤ 1) = true) (h6 : ckEs (k.blk scope) ifs fs = true) (h7 : ckE (k.blk scope) elt x = true)
    (h8 : (own1.all fun i => decide (i ∈ own)) = true) (h9 : ((k.blk scope).tg tg1 t1 && (tgSlots tg1).all fun i => decide (i ∈ own1)) = true) (h10 : plnB i1 = true) (h11 : decide (fs1.length ≤ 1) = true) (h12 : ckEs (k.blk scope) ifs1 fs1 = true) (h13 : ckIr (k.blk scope) it1 i1 = true)
    (a1 : ∀ {X : Cx} {W : WX}, GX wh n (k.blk scope) X W → OkTs X W fs (evTs (KF wh k n) ifs)) (a2 : ∀ {X : Cx} {W : WX}, GX wh n (k.blk scope) X W → OkTs X W fs1 (evTs (KF wh k n) ifs1)) (a3 : ∀ {X : Cx} {W : WX}, GX wh n (k.blk scope) X W → OkE X W x (ev (KF wh k n) elt))
    (a4 : ∀ {X : Cx} {W : WX}, GX wh n (k.blk scope) X W → OkIr X W t1 i1 (evIt (KF wh k n) it1)) :
    Lc2Ok X tg tg1 t t1 i1 x fs fs1 scope (ownP k.N own) own1 (evTs (KF wh k n) ifs) (evIt (KF wh k n) it1) (evTs (KF wh k n) ifs1) (ev (KF wh k n) elt) := by
  obtain ⟨h4, h4'⟩ := ab h4
  obtain ⟨h9, h9'⟩ := ab h9
  have hblk : BlkOk X.N X.env.scope scope (ownP k.N own) := by rw [G.hN, G.sc]; exact blkOk_by h3
  have s1 : ∀ i ∈ own1, i ∈ (ownP k.N own).map (·.2) := fun i hi => by rw [ownP_snd]; exact of_decide_eq_true (List.all_eq_true.mp h8 i hi)
  have s2 : ∀ i ∈ tgSlots tg1, i ∈ own1 := fun i hi => of_decide_eq_true (List.all_eq_true.mp h9' i hi)
  exact ⟨⟨hblk, fun i hi => by rw [ownP_snd]; exact of_decide_eq_true (List.all_eq_true.mp h4' i hi), tg_pr h4, fun s H C cl fp => (G.blk scope s H C cl fp).tg_of h4, fun s H C cl fp => a1 (G.blk scope s H C cl fp), fun s H C cl fp => a3 (G.blk scope s H C cl fp)⟩,
    ⟨hblk, fun i hi => s1 i (s2 i hi), tg_pr h9, fun s H C cl fp => (G.blk scope s H C cl fp).tg_of h9, fun s H C cl fp => a2 (G.blk scope s H C cl fp), fun s H C cl fp => a3 (G.blk scope s H C cl fp)⟩, s1, s2, pln_of h10, fun s H C cl fp => a4 (G.blk scope s H C cl fp)⟩
mutual
theorem ckE_ok : ∀ (e : Ex) {k : Ck} {x : Expr} {X : Cx} {W : WX}, ckE k e x = true → GX wh n k X W → OkE X W x (ev (KF wh k n) e) ∧ OkT X W x (TF wh k n e)
  | .var i, k, x, X, W, h, G => by
    simp only [ckE] at h
    split at h
    · obtain ⟨h1, h⟩ := ab h
      obtain ⟨h2, h⟩ := ab h
      obtain ⟨h3, h4⟩ := ab h
      refine dflT (fun _ _ => rfl) ((okE_var (by rw [G.hN]; exact of_decide_eq_true h1) (G.vis_of h2) (notT h3) (notT h4)).congr fun g M => rfl) fun w g M => by simp only [evT]
    · cases h
  | .con d, k, x, X, W, h, G => by
    simp only [ckE] at h
    split at h
    · exact dflT (fun _ _ => rfl) ((okE_con h).congr fun g M => by simp only [ev]) fun w g M => by simp only [evT]
    · cases h
  | .gcon y d, k, x, X, W, h, G => by
    simp only [ckE] at h
    split at h
    · obtain ⟨h1, h⟩ := ab h
      obtain ⟨h2, h⟩ := ab h
      obtain ⟨h3, h4⟩ := ab h
      exact dflT (fun _ _ => rfl) ((okE_gcon (G.gl_of h1) (G.con _ _ (of_decide_eq_true h4)) (notT h3)).congr fun g M => by simp only [ev]) fun w g M => by simp only [evT]
    · cases h
  | .bin o a b, k, x, X, W, h, G => by
    simp only [ckE] at h
    split at h
    · obtain ⟨h1, h⟩ := ab h
      obtain ⟨h2, h3⟩ := ab h
      rw [op_of h1]
      exact dflT (fun _ _ => rfl) ((okE_bin (ckE_ok a h2 G).1 (ckE_ok b h3 G).1).congr fun g M => by simp only [ev]) fun w g M => by simp only [evT]
    · cases h
  | .neg a, k, x, X, W, h, G => by
    simp only [ckE] at h
    split at h
    · exact dflT (fun _ _ => rfl) ((okE_neg (ckE_ok a h G).1).congr fun g M => rfl) fun w g M => by simp only [evT]
    · cases h
  | .not a, k, x, X, W, h, G => by
    simp only [ckE] at h
    split at h
    · exact ⟨(okE_not (ckE_ok a h G).1).congr fun g M => by simp only [ev], (okT_not (ckE_ok a h G).2).congr fun g M => by simp only [evT]⟩
    · cases h
  | .cmp o a b, k, x, X, W, h, G => by
    simp only [ckE] at h
    split at h
    · obtain ⟨h1, h⟩ := ab h
      obtain ⟨h2, h⟩ := ab h
      obtain ⟨h3, h4⟩ := ab h
      rw [cop_of h1]
      exact ⟨(okE_cmp G.room (pln_of h2) (ckE_ok a h3 G).1 (ckE_ok b h4 G).1).congr fun g M => by simp only [ev], (okT_cmp G.room (pln_of h2) (ckE_ok a h3 G).1 (ckE_ok b h4 G).1).congr fun g M => by simp only [evT, ev]⟩
    · cases h
  | .cmp2 o o' a b c, k, x, X, W, h, G => by
    simp only [ckE] at h
    split at h
    · obtain ⟨h1, h⟩ := ab h
      obtain ⟨h2, h⟩ := ab h
      obtain ⟨h3, h⟩ := ab h
      obtain ⟨h4, h⟩ := ab h
      obtain ⟨h5, h⟩ := ab h
      obtain ⟨h6, h7⟩ := ab h
      rw [cop_of h1, cop_of h2]
      exact ⟨(okE_chain G.room (pln_of h3) (pln_of h4) (ckE_ok a h5 G).1 (ckE_ok b h6 G).1 (ckE_ok c h7 G).1).congr fun g M => by simp only [ev, fChain], (okT_chain G.room (pln_of h3) (pln_of h4) (ckE_ok a h5 G).1 (ckE_ok b h6 G).1 (ckE_ok c h7 G).1).congr fun g M => by simp only [evT, ev, fChain]⟩
    · cases h
  | .cmp3 o o' o2 a b c d, k, x, X, W, h, G => by
    simp only [ckE] at h
    split at h
    · obtain ⟨h1, h⟩ := ab h
      obtain ⟨h2, h⟩ := ab h
      obtain ⟨h3, h⟩ := ab h
      obtain ⟨h4, h⟩ := ab h
      obtain ⟨h5, h⟩ := ab h
      obtain ⟨h6, h⟩ := ab h
      obtain ⟨h7, h⟩ := ab h
      obtain ⟨h8, h⟩ := ab h
      obtain ⟨h9, h10⟩ := ab h
      rw [cop_of h1, cop_of h2, cop_of h3]
      exact ⟨(okE_chain3 G.room (pln_of h4) (pln_of h5) (pln_of h6) (ckE_ok a h7 G).1 (ckE_ok b h8 G).1 (ckE_ok c h9 G).1 (ckE_ok d h10 G).1).congr fun g M => by simp only [ev, fChain3], (okT_chain3 G.room (pln_of h4) (pln_of h5) (pln_of h6) (ckE_ok a h7 G).1 (ckE_ok b h8 G).1 (ckE_ok c h9 G).1 (ckE_ok d h10 G).1).congr fun g M => by simp only [evT, ev, fChain3]⟩
    · cases h
  | .and es, k, x, X, W, h, G => by
    simp only [ckE] at h
    split at h
    · obtain ⟨h1, h2⟩ := ab h
      obtain ⟨_, r1, _, r3, _⟩ := ckEs_ok es h2 G
      have hne := notT h1
      exact ⟨(r1 _ hne).congr fun g M => by simp only [ev], (r3 _ hne).t.congr fun g M => by simp only [evT]⟩
    · cases h
  | .or es, k, x, X, W, h, G => by
    simp only [ckE] at h
    split at h
    · obtain ⟨h1, h2⟩ := ab h
      obtain ⟨_, _, r2, _, r4, _⟩ := ckEs_ok es h2 G
      have hne := notT h1
      exact ⟨(r2 _ hne).congr fun g M => by simp only [ev], (r4 _ hne).t.congr fun g M => by simp only [evT]⟩
    · cases h
  | .ite c a b, k, x, X, W, h, G => by
    simp only [ckE] at h
    split at h
    · obtain ⟨h1, h⟩ := ab h
      obtain ⟨h2, h3⟩ := ab h
      exact ⟨(okE_ite (ckE_ok c h1 G).2 (ckE_ok a h2 G).1 (ckE_ok b h3 G).1).congr fun g M => by simp only [ev], (okT_ite (ckE_ok c h1 G).2 (ckE_ok a h2 G).2 (ckE_ok b h3 G).2).congr fun g M => by simp only [evT]⟩
    · cases h
  | .tup es, k, x, X, W, h, G => by
    simp only [ckE] at h
    split at h
    · obtain ⟨h1, h2⟩ := ab h
      exact dflT (fun _ _ => rfl) ((okE_tup (ckEs_ok es h2 G).1 (of_decide_eq_true h1) fun g M vs M' e => by rw [evs_len _ e, ckEs_len h2]).congr fun g M => by simp only [ev]) fun w g M => by simp only [evT]
    · cases h
  | .lst es, k, x, X, W, h, G => by
    simp only [ckE] at h
    split at h
    · obtain ⟨h1, h2⟩ := ab h
      exact dflT (fun _ _ => rfl) ((okE_lst (ckEs_ok es h2 G).1 (of_decide_eq_true h1) fun g M vs M' e => by rw [evs_len _ e, ckEs_len h2]).congr fun g M => by simp only [ev]) fun w g M => by simp only [evT]
    · cases h
  | .ix a i, k, x, X, W, h, G => by
    simp only [ckE] at h
    split at h
    · obtain ⟨h1, h⟩ := ab h
      obtain ⟨h2, h3⟩ := ab h
      exact dflT (fun _ _ => rfl) ((okE_ix (plainIx_of h1) (ckE_ok a h2 G).1 (ckE_ok i h3 G).1).congr fun g M => by simp only [ev]) fun w g M => by simp only [evT]
    · cases h
  | .sl a lo hi, k, x, X, W, h, G => by
    simp only [ckE] at h
    split at h
    · obtain ⟨h1, h⟩ := ab h
      obtain ⟨h2, h3⟩ := ab h
      exact dflT (fun _ _ => rfl) ((okE_sl (ckE_ok a h1 G).1 (ckO_ok lo h2 G) (ckO_ok hi h3 G)).congr fun g M => by simp only [ev]) fun w g M => by simp only [evT]
    · cases h
  | .rev a, k, x, X, W, h, G => by
    simp only [ckE] at h
    split at h
    · exact dflT (fun _ _ => rfl) ((okE_revL (ckE_ok a h G).1).congr fun g M => rfl) fun w g M => by simp only [evT]
    · cases h
  | .bi b a, k, x, X, W, h, G => by
    simp only [ckE] at h
    split at h
    · obtain ⟨h1, h⟩ := ab h
      obtain ⟨h2, h3⟩ := ab h
      obtain ⟨rfl, hg, hm⟩ := G.bu_of h1
      exact dflT (fun _ _ => rfl) ((okE_bi G.calm G.hu hg hm (pln_of h2) (ckE_ok a h3 G).1).congr fun g M => by simp only [ev]) fun w g M => by simp only [evT]
    · cases h
  | .isi a t, k, x, X, W, h, G => by
    simp only [ckE] at h
    split at h
    · obtain ⟨h0, h⟩ := ab h
      obtain ⟨h1, h⟩ := ab h
      obtain ⟨h2, h⟩ := ab h
      obtain ⟨h3, h4⟩ := ab h
      obtain ⟨rfl, hg, hm⟩ := G.bu_of h1
      obtain ⟨rfl, hg2, hm2⟩ := G.bu_of h2
      exact dflT (fun _ _ => rfl) ((okE_isi (of_decide_eq_true h0) hg hm hg2 hm2 (pln_of h3) (ckE_ok a h4 G).1).congr fun g M => by simp only [ev]) fun w g M => by simp only [evT]
    · cases h
  | .rngl tupl es, k, x, X, W, h, G => by
    simp only [ckE] at h
    split at h
    · rename_i f p1 r p2 xs p3 p4
      obtain ⟨h1, h⟩ := ab h
      obtain ⟨h2, h⟩ := ab h
      obtain ⟨h3, h4⟩ := ab h
      obtain ⟨rfl, hg, hm⟩ := G.bu_of h1
      obtain ⟨rfl, hg2, hm2⟩ := G.bu_of h2
      refine dflT (fun _ _ => rfl) ?_ fun w g M => by simp only [evT]
      match es, xs, h4, h3 with
      | .cons a .nil, [x], h4, _ =>
        simp only [ckEs] at h4
        obtain ⟨q1, q2⟩ := ab h4
        exact (okE_rng1 G.calm hg2 hm2 hg hm (pln_of q1) (ckE_ok a (ab q2).1 G).1).congr fun g M => by
          simp only [ev, evs]
          cases ev (KF wh k n) a g M <;> rfl
      | .cons a (.cons b .nil), [x, y], h4, _ =>
        simp only [ckEs] at h4
        obtain ⟨q1, q2⟩ := ab h4
        obtain ⟨q2, q3⟩ := ab q2
        obtain ⟨q3, q4⟩ := ab q3
        obtain ⟨q4, _⟩ := ab q4
        exact (okE_rng2 G.calm hg2 hm2 hg hm (pln_of q1) (pln_of q3) (ckE_ok a q2 G).1 (ckE_ok b q4 G).1).congr fun g M => by
          simp only [ev, evs]
          cases ev (KF wh k n) a g M with
          | bad => rfl
          | exc => rfl
          | ok v M1 => simp only [Rs.bind_ok]; cases ev (KF wh k n) b g M1 <;> rfl
      | .nil, _, h4, h3 =>
        simp only [ckEs, List.isEmpty_iff] at h4
        subst h4
        exact absurd (of_decide_eq_true h3) (by decide)
      | .cons a .nil, [], h4, _ => simp [ckEs] at h4
      | .cons a .nil, _ :: _ :: _, h4, _ => simp [ckEs] at h4
      | .cons a (.cons b es), [], h4, _ => simp [ckEs] at h4
      | .cons a (.cons b es), [x], h4, _ => simp [ckEs] at h4
      | .cons a (.cons b (.cons c es)), [x, y], h4, _ => simp [ckEs] at h4
      | .cons a (.cons b es), x :: y :: z :: zs, _, h3 => exact absurd (of_decide_eq_true h3) (by simp)
    · cases h
  | .lc elt tg it ifs own, k, x, X, W, h, G => by
    simp only [ckE] at h
    split at h
    · rename_i x t i fs scope p
      obtain ⟨h1, h⟩ := ab h
      obtain ⟨h2, h⟩ := ab h
      obtain ⟨h3, h⟩ := ab h
      obtain ⟨h4, h⟩ := ab h
      obtain ⟨h5, h⟩ := ab h
      obtain ⟨h6, h7⟩ := ab h
      obtain ⟨h4, h8⟩ := ab h4
      have hb : LcOk X tg t x fs scope (ownP k.N own) (evTs (KF wh k n) ifs) (ev (KF wh k n) elt) :=
        ⟨by rw [G.hN, G.sc]; exact blkOk_by h3, fun i hi => by rw [ownP_snd]; exact of_decide_eq_true (List.all_eq_true.mp h8 i hi), tg_pr h4, fun s H C cl fp => (G.blk scope s H C cl fp).tg_of h4,
          fun s H C cl fp => (ckEs_ok ifs h6 (G.blk scope s H C cl fp)).2.2.2.2.2 (of_decide_eq_true h5), fun s H C cl fp => (ckE_ok elt h7 (G.blk scope s H C cl fp)).1⟩
      have key := okE_lc (pos := p) G.calm G.nd (pln_of h2) (ckI_ok it h1 G) hb
      rw [ownP_snd] at key
      exact dflT (fun _ _ => rfl) (key.congr fun g M => by simp only [ev]) fun w g M => by simp only [evT]
    · cases h
  | .call f es, k, x, X, W, h, G => by
    simp only [ckE] at h
    split at h
    · rename_i g p x xs p2
      obtain ⟨h1, h⟩ := ab h
      obtain ⟨h2, h⟩ := ab h
      obtain ⟨h6, h⟩ := ab h
      obtain ⟨h3, h⟩ := ab h
      obtain ⟨h4, h5⟩ := ab h
      have eg : g = Str.ofString f := of_decide_eq_true h2
      cases e : findD k.defs f with
      | none => rw [e] at h4; cases h4
      | some d =>
        rw [e] at h4
        have hnp : d.np = (x :: xs).length := of_decide_eq_true h4
        obtain ⟨a, fd, ps, Fk, hmg, hk, hb⟩ := G.fns f d (of_decide_eq_true h6) e
        have hA := (ckEs_ok es h5 G).1
        obtain ⟨hp, hps⟩ := ckEs_pln h5
        exact dflT (fun _ _ => rfl) ((okE_call Fk G.room (G.gl_of h1) (by rw [eg]; exact hmg) hk hb G.tk (notT h3) hp hps hA (fun g M vs M' e => by rw [evs_len _ e, hnp, ckEs_len h5])).congr fun g M => by simp only [ev]) fun w g M => by simp only [evT]
    · cases h
  | .pop o es, k, x, X, W, h, G => by
    simp only [ckE] at h
    split at h
    · rename_i x m ap xs p
      obtain ⟨h1, h⟩ := ab h
      obtain ⟨h2, h⟩ := ab h
      obtain ⟨h3, h⟩ := ab h
      obtain ⟨h4, h⟩ := ab h
      obtain ⟨h5, h6⟩ := ab h
      have em : m = "pop" := of_decide_eq_true h1
      subst em
      refine dflT (fun _ _ => rfl) ?_ fun w g M => by simp only [evT]
      match es, xs, h6, h4 with
      | .nil, xs, h6, _ =>
        simp only [ckEs, List.isEmpty_iff] at h6
        subst h6
        exact (okE_pop0 (ckE_ok o h5 G).1 (noK_of h2) h3).congr fun g M => by
          simp only [ev, evs, Rs.bind_ok]
      | .cons a .nil, [y], h6, _ =>
        simp only [ckEs] at h6
        obtain ⟨q1, q2⟩ := ab h6
        exact (okE_pop1 (ckE_ok o h5 G).1 (ckE_ok a (ab q2).1 G).1 (pln_of q1) (noK_of h2) h3).congr fun g M => by
          simp only [ev, evs]
          cases ev (KF wh k n) o g M with
          | bad => rfl
          | exc => rfl
          | ok v M1 =>
            simp only [Rs.bind_ok]
            split
            · cases ev (KF wh k n) a g M1 <;> rfl
            · rfl
      | .cons a es, [], h6, _ => simp [ckEs] at h6
      | .cons a (.cons b es), [y], h6, _ => simp [ckEs] at h6
      | .cons a es, _ :: _ :: _, _, h4 => exact absurd (of_decide_eq_true h4) (by simp)
    · cases h
  | .srt a, k, x, X, W, h, G => by
    simp only [ckE] at h
    split at h
    · obtain ⟨h1, h⟩ := ab h
      obtain ⟨h2, h3⟩ := ab h
      obtain ⟨rfl, hg, hm⟩ := G.bu_of h1
      exact dflT (fun _ _ => rfl) ((okE_srt G.calm G.hu hg hm (pln_of h2) (ckE_ok a h3 G).1).congr fun g M => by simp only [ev]) fun w g M => by simp only [evT]
    · cases h
  | .mm2 c a b, k, x, X, W, h, G => by
    simp only [ckE] at h
    split at h
    · obtain ⟨h1, h⟩ := ab h
      obtain ⟨h2, h⟩ := ab h
      obtain ⟨h3, h⟩ := ab h
      obtain ⟨h4, h5⟩ := ab h
      obtain ⟨rfl, hg, hm⟩ := G.bu_of h1
      exact dflT (fun _ _ => rfl) ((okE_mm2 G.calm hg hm (pln_of h2) (pln_of h3) (ckE_ok a h4 G).1 (ckE_ok b h5 G).1).congr fun g M => by simp only [ev]) fun w g M => by simp only [evT]
    · cases h
  | .idx o v, k, x, X, W, h, G => by
    simp only [ckE] at h
    split at h
    · obtain ⟨h1, h⟩ := ab h
      obtain ⟨h2, h⟩ := ab h
      obtain ⟨h3, h⟩ := ab h
      obtain ⟨h4, h⟩ := ab h
      obtain ⟨h5, h6⟩ := ab h
      have em := of_decide_eq_true h1
      subst em
      exact dflT (fun _ _ => rfl) ((okE_idx G.hu (ckE_ok o h5 G).1 (ckE_ok v h6 G).1 (pln_of h4) (noK_of h2) h3).congr fun g M => by simp only [ev]) fun w g M => by simp only [evT]
    · cases h
  | .srs a, k, x, X, W, h, G => by
    simp only [ckE] at h
    split at h
    · obtain ⟨h1, h⟩ := ab h
      obtain ⟨h0, h⟩ := ab h
      obtain ⟨h2, h3⟩ := ab h
      obtain ⟨rfl, hg, hm⟩ := G.bu_of h1
      obtain ⟨rfl, hg2, hm2⟩ := G.bu_of h0
      exact dflT (fun _ _ => rfl) ((okE_srs G.calm G.hu hg hm hg2 hm2 (pln_of h2) (ckE_ok a h3 G).1).congr fun g M => by simp only [ev]) fun w g M => by simp only [evT]
    · cases h
  | .dx o key, k, x, X, W, h, G => by
    simp only [ckE] at h
    split at h
    · obtain ⟨h1, h⟩ := ab h
      obtain ⟨h2, h3⟩ := ab h
      exact dflT (fun _ _ => rfl) ((okE_dx (by have := G.hu; omega) (ckE_ok o h2 G).1 (ckE_ok key h3 G).1 (plainIx_of h1)).congr fun g M => by simp only [ev]) fun w g M => by simp only [evT]
    · cases h
  | .dg o key d, k, x, X, W, h, G => by
    simp only [ckE] at h
    split at h
    · obtain ⟨h1, h⟩ := ab h
      obtain ⟨h2, h⟩ := ab h
      obtain ⟨h3, h⟩ := ab h
      obtain ⟨h4, h⟩ := ab h
      obtain ⟨h5, h⟩ := ab h
      obtain ⟨h6, h⟩ := ab h
      obtain ⟨h7, h8⟩ := ab h
      have em := of_decide_eq_true h1
      subst em
      exact dflT (fun _ _ => rfl) ((okE_dg (by have := G.hu; omega) (ckE_ok o h6 G).1 (ckE_ok key h7 G).1 (ckE_ok d h8 G).1 (pln_of h4) (pln_of h5) (noK_of h2) h3).congr fun g M => by simp only [ev]) fun w g M => by simp only [evT]
    · cases h
  | .srk a, k, x, X, W, h, G => by
    simp only [ckE] at h
    split at h
    · obtain ⟨h0, h⟩ := ab h
      obtain ⟨h1, h⟩ := ab h
      obtain ⟨h2, h⟩ := ab h
      obtain ⟨h3, h4⟩ := ab h
      have em := of_decide_eq_true h0
      subst em
      obtain ⟨rfl, hg, hm⟩ := G.bu_of h1
      obtain ⟨rfl, hg2, hm2⟩ := G.bu_of h2
      exact dflT (fun _ _ => rfl) ((okE_srk G.hu hg hm hg2 hm2 (pln_of h3) (ckE_ok a h4 G).1).congr fun g M => by simp only [ev]) fun w g M => by simp only [evT]
    · cases h
  | .cnt o v, k, x, X, W, h, G => by
    simp only [ckE] at h
    split at h
    · obtain ⟨h1, h⟩ := ab h
      obtain ⟨h2, h⟩ := ab h
      obtain ⟨h3, h⟩ := ab h
      obtain ⟨h4, h⟩ := ab h
      obtain ⟨h5, h6⟩ := ab h
      have em := of_decide_eq_true h1
      subst em
      exact dflT (fun _ _ => rfl) ((okE_cnt (ckE_ok o h5 G).1 (ckE_ok v h6 G).1 (pln_of h4) (noK_of h2) h3).congr fun g M => by simp only [ev]) fun w g M => by simp only [evT]
    · cases h
  | .ldc kx vx tg it ifs own, k, x, X, W, h, G => by
    simp only [ckE] at h
    split at h
    · rename_i f pf ka va t i fs scope cp pc
      obtain ⟨h0, h⟩ := ab h
      obtain ⟨h2, h⟩ := ab h
      obtain ⟨h3, h⟩ := ab h
      obtain ⟨h4, h⟩ := ab h
      obtain ⟨h5, h⟩ := ab h
      obtain ⟨h6, h⟩ := ab h
      obtain ⟨h7, h⟩ := ab h
      obtain ⟨h8, h9⟩ := ab h
      obtain ⟨h5, h10⟩ := ab h5
      obtain ⟨rfl, hg, hm⟩ := G.bu_of h0
      have hblk : BlkOk X.N X.env.scope scope (ownP k.N own) := by rw [G.hN, G.sc]; exact blkOk_by h4
      have hsub : ∀ i ∈ tgSlots tg, i ∈ (ownP k.N own).map (·.2) := fun i hi => by rw [ownP_snd]; exact of_decide_eq_true (List.all_eq_true.mp h10 i hi)
      have hb : DcOk X tg t ka va fs scope (ownP k.N own) (evTs (KF wh k n) ifs) (ev (KF wh k n) kx) (ev (KF wh k n) vx) :=
        ⟨⟨hblk, hsub, tg_pr h5, fun s H C cl fp => (G.blk scope s H C cl fp).tg_of h5, fun s H C cl fp => (ckEs_ok ifs h7 (G.blk scope s H C cl fp)).2.2.2.2.2 (of_decide_eq_true h6), fun s H C cl fp => (ckE_ok kx h8 (G.blk scope s H C cl fp)).1⟩,
          ⟨hblk, hsub, tg_pr h5, fun s H C cl fp => (G.blk scope s H C cl fp).tg_of h5, fun s H C cl fp => (ckEs_ok ifs h7 (G.blk scope s H C cl fp)).2.2.2.2.2 (of_decide_eq_true h6), fun s H C cl fp => (ckE_ok vx h9 (G.blk scope s H C cl fp)).1⟩⟩
      have key := okE_ldc (W := W) (p := pf) (cp := cp) (pos := pc) G.calm G.nd hg hm (pln_of h3) (ckI_ok it h2 G) hb
      rw [ownP_snd] at key
      exact dflT (fun _ _ => rfl) (key.congr fun g M => by simp only [ev]) fun w g M => by simp only [evT]
    · cases h
  | .lc2 elt tg it ifs own tg1 it1 ifs1 own1, k, x, X, W, h, G => by
    simp only [ckE] at h
    split at h
    · rename_i x t i fs t1 i1 fs1 scope p
      obtain ⟨h1, h⟩ := ab h
      obtain ⟨h2, h⟩ := ab h
      obtain ⟨h3, h⟩ := ab h
      obtain ⟨h4, h⟩ := ab h
      obtain ⟨h5, h⟩ := ab h
      obtain ⟨h6, h⟩ := ab h
      obtain ⟨h7, h⟩ := ab h
      obtain ⟨h8, h⟩ := ab h
      obtain ⟨h9, h⟩ := ab h
      obtain ⟨h10, h⟩ := ab h
      obtain ⟨h11, h⟩ := ab h
      obtain ⟨h12, h13⟩ := ab h
      have hb := lc2_blk G h3 h4 h5 h6 h7 h8 h9 h10 h11 h12 h13 (fun G' => (ckEs_ok ifs h6 G').2.2.2.2.2 (of_decide_eq_true h5)) (fun G' => (ckEs_ok ifs1 h12 G').2.2.2.2.2 (of_decide_eq_true h11)) (fun G' => (ckE_ok elt h7 G').1) (fun G' => ckIr_ok (k := k.blk scope) it1 h13 G')
      have key := okE_lc2 (pos := p) G.calm G.nd (pln_of h2) (ckI_ok it h1 G) hb
      rw [ownP_snd] at key
      exact dflT (fun _ _ => rfl) (key.congr fun g M => by simp only [ev]) fun w g M => by simp only [evT]
    · cases h
  | .fld c o f, k, x, X, W, h, G => by
    simp only [ckE] at h
    split at h
    · obtain ⟨h1, h⟩ := ab h
      obtain ⟨h2, h⟩ := ab h
      obtain ⟨h3, h4⟩ := ab h
      have em := of_decide_eq_true h1
      subst em
      cases e : findC k.cs c with
      | none => rw [e] at h3; cases h3
      | some d =>
        rw [e] at h3
        obtain ⟨hd, rfl⟩ := findC_ok e
        exact dflT (fun _ _ => rfl) ((okE_fld (G.cls d hd).k1 (of_decide_eq_true h3) (noK2_of h2) (ckE_ok o h4 G).1).congr fun g M => by simp only [ev]) fun w g M => by simp only [evT]
    · cases h
  | .meth c o m es, k, x, X, W, h, G => by
    simp only [ckE] at h
    split at h
    · rename_i x g ap ys p
      obtain ⟨h1, h⟩ := ab h
      obtain ⟨h2, h⟩ := ab h
      obtain ⟨h3, h⟩ := ab h
      obtain ⟨h4, h⟩ := ab h
      obtain ⟨h5, h⟩ := ab h
      obtain ⟨h6, h⟩ := ab h
      obtain ⟨h7, h8⟩ := ab h
      have em := of_decide_eq_true h1
      subst em
      cases e : findC k.cs c with
      | none => rw [e] at h5; cases h5
      | some d =>
        rw [e] at h5
        obtain ⟨hd, rfl⟩ := findC_ok e
        cases e2 : findD k.defs (d.name ++ "." ++ m) with
        | none => rw [e2] at h6; cases h6
        | some df =>
          rw [e2] at h6
          have hnp : df.np = ys.length + 1 := of_decide_eq_true h6
          obtain ⟨fd, ps, Fk, hb⟩ := G.mth d hd m (of_decide_eq_true h5) df e2
          refine dflT (fun _ _ => rfl) ?_ fun w g M => by simp only [evT]
          match es, ys, h8, hnp, h4 with
          | .nil, ys, h8, hnp, _ =>
            simp only [ckEs, List.isEmpty_iff] at h8
            subst h8
            rw [hnp] at Fk
            exact (okE_meth0 (G.cls d hd).k1 (of_decide_eq_true h5) Fk G.room hb G.tk (noK2_of h2) h3 (ckE_ok o h7 G).1).congr fun g M => by simp only [ev, evs, Rs.bind_ok]
          | .cons a es, [], h8, _, _ => simp [ckEs] at h8
          | .cons a es, y :: ys, h8, hnp, h4 =>
            rw [hnp] at Fk
            exact (okE_meth (G.cls d hd).k1 (of_decide_eq_true h5) Fk G.room hb G.tk (noK2_of h2) h3 (ckEs_pln h8) (of_decide_eq_true h4) (ckE_ok o h7 G).1 (ckEs_ok (.cons a es) h8 G).1 (fun g M vs M' e => by rw [evs_len _ e, ckEs_len h8])).congr fun g M => by simp only [ev]
    · cases h
  | .mk c ns ini es, k, x, X, W, h, G => by
    simp only [ckE] at h
    split at h
    · rename_i g p x xs p2
      obtain ⟨h1, h⟩ := ab h
      obtain ⟨h2, h⟩ := ab h
      obtain ⟨h3, h⟩ := ab h
      obtain ⟨h4, h5⟩ := ab h
      have em := of_decide_eq_true h2
      subst em
      cases e : findC k.cs c with
      | none => rw [e] at h4; cases h4
      | some d =>
        rw [e] at h4
        obtain ⟨h6, h7⟩ := ab h4
        obtain ⟨h7, h8⟩ := ab h7
        obtain ⟨hd, rfl⟩ := findC_ok e
        have co := G.cls d hd
        obtain ⟨args, fd, ea, es0, esl, sc, F, hb⟩ := co.ini
        rw [ea] at h7
        have hlen : args.length = xs.length + 2 := of_decide_eq_true h7
        have hns : d.N.length = ns := of_decide_eq_true h6
        have big : Room (3 * n + 4) X.A := G.big.resolve_left fun z => by rw [z] at hd; cases hd
        have Fk : FnOk X.prog X.w X.K X.mg X.base (L2.CX X.prog X.w) (3 * n + 3) (He.ma X.K (He.ga X.K (Str.ofString d.name)) "__init__") fd (args.map (·.arg)) (spMk X.K d.name (fun as M => evI (KF wh k n) ini (startI ns as) M []) (xs.length + 1)) := by
          refine F.ok (k := 3 * n + 2) sc (fun vs H Q E h => ?_) fun cdv A outer s H vs Q E hr h => ?_
          · obtain ⟨x, dx, us, ioB, io, HB, as, M, rfl, _, _, rv, _, _, _, _, hl, _⟩ := h
            rw [List.length_cons, rv.length, hl, List.length_map, hlen]
          · obtain ⟨x, dx, us, ioB, io, HB, as, M, rfl, hx, gB, rv, rm, a1, a2, a3, hl, hpost⟩ := h
            have G' : GX wh n (d.ck k) (cxOf (L2.CX X.prog X.w) X.prog X.w X.K X.mg X.base d.N d.dd.qual d.dd.scope (He.ma X.K (He.ga X.K (Str.ofString d.name)) "__init__") cdv A outer s H E) (fun cls d _ H => E cls d H) :=
              { hN := rfl, sc := rfl, fn := rfl, nd := sc.nd, calm := rfl, room := hr, big := .inl rfl, tk := takes_of rfl rfl rfl rfl, free := G.free, con := G.con, fns := G.fns, exc := fun x hx => let e := G.exc x hx; ⟨e.k1, e.two, e.nd, e.fn, e.at_⟩, exm := G.exm, cls := fun c hc => (by cases hc), mth := fun c hc => (by cases hc) }
            obtain ⟨t, pt, st⟩ := ckIni_ok ini h8 G' co.k1 es0 (.inl esl)
            refine ⟨t, pt, st ioB io HB H (L2.start d.N (.ref x :: us)) (startI ns as) M [] x dx [] _ hx gB ?_ rm ?_ a1 a2 a3 .nil hpost⟩
            · rw [← hns]
              exact rs_startI rv
            · have : 0 < d.N.length := by
                cases q : d.N with
                | nil => rw [q] at es0; cases es0
                | cons a b => simp
              unfold L2.start
              simp
        exact dflT (fun _ _ => rfl) ((okE_mk co.k1 Fk big hb G.tk (G.gl_of h1) co.at_ (notT h3) (ckEs_pln h5) (ckEs_ok es h5 G).1 (fun g M vs M' e => by rw [evs_len _ e, ← ckEs_len h5]; rfl)).congr fun g M => by simp only [ev]) fun w g M => by simp only [evT]
    · cases h
  | .callz f e1 es, k, x, X, W, h, G => by
    simp only [ckE] at h
    split at h
    · rename_i g p x ys lp p2
      obtain ⟨h1, h⟩ := ab h
      obtain ⟨h2, h⟩ := ab h
      obtain ⟨h6, h⟩ := ab h
      obtain ⟨h3, h⟩ := ab h
      obtain ⟨h4, h⟩ := ab h
      obtain ⟨h7, h⟩ := ab h
      obtain ⟨h8, h⟩ := ab h
      obtain ⟨h9, h10⟩ := ab h
      have eg : g = Str.ofString f := of_decide_eq_true h2
      cases e : findD k.defs f with
      | none => rw [e] at h4; cases h4
      | some d =>
        rw [e] at h4
        have hnp : d.np = 2 := of_decide_eq_true h4
        obtain ⟨a, fd, ps, Fk, hmg, hk, hb⟩ := G.fns f d (of_decide_eq_true h6) e
        rw [hnp] at Fk
        exact dflT (fun _ _ => rfl) ((okE_callz Fk G.room (G.gl_of h1) (by rw [eg]; exact hmg) hk hb G.tk (notT h3) (pln_of h7) (ckE_ok e1 h9 G).1 (ckEs_ok es h10 G).1 (of_decide_eq_true h8) (fun g M vs M' e => by rw [evs_len _ e, ckEs_len h10])).congr fun g M => by simp only [ev]) fun w g M => by simp only [evT]
    · cases h
  | .join sep l, k, x, X, W, h, G => by
    simp only [ckE] at h
    split at h
    · obtain ⟨h1, h⟩ := ab h
      obtain ⟨h2, h⟩ := ab h
      obtain ⟨h3, h⟩ := ab h
      obtain ⟨h4, h⟩ := ab h
      obtain ⟨h5, h6⟩ := ab h
      have em := of_decide_eq_true h1
      subst em
      exact dflT (fun _ _ => rfl) ((okE_join (ckE_ok sep h5 G).1 (ckE_ok l h6 G).1 (pln_of h4) (noK_of h2) h3).congr fun g M => by simp only [ev]) fun w g M => by simp only [evT]
    · cases h
  | .dgi ps key, k, x, X, W, h, G => by
    simp only [ckE] at h
    split at h
    · obtain ⟨h1, h⟩ := ab h
      obtain ⟨h2, h⟩ := ab h
      obtain ⟨h3, h⟩ := ab h
      obtain ⟨h4, h5⟩ := ab h
      exact dflT (fun _ _ => rfl) ((okE_dgi (by have := G.hu; omega) (ckP_ok ps h4 G) (of_decide_eq_true h2) (of_decide_eq_true h3) (ckE_ok key h5 G).1 (plainIx_of h1)).congr fun g M => by simp only [ev]) fun w g M => by simp only [evT]
    · cases h
  | .dgt ps key d, k, x, X, W, h, G => by
    simp only [ckE] at h
    split at h
    · obtain ⟨h1, h⟩ := ab h
      obtain ⟨h2, h⟩ := ab h
      obtain ⟨h3, h⟩ := ab h
      obtain ⟨h4, h⟩ := ab h
      obtain ⟨h5, h⟩ := ab h
      obtain ⟨h6, h⟩ := ab h
      obtain ⟨h7, h⟩ := ab h
      obtain ⟨h8, h9⟩ := ab h
      have em := of_decide_eq_true h1
      subst em
      exact dflT (fun _ _ => rfl) ((okE_dgt (by have := G.hu; omega) (ckP_ok ps h7 G) (of_decide_eq_true h5) (of_decide_eq_true h6) (ckE_ok key h8 G).1 (ckE_ok d h9 G).1 (pln_of h3) (pln_of h4) h2).congr fun g M => by simp only [ev]) fun w g M => by simp only [evT]
    · cases h
theorem ckIni_ok : ∀ (i : Inis) {k : Ck} {fs ms : List String} {c : String} {sts : List Stmt} {X : Cx} {W : WX}, ckIni k fs i sts = true → GX wh n k X W → CK1 X.K c fs ms → X.N[0]? = some ("self" : Str) → Vis X.env.scope "self" → OkIni X W c sts (fun g M l => evI (KF wh k n) i g M l)
  | .nil, k, fs, ms, c, sts, X, W, h, G, k1, h0, hv => by
    simp only [ckIni, List.isEmpty_iff] at h
    subst h
    have e : (fun g M l => evI (KF wh k n) .nil g M l) = fun (_ : Sg) M fs => Rs.ok fs M := by funext g M l; simp only [evI]
    rw [e]
    exact okI_nil
  | .drop e r, k, fs, ms, c, sts, X, W, h, G, k1, h0, hv => by
    simp only [ckIni] at h
    split at h
    · obtain ⟨h1, h⟩ := ab h
      obtain ⟨h2, h3⟩ := ab h
      have e1 : (fun g M l => evI (KF wh k n) (.drop e r) g M l) = fun g M l => (ev (KF wh k n) e g M).bind fun _ M1 => evI (KF wh k n) r g M1 l := by funext g M l; simp only [evI]
      rw [e1]
      exact okI_drop (noC_of h1) (ckE_ok e h2 G).1 (ckIni_ok r h3 G k1 h0 hv)
    · cases h
  | .fld f e r, k, fs, ms, c, sts, X, W, h, G, k1, h0, hv => by
    simp only [ckIni] at h
    split at h
    · obtain ⟨h1, h⟩ := ab h
      obtain ⟨h2, h⟩ := ab h
      obtain ⟨h3, h⟩ := ab h
      obtain ⟨h4, h⟩ := ab h
      obtain ⟨h5, h6⟩ := ab h
      have em := of_decide_eq_true h1
      have em2 := of_decide_eq_true h2
      subst em em2
      have e1 : (fun g M l => evI (KF wh k n) (.fld f e r) g M l) = fun g M l => (ev (KF wh k n) e g M).bind fun v M1 => (Rs.of M1 (plain v)).bind fun d M2 => (Rs.of M2 (addN (Str.ofString f) (.p d) l)).bind fun l M3 => evI (KF wh k n) r g M3 l := by funext g M l; simp only [evI]
      rw [e1]
      exact okI_fld k1 (of_decide_eq_true h3) h0 hv (noC_of h4) (ckE_ok e h5 G).1 (ckIni_ok r h6 G k1 h0 hv)
    · cases h
  | .new f es r, k, fs, ms, c, sts, X, W, h, G, k1, h0, hv => by
    simp only [ckIni] at h
    split at h
    · obtain ⟨h1, h⟩ := ab h
      obtain ⟨h2, h⟩ := ab h
      obtain ⟨h3, h⟩ := ab h
      obtain ⟨h4, h⟩ := ab h
      obtain ⟨h5, h6⟩ := ab h
      have em := of_decide_eq_true h1
      have em2 := of_decide_eq_true h2
      subst em em2
      have e1 : (fun g M l => evI (KF wh k n) (.new f es r) g M l) = fun g M l => (evs (KF wh k n) es g M).bind fun vs M1 => (Rs.of M1 (plains vs)).bind fun ds M2 => (Rs.of M2 (addN (Str.ofString f) (.r M2.length) l)).bind fun l M3 => evI (KF wh k n) r g (M3 ++ [.lst ds]) l := by funext g M l; simp only [evI]
      rw [e1]
      exact okI_new k1 (of_decide_eq_true h3) h0 hv (ckEs_ok es h5 G).1 (of_decide_eq_true h4) (fun g M vs M' e => by rw [evs_len _ e, ckEs_len h5]) (ckIni_ok r h6 G k1 h0 hv)
    · cases h
theorem ckIr_ok : ∀ (i : It) {k : Ck} {tg x : Expr} {X : Cx} {W : WX}, ckIr k i x = true → GX wh n k X W → OkIr X W tg x (evIt (KF wh k n) i)
  | .rng es, k, tg, x, X, W, h, G => by
    simp only [ckIr] at h
    split at h
    · rename_i r p2 xs p3
      obtain ⟨h2, h⟩ := ab h
      obtain ⟨h3, h4⟩ := ab h
      obtain ⟨rfl, hg2, hm2⟩ := G.bu_of h2
      match es, xs, h4, h3 with
      | .cons a .nil, [x], h4, _ =>
        simp only [ckEs] at h4
        obtain ⟨q1, q2⟩ := ab h4
        have e1 : evIt (KF wh k n) (.rng (.cons a .nil)) = fun s M => (ev (KF wh k n) a s M).bind fun v M1 => fRw [v] M1 := by
          funext g M
          simp only [evIt, evs]
          cases ev (KF wh k n) a g M <;> rfl
        rw [e1]
        exact okIr_rng1 (b := x) (fb := ev (KF wh k n) a) hg2 hm2 (pln_of q1) (ckE_ok a (ab q2).1 G).1
      | .cons a (.cons b .nil), [x, y], h4, _ =>
        simp only [ckEs] at h4
        obtain ⟨q1, q2⟩ := ab h4
        obtain ⟨q2, q3⟩ := ab q2
        obtain ⟨q3, q4⟩ := ab q3
        obtain ⟨q4, _⟩ := ab q4
        have e1 : evIt (KF wh k n) (.rng (.cons a (.cons b .nil))) = fun s M => (ev (KF wh k n) a s M).bind fun v M1 => (ev (KF wh k n) b s M1).bind fun w M2 => fRw [v, w] M2 := by
          funext g M
          simp only [evIt, evs]
          cases ev (KF wh k n) a g M with
          | bad => rfl
          | exc => rfl
          | ok v M1 => simp only [Rs.bind_ok]; cases ev (KF wh k n) b g M1 <;> rfl
        rw [e1]
        exact okIr_rng2 hg2 hm2 (pln_of q1) (pln_of q3) (ckE_ok a q2 G).1 (ckE_ok b q4 G).1
      | .nil, _, h4, h3 =>
        simp only [ckEs, List.isEmpty_iff] at h4
        subst h4
        exact absurd (of_decide_eq_true h3) (by decide)
      | .cons a .nil, [], h4, _ => simp [ckEs] at h4
      | .cons a .nil, _ :: _ :: _, h4, _ => simp [ckEs] at h4
      | .cons a (.cons b es), [], h4, _ => simp [ckEs] at h4
      | .cons a (.cons b es), [x], h4, _ => simp [ckEs] at h4
      | .cons a (.cons b (.cons c es)), [x, y], h4, _ => simp [ckEs] at h4
      | .cons a (.cons b es), x :: y :: z :: zs, _, h3 => exact absurd (of_decide_eq_true h3) (by simp)
    · cases h
  | .sq _, _, _, _, _, _, h, _ => by simp [ckIr] at h
  | .enm _, _, _, _, _, _, h, _ => by simp [ckIr] at h
  | .zip _ _, _, _, _, _, _, h, _ => by simp [ckIr] at h
  | .rvd _, _, _, _, _, _, h, _ => by simp [ckIr] at h
theorem ckP_ok : ∀ (ps : Pxs) {k : Ck} {ks : List (Option Expr)} {vs : List Expr} {X : Cx} {W : WX} {pos : Pos}, ckP k ps ks vs = true → GX wh n k X W → OkPd X W pos ks vs (evP (KF wh k n) ps)
  | .nil, k, ks, vs, X, W, pos, h, G => by
    simp only [ckP, Bool.and_eq_true, List.isEmpty_iff] at h
    obtain ⟨rfl, rfl⟩ := h
    have e : evP (KF wh k n) .nil = fun _ M => .ok [] M := by funext g M; simp only [evP]
    rw [e]
    exact okP_nil
  | .cons a b ps, k, ks, vs, X, W, pos, h, G => by
    simp only [ckP] at h
    split at h
    · obtain ⟨h1, h⟩ := ab h
      obtain ⟨h2, h3⟩ := ab h
      have e : evP (KF wh k n) (.cons a b ps) = fun g M => (ev (KF wh k n) a g M).bind fun x M1 => (ev (KF wh k n) b g M1).bind fun y M2 => (Rs.of M2 (pxOf x y)).bind fun p M3 => (evP (KF wh k n) ps g M3).bind fun qs M4 => .ok (p :: qs) M4 := by
        funext g M; simp only [evP]
      rw [e]
      exact okP_cons (ckE_ok a h1 G).1 (ckE_ok b h2 G).1 (ckP_ok ps h3 G)
    · cases h
theorem ckEs_ok : ∀ (es : Exs) {k : Ck} {xs : List Expr} {X : Cx} {W : WX}, ckEs k es xs = true → GX wh n k X W →
    OkA X W xs (evs (KF wh k n) es) ∧ (∀ pos, xs.isEmpty = false → OkE X W (.BoolOp .And xs pos) (evAnd (KF wh k n) es)) ∧ (∀ pos, xs.isEmpty = false → OkE X W (.BoolOp .Or xs pos) (evOr (KF wh k n) es)) ∧
      (∀ pos, xs.isEmpty = false → OkW X W (.BoolOp .And xs pos) (evTAnd (KF wh k n) es)) ∧ (∀ pos, xs.isEmpty = false → OkW X W (.BoolOp .Or xs pos) (evTOr (KF wh k n) es)) ∧ (xs.length ≤ 1 → OkTs X W xs (evTs (KF wh k n) es))
  | .nil, k, xs, X, W, h, G => by
    simp only [ckEs, List.isEmpty_iff] at h
    subst h
    refine ⟨?_, fun _ z => absurd z (by simp), fun _ z => absurd z (by simp), fun _ z => absurd z (by simp), fun _ z => absurd z (by simp), fun _ => ?_⟩
    · have e : evs (KF wh k n) .nil = fun _ M => .ok [] M := by funext g M; simp only [evs]
      rw [e]
      exact okA_nil
    · show evTs (KF wh k n) .nil = _
      funext g M
      simp only [evTs]
  | .cons e .nil, k, xs, X, W, h, G => by
    match xs, h with
    | [], h => simp [ckEs] at h
    | x :: y :: ys, h => simp [ckEs] at h
    | [x], h =>
      simp only [ckEs] at h
      obtain ⟨h1, h2⟩ := ab h
      obtain ⟨h2, _⟩ := ab h2
      obtain ⟨rE, rT⟩ := ckE_ok e h2 G
      have eT : evTs (KF wh k n) (.cons e .nil) = TF wh k n e := by funext g M; simp only [evTs]
      refine ⟨?_, fun pos _ => (okE_one rE).congr fun g M => by simp only [evAnd], fun pos _ => (okE_one rE).congr fun g M => by simp only [evOr], fun pos _ => ?_, fun pos _ => ?_, fun _ => ?_⟩
      · have e1 : evs (KF wh k n) (.cons e .nil) = fun s M => (ev (KF wh k n) e s M).bind fun v M1 => ((fun (_ : Sg) M => Rs.ok [] M) s M1).bind fun vs M2 => .ok (v :: vs) M2 := by
          funext g M
          simp only [evs]
        rw [e1]
        exact okA_cons (pln_of h1) rE okA_nil
      · have e1 : evTAnd (KF wh k n) (.cons e .nil) = TF wh k n e := by funext g M; simp only [evTAnd]
        rw [e1]
        exact okW_and1 rT
      · have e1 : evTOr (KF wh k n) (.cons e .nil) = TF wh k n e := by funext g M; simp only [evTOr]
        rw [e1]
        exact okW_or1 rT
      · rw [eT]
        exact rT
  | .cons e (.cons e' es), k, xs, X, W, h, G => by
    match xs, h with
    | [], h => simp [ckEs] at h
    | [x], h => simp [ckEs] at h
    | x :: y :: ys, h =>
      have h0 : ckEs k (.cons e (.cons e' es)) (x :: y :: ys) = true := h
      rw [ckEs] at h
      obtain ⟨h1, h2⟩ := ab h
      obtain ⟨h2, h3⟩ := ab h2
      obtain ⟨rE, rT⟩ := ckE_ok e h2 G
      obtain ⟨r0, r1, r2, r3, r4, _⟩ := ckEs_ok (.cons e' es) h3 G
      refine ⟨?_, fun pos _ => ?_, fun pos _ => ?_, fun pos _ => ?_, fun pos _ => ?_, fun z => absurd z (by simp)⟩
      · have e1 : evs (KF wh k n) (.cons e (.cons e' es)) = fun s M => (ev (KF wh k n) e s M).bind fun v M1 => (evs (KF wh k n) (.cons e' es) s M1).bind fun vs M2 => .ok (v :: vs) M2 := by
          funext g M
          rw [evs]
        rw [e1]
        exact okA_cons (pln_of h1) rE r0
      · exact (okE_and rE (r1 pos rfl)).congr fun g M => rfl
      · exact (okE_or rE (r2 pos rfl)).congr fun g M => rfl
      · have := okW_and (pos := pos) rT (r3 pos rfl)
        have e1 : evTAnd (KF wh k n) (.cons e (.cons e' es)) = fun s M => (TF wh k n e s M).bind fun c M1 => if c then evTAnd (KF wh k n) (.cons e' es) s M1 else .ok false M1 := by
          funext g M
          rw [evTAnd]
          simp
        rw [e1]
        exact this
      · have := okW_or (pos := pos) rT (r4 pos rfl)
        have e1 : evTOr (KF wh k n) (.cons e (.cons e' es)) = fun s M => (TF wh k n e s M).bind fun c M1 => if c then .ok true M1 else evTOr (KF wh k n) (.cons e' es) s M1 := by
          funext g M
          rw [evTOr]
          simp
        rw [e1]
        exact this
theorem ckO_ok : ∀ (o : Ops) {k : Ck} {x : Option Expr} {X : Cx} {W : WX}, ckO k o x = true → GX wh n k X W → OkO X W x (evO (KF wh k n) o)
  | .non, k, x, X, W, h, G => by
    cases x with
    | none =>
      have e : evO (KF wh k n) .non = fun _ M => .ok none M := by funext g M; simp only [evO]
      rw [e]
      exact okO_none
    | some x => simp [ckO] at h
  | .som e, k, x, X, W, h, G => by
    cases x with
    | none => simp [ckO] at h
    | some x =>
      simp only [ckO] at h
      have e1 : evO (KF wh k n) (.som e) = fun s M => (ev (KF wh k n) e s M).bind fun v M1 => match v with
        | .p (.int i) => .ok (some i) M1
        | _ => .bad := by funext g M; rfl
      rw [e1]
      exact okO_some (ckE_ok e h G).1
theorem ckI_ok : ∀ (i : It) {k : Ck} {tg x : Expr} {X : Cx} {W : WX}, ckI k i tg x = true → GX wh n k X W → OkI X W tg x (evIt (KF wh k n) i)
  | .sq e, k, tg, x, X, W, h, G => by
    simp only [ckI] at h
    have e1 : evIt (KF wh k n) (.sq e) = fun s M => (ev (KF wh k n) e s M).bind fun v M1 => Rs.of M1 (walkOf M1 v) := by funext g M; simp only [evIt]
    rw [e1]
    exact okI_sq (ckE_ok e h G).1
  | .rng es, k, tg, x, X, W, h, G => by
    simp only [ckI] at h
    split at h
    · rename_i r p2 xs p3
      obtain ⟨h2, h⟩ := ab h
      obtain ⟨h3, h4⟩ := ab h
      obtain ⟨rfl, hg2, hm2⟩ := G.bu_of h2
      match es, xs, h4, h3 with
      | .cons a .nil, [x], h4, _ =>
        simp only [ckEs] at h4
        obtain ⟨q1, q2⟩ := ab h4
        have e1 : evIt (KF wh k n) (.rng (.cons a .nil)) = fun s M => (ev (KF wh k n) a s M).bind fun v M1 => fRw [v] M1 := by
          funext g M
          simp only [evIt, evs]
          cases ev (KF wh k n) a g M <;> rfl
        rw [e1]
        exact okI_rng1 hg2 hm2 (pln_of q1) (ckE_ok a (ab q2).1 G).1
      | .cons a (.cons b .nil), [x, y], h4, _ =>
        simp only [ckEs] at h4
        obtain ⟨q1, q2⟩ := ab h4
        obtain ⟨q2, q3⟩ := ab q2
        obtain ⟨q3, q4⟩ := ab q3
        obtain ⟨q4, _⟩ := ab q4
        have e1 : evIt (KF wh k n) (.rng (.cons a (.cons b .nil))) = fun s M => (ev (KF wh k n) a s M).bind fun v M1 => (ev (KF wh k n) b s M1).bind fun w M2 => fRw [v, w] M2 := by
          funext g M
          simp only [evIt, evs]
          cases ev (KF wh k n) a g M with
          | bad => rfl
          | exc => rfl
          | ok v M1 => simp only [Rs.bind_ok]; cases ev (KF wh k n) b g M1 <;> rfl
        rw [e1]
        exact okI_rng2 hg2 hm2 (pln_of q1) (pln_of q3) (ckE_ok a q2 G).1 (ckE_ok b q4 G).1
      | .nil, _, h4, h3 =>
        simp only [ckEs, List.isEmpty_iff] at h4
        subst h4
        exact absurd (of_decide_eq_true h3) (by decide)
      | .cons a .nil, [], h4, _ => simp [ckEs] at h4
      | .cons a .nil, _ :: _ :: _, h4, _ => simp [ckEs] at h4
      | .cons a (.cons b es), [], h4, _ => simp [ckEs] at h4
      | .cons a (.cons b es), [x], h4, _ => simp [ckEs] at h4
      | .cons a (.cons b (.cons c es)), [x, y], h4, _ => simp [ckEs] at h4
      | .cons a (.cons b es), x :: y :: z :: zs, _, h3 => exact absurd (of_decide_eq_true h3) (by simp)
    · cases h
  | .enm e, k, tg, x, X, W, h, G => by
    simp only [ckI] at h
    obtain ⟨h1, h0⟩ := ab h
    clear h
    obtain ⟨es, kk, p, rfl⟩ := tup_of h1
    split at h0
    · obtain ⟨h2, h⟩ := ab h0
      obtain ⟨h3, h4⟩ := ab h
      obtain ⟨rfl, hg, hm⟩ := G.bu_of h2
      have e1 : evIt (KF wh k n) (.enm e) = fun s M => (ev (KF wh k n) e s M).bind fun v M1 => match v with
        | .p (.list ds) => .ok ⟨enumD ds, none⟩ M1
        | .p (.tuple ds) => .ok ⟨enumD ds, none⟩ M1
        | _ => .bad := by funext g M; rfl
      rw [e1]
      exact okI_enm hg hm (pln_of h3) (ckE_ok e h4 G).1
    · cases h0
  | .zip a b, k, tg, x, X, W, h, G => by
    simp only [ckI] at h
    obtain ⟨h1, h0⟩ := ab h
    clear h
    obtain ⟨es, kk, p, rfl⟩ := tup_of h1
    split at h0
    · obtain ⟨h2, h⟩ := ab h0
      obtain ⟨h3, h⟩ := ab h
      obtain ⟨h4, h⟩ := ab h
      obtain ⟨h5, h6⟩ := ab h
      obtain ⟨rfl, hg, hm⟩ := G.bu_of h2
      have e1 : evIt (KF wh k n) (.zip a b) = fun s M => (ev (KF wh k n) a s M).bind fun v M1 => (ev (KF wh k n) b s M1).bind fun w M2 => Rs.of M2 (zipW v w) := by funext g M; rfl
      rw [e1]
      exact okI_zip hg hm (pln_of h3) (pln_of h4) (ckE_ok a h5 G).1 (ckE_ok b h6 G).1
    · cases h0
  | .rvd e, k, tg, x, X, W, h, G => by
    simp only [ckI] at h
    split at h
    · obtain ⟨h2, h⟩ := ab h
      obtain ⟨h3, h4⟩ := ab h
      obtain ⟨rfl, hg, hm⟩ := G.bu_of h2
      have e1 : evIt (KF wh k n) (.rvd e) = fun s M => (ev (KF wh k n) e s M).bind fun v M1 => match v with
        | .p (.list ds) => .ok ⟨ds.reverse, none⟩ M1
        | .p (.tuple ds) => .ok ⟨ds.reverse, none⟩ M1
        | _ => .bad := by funext g M; rfl
      rw [e1]
      exact okI_rvd hg hm (pln_of h3) (ckE_ok e h4 G).1
    · cases h
end
end
end Eg

/-! Engine, part L: statements matched; a text of defs keeps its meaning. By an AI agent. -/
namespace Eg
open PySem PySem.Spec PyProof.Rows L2
theorem lookup_zip {α : Type} : ∀ {ps : List Str} {us : List α}, us.length = ps.length → ∀ x ∈ ps, ((ps.zip us).lookup x).isNone = false
  | [], _, _, x, h => by cases h
  | p :: ps, u :: us, hl, x, h => by
    rw [List.zip_cons_cons, List.lookup_cons]
    cases e : x == p with
    | true => rfl
    | false =>
      rcases List.mem_cons.mp h with z | z
      · rw [z] at e; simp at e
      · exact lookup_zip (by simpa using hl) x z
  | _ :: _, [], hl, _, _ => by simp at hl
theorem fm_congr {α β : Type} {f g : α → Option β} : ∀ {l : List α}, (∀ x ∈ l, f x = g x) → l.filterMap f = l.filterMap g
  | [], _ => rfl
  | x :: xs, h => by
    rw [List.filterMap_cons, List.filterMap_cons, h x List.mem_cons_self, fm_congr fun y hy => h y (List.mem_cons_of_mem _ hy)]
theorem filterMap_zip {α : Type} : ∀ {ps : List Str} {us : List α}, us.length = ps.length → ps.Nodup → ps.filterMap (fun n => ((ps.zip us).lookup n).map (n, ·)) = ps.zip us
  | [], [], _, _ => rfl
  | p :: ps, u :: us, hl, nd => by
    have ih := filterMap_zip (ps := ps) (us := us) (by simpa using hl) (List.nodup_cons.mp nd).2
    rw [List.filterMap_cons]
    have h1 : ((p :: ps).zip (u :: us)).lookup p = some u := by rw [List.zip_cons_cons, List.lookup_cons]; simp
    rw [h1]
    show (p, u) :: _ = (p, u) :: _
    refine congrArg _ ?_
    refine Eq.trans (fm_congr fun x hx => ?_) ih
    have hne : (x == p) = false := by
      have : x ≠ p := fun z => (List.nodup_cons.mp nd).1 (z ▸ hx)
      simpa using this
    rw [List.zip_cons_cons, List.lookup_cons, hne]
  | [], _ :: _, hl, _ => by simp at hl
  | _ :: _, [], hl, _ => by simp at hl
theorem bind_plain {fd : FuncData} {args : List Arg} (hp : fd.params = ⟨[], args, none, [], [], none, []⟩) (hd : fd.defaults = .none) (nd : (args.map (·.arg)).Nodup) {us : List Value} (hl : us.length = (args.map (·.arg)).length) :
    bindArgs fd ⟨us, []⟩ = pure ((args.map (·.arg)).zip us) := by
  have e : seqItems? Value.none = pure none := by rfl
  have h1 : ((args.map (·.arg)).filter fun n => (((args.map (·.arg)).zip us).lookup n).isNone) = [] := by
    rw [List.filter_eq_nil_iff]
    intro x hx
    rw [lookup_zip hl x hx]
    simp
  have h2 := filterMap_zip hl nd
  unfold bindArgs
  simp only [hp, hd, e, pure_bind, Option.getD_none]
  simp only [List.map_nil, List.nil_append, List.forIn_nil, pure_bind, List.append_nil]
  generalize hps : args.map (·.arg) = ps at *
  simp [hl, h1, h2]

/-! ### statements -/
def swL (k : Ck) (x : Str) (px : Pos) (scope : Scope) (p : Pos) : Bool := decide (k.sc.names.lookup x = some .local) && ((px.line == p.line) && !(scope.names.any fun (n, q) => n == x && (q == .local || q == .cell)))
def noTup : Expr → Bool
  | .Tuple _ _ _ => false
  | _ => true
def isFn (sc : Scope) : Bool := match sc.kind with
  | .function => true
  | _ => false
theorem isFn_of {sc : Scope} (h : isFn sc = true) : sc.kind = .function := by
  unfold isFn at h
  split at h
  · assumption
  · cases h
def ckN (k : Ck) : Nw → Expr → Bool
  | .lst es, e => match e with
    | .List xs _ => decide (xs.length ≤ 1000) && ckEs k es xs
    | _ => false
  | .lis a, e => match e with
    | .Call (.Name f _) [x] [] _ => k.bu f "list" && (plnB x && ckE k a x)
    | _ => false
  | .rng a, e => match e with
    | .Call (.Name f _) [.Call (.Name r _) [x] [] _] [] _ => k.bu f "list" && (k.bu r "range" && (plnB x && ckE k a x))
    | _ => false
  | .add a b, e => match e with
    | .BinOp l .Add r _ => ckE k a l && ckE k b r
    | _ => false
  | .mul a b, e => match e with
    | .BinOp l .Mult r _ => ckE k a l && ckE k b r
    | _ => false
  | .lc elt tg it ifs own, e => ckE k (.lc elt tg it ifs own) e
/-- the parts of a comprehension -/
def lcE : Expr → Bool
  | .ListComp _ [⟨_, _, _, 0⟩] _ _ => true
  | _ => false
/-! suites of except -/
def callB : Expr → Bool
  | .Call _ _ _ _ => true
  | _ => false
def ckIs (k : Ck) (oi : Option Nat) (t : String) (e : Expr) : Bool := match oi, e with
    | some i, .Call (.Name f _) [.Name n p, .Name y _] [] _ => k.bu f "isinstance" && (ckE k (.var i) (.Name n p) && (decide (y = Str.ofString t) && (!(y == ("__debug__" : Str)) && (if t = "ValueError" then k.bu y "ValueError" else k.gl y && decide (t ∈ k.ts)))))
    | _, _ => false
def ckUt (k : Ck) (oi : Option Nat) (ts : List String) (c : Expr) : Bool := match ts, c with
  | [t], c => callB c && ckIs k oi t c
  | [t1, t2], .BoolOp .And [x, y] _ => (callB x && callB y) && (ckIs k oi t1 x && ckIs k oi t2 y)
  | _, _ => false
mutual
def ckU (k : Ck) (oi : Option Nat) : SuE → Expr → Bool
  | .con d, e => match e with
    | .Constant c _ _ => conOf d c
    | _ => false
  | .fld o f, e => match oi, e with
    | some i, .Attribute (.Name n p) g _ => ckE k (.var i) (.Name n p) && (decide (g = Str.ofString f) && (k.xs.any fun x => decide (x.name = o) && decide (Str.ofString f ∈ x.F)))
    | _, _ => false
  | .tup es, e => match e with
    | .Tuple xs _ _ => decide (xs.length ≤ 1000) && ckUs k oi es xs
    | _ => false
  | .lst es, e => match e with
    | .List xs _ => decide (xs.length ≤ 1000) && ckUs k oi es xs
    | _ => false
  | .isi t, e => ckIs k oi t e
  | .ite ts a b, e => match e with
    | .IfExp c x y _ => ckUt k oi ts c && (ckU k oi a x && ckU k oi b y)
    | _ => false
def ckUs (k : Ck) (oi : Option Nat) : SuEs → List Expr → Bool
  | .nil, xs => xs.isEmpty
  | .cons e es, xs => match xs with
    | x :: xs => plnB x && (ckU k oi e x && ckUs k oi es xs)
    | [] => false
end
def ckSu (k : Ck) (oi : Option Nat) : Su → List Stmt → Bool
  | .ret e, sts => match sts with
    | [.Return (some v) _] => ckU k oi e v
    | _ => false
  | .ifr ts e r, sts => match sts with
    | .If c [.Return (some v) _] [] _ :: sts => ckUt k oi ts c && (ckU k oi e v && ckSu k oi r sts)
    | _ => false
  | .app j e r, sts => match sts with
    | .Expr (.Call (.Attribute (.Name y p1) m ap) [v] [] p) _ :: sts => decide (m = "append") && (ckE k (.var j) (.Name y p1) && ((ap.endLine == p.line) && (plnB v && (ckU k oi e v && ckSu k oi r sts))))
    | _ => false
  | .done, sts => sts.isEmpty
def ckNm (k : Ck) : Option Str → Option Nat → Bool
  | none, none => true
  | some n, some i => decide (k.N[i]? = some n) && decide (k.sc.names.lookup n = some .local)
  | _, _ => false
def ckHd (k : Ck) : List Hd → List ExceptHandler → Bool
  | [], hs => hs.isEmpty
  | h :: r, hs => match hs with
    | .ExceptHandler (some (.Name x _)) nm (b :: bs) _ :: hs => decide (x = Str.ofString h.cls) && (k.gl x && (!(x == ("__debug__" : Str)) && (decide (h.cls ∈ k.ts) && (ckNm k nm h.slot && (ckSu k h.slot h.su (b :: bs) && ckHd k r hs)))))
    | _ => false
mutual
def ckS (k : Ck) : Sm → Stmt → Bool
  | .set t e, st => match st with
    | .Assign [tg] v pos => k.tg t tg && (ckE k e v && (match tg, v with
      | .Name x px, .ListComp y gs sc p => true
      | .Name _ _, v => noC v
      | _, v => noTup v))
    | _ => false
  | .new i e, st => match st with
    | .Assign [.Name x px] v pos => k.tn i x && (ckN k e v && (match v with
      | .ListComp y gs sc p => match e with
        | .lc _ _ _ _ _ => true
        | _ => false
      | v => noC v))
    | _ => false
  | .newd i kx vx tg it ifs own, st => match st with
    | .Assign [.Name x px] (.DictComp ka va [⟨t, iter, fs, 0⟩] scope p) _ => decide (k.N[i]? = some x) && (swL k x px scope p && (ckI k it t iter && (plnB iter && (blkC k.N k.sc scope (ownP k.N own) && (((k.blk scope).tg tg t && (tgSlots tg).all fun i => decide (i ∈ own)) &&
        (decide (fs.length ≤ 1) && (ckEs (k.blk scope) ifs fs && (ckE (k.blk scope) kx ka && ckE (k.blk scope) vx va))))))))
    | _ => false
  | .newp i ps, st => match st with
    | .Assign [.Name x px] (.Dict ks vs _) _ => k.tn i x && (decide (ks.length ≤ 15) && ckP k ps ks vs)
    | _ => false
  | .newt i a b, st => match st with
    | .Assign [.Name x px] (.Dict [some u] [v] _) _ => k.tn i x && (ckE k a u && ckE k b v)
    | _ => false
  | .retn e, st => match st with
    | .Return (some v) _ => ckN k e v
    | _ => false
  | .par i j a b, st => match st with
    | .Assign [.Tuple [.Name x px, .Name y py] _ _] (.Tuple [u, v] _ _) _ => decide (k.N[i]? = some x) && (decide (k.N[j]? = some y) && (decide (i ≠ j) && (decide (k.sc.names.lookup x = some .local) && (decide (k.sc.names.lookup y = some .local) &&
        (plnB u && (plnB v && (ckE k a u && (ckE k b v && ((py.line == px.line) && (decide (x ≠ y) && (!([u, v].all (foldedForSure 8)) && !([u, v].all (constantsAlone 8)))))))))))))
    | _ => false
  | .put o i v, st => match st with
    | .Assign [.Subscript x y _] z _ => noSl y && (ckE k o x && (ckE k i y && ckE k v z))
    | _ => false
  | .putd o i v, st => match st with
    | .Assign [.Subscript x y _] z _ => noSl y && (ckE k o x && (ckE k i y && ckE k v z))
    | _ => false
  | .app o v, st => match st with
    | .Expr (.Call (.Attribute x m ap) [y] [] p) _ => decide (m = "append") && (noK x && ((ap.endLine == p.line) && (plnB y && (ckE k o x && ckE k v y))))
    | _ => false
  | .ext o v, st => match st with
    | .Expr (.Call (.Attribute x m ap) [y] [] p) _ => decide (m = "extend") && (noK x && ((ap.endLine == p.line) && (plnB y && (ckE k o x && ckE k v y))))
    | _ => false
  | .drop e, st => match st with
    | .Expr v _ => noC v && ckE k e v
    | _ => false
  | .doc, st => match st with
    | .Expr (.Constant (.str _) _ _) _ => true
    | _ => false
  | .ret e, st => match st with
    | .Return (some v) _ => ckE k e v
    | _ => false
  | .ite c a b, st => match st with
    | .If t A B _ => ckE k c t && (ckSs k a A && ckSs k b B)
    | _ => false
  | .whl c b, st => match st with
    | .While t B [] _ => ckE k c t && ckSs k b B
    | _ => false
  | .fr t it b, st => match st with
    | .For tg iter B [] _ => k.tg t tg && (plnB iter && (ckI k it tg iter && ckSs k b B))
    | _ => false
  | .brk, st => match st with
    | .Break _ => true
    | _ => false
  | .never, _ => true
  | .rse c fl es, st => match st with
    | .Raise (some (.Call (.Name g _) (x :: xs) [] _)) none _ => decide (g = Str.ofString c) && (k.gl g && (!(g == ("__debug__" : Str)) && ((k.xs.any fun y => decide (y.name = c) && decide (y.fields = fl)) && ckEs k es (x :: xs))))
    | _ => false
  | .rett es, st => match st with
    | .Return (some (.Tuple xs _ _)) _ => decide (xs.length ≤ 1000) && ckEs k es xs
    | _ => false
  | .setf c o f e, st => match st with
    | .Assign [.Attribute x g _] v _ => decide (g = Str.ofString f) && ((match findC k.cs c with
      | some d => decide (f ∈ d.fields)
      | none => false) && (noC v && (ckE k o x && ckE k e v)))
    | _ => false
  | .augf c o f e, st => match st with
    | .AugAssign (.Attribute x g _) .Add v _ => decide (g = Str.ofString f) && ((match findC k.cs c with
      | some d => decide (f ∈ d.fields)
      | none => false) && (ckE k o x && ckE k e v))
    | _ => false
  | .tr kn b hs, st => match st with
    | .Try body (h₀ :: hds) [] [] _ => ckSs k b body && ((kn.all fun c => k.xs.any fun x => decide (x.name = c)) && ckHd k hs (h₀ :: hds))
    | _ => false
def ckSs (k : Ck) : Sms → List Stmt → Bool
  | .nil, xs => xs.isEmpty
  | .cons s ss, xs => match xs with
    | x :: xs => ckS k s x && ckSs k ss xs
    | [] => false
end
theorem OkS.congr {X : Cx} {W : WX} {x : Stmt} {f f' : Sg → Mem → Ro} (h : OkS X W x f) (e : ∀ g M, f' g M = f g M) : OkS X W x f' := by
  have : f' = f := funext fun g => funext fun M => e g M
  rw [this]
  exact h
theorem OkSs.congr {X : Cx} {W : WX} {x : List Stmt} {f f' : Sg → Mem → Ro} (h : OkSs X W x f) (e : ∀ g M, f' g M = f g M) : OkSs X W x f' := by
  have : f' = f := funext fun g => funext fun M => e g M
  rw [this]
  exact h
structure GS (wh : Wh) (n : Nat) (k : Ck) (X : Cx) (W : WX) : Prop extends GX wh n k X W where
  kind : k.sc.kind = .function
  own : PassesOwn (model X.prog X.w) X.A X.env X.xe
  whk : WhOk wh
  stk : X.stack = X.env :: X.outer
  frm : X.env.frame = some X.env.locals
section
variable {wh : Wh} {n : Nat} {k : Ck} {X : Cx} {W : WX}
theorem GX.lc_of (G : GX wh n k X W) {elt : Ex} {t : Tg} {it : It} {ifs : Exs} {own : List Nat} {e : Expr} (h : ckE k (.lc elt t it ifs own) e = true) :
    ∃ x tg i fs scope p, e = .ListComp x [⟨tg, i, fs, 0⟩] scope p ∧ Pln i ∧ OkI X W tg i (evIt (KF wh k n) it) ∧ LcOk X t tg x fs scope (ownP k.N own) (evTs (KF wh k n) ifs) (ev (KF wh k n) elt) := by
  simp only [ckE] at h
  split at h
  · rename_i x tg i fs scope p
    obtain ⟨h1, h⟩ := ab h
    obtain ⟨h2, h⟩ := ab h
    obtain ⟨h3, h⟩ := ab h
    obtain ⟨h4, h⟩ := ab h
    obtain ⟨h5, h⟩ := ab h
    obtain ⟨h6, h7⟩ := ab h
    obtain ⟨h4, h8⟩ := ab h4
    exact ⟨x, tg, i, fs, scope, p, rfl, pln_of h2, ckI_ok it h1 G, by rw [G.hN, G.sc]; exact blkOk_by h3, fun i hi => by rw [ownP_snd]; exact of_decide_eq_true (List.all_eq_true.mp h8 i hi), tg_pr h4, fun s H C cl fp => (G.blk scope s H C cl fp).tg_of h4,
          fun s H C cl fp => (ckEs_ok ifs h6 (G.blk scope s H C cl fp)).2.2.2.2.2 (of_decide_eq_true h5), fun s H C cl fp => (ckE_ok elt h7 (G.blk scope s H C cl fp)).1⟩
  · cases h
theorem GX.lc2_of (G : GX wh n k X W) {elt : Ex} {t t1 : Tg} {it it1 : It} {ifs ifs1 : Exs} {own own1 : List Nat} {e : Expr} (h : ckE k (.lc2 elt t it ifs own t1 it1 ifs1 own1) e = true) :
    ∃ x tg i fs tg1 i1 fs1 scope p, e = .ListComp x [⟨tg, i, fs, 0⟩, ⟨tg1, i1, fs1, 0⟩] scope p ∧ Pln i ∧ OkI X W tg i (evIt (KF wh k n) it) ∧ Lc2Ok X t t1 tg tg1 i1 x fs fs1 scope (ownP k.N own) own1 (evTs (KF wh k n) ifs) (evIt (KF wh k n) it1) (evTs (KF wh k n) ifs1) (ev (KF wh k n) elt) := by
  simp only [ckE] at h
  split at h
  · rename_i x tg i fs tg1 i1 fs1 scope p
    obtain ⟨h1, h⟩ := ab h
    obtain ⟨h2, h⟩ := ab h
    obtain ⟨h3, h⟩ := ab h
    obtain ⟨h4, h⟩ := ab h
    obtain ⟨h5, h⟩ := ab h
    obtain ⟨h6, h⟩ := ab h
    obtain ⟨h7, h⟩ := ab h
    obtain ⟨h8, h⟩ := ab h
    obtain ⟨h9, h⟩ := ab h
    obtain ⟨h10, h⟩ := ab h
    obtain ⟨h11, h⟩ := ab h
    obtain ⟨h12, h13⟩ := ab h
    exact ⟨x, tg, i, fs, tg1, i1, fs1, scope, p, rfl, pln_of h2, ckI_ok it h1 G, lc2_blk G h3 h4 h5 h6 h7 h8 h9 h10 h11 h12 h13 (fun G' => (ckEs_ok ifs h6 G').2.2.2.2.2 (of_decide_eq_true h5)) (fun G' => (ckEs_ok ifs1 h12 G').2.2.2.2.2 (of_decide_eq_true h11)) (fun G' => (ckE_ok elt h7 G').1) (fun G' => ckIr_ok (k := k.blk scope) it1 h13 G')⟩
  · cases h
theorem GS.kindX (G : GS wh n k X W) : X.env.scope.kind = .function := by rw [G.sc]; exact G.kind
theorem GS.sw_t (G : GS wh n k X W) {x : Str} {px p : Pos} {y : Expr} {gs : List Comprehension} {scope : Scope} {l : Nat} (h : swL k x px scope p = true) :
    X.env.scope.names.lookup x = some .local ∧ swapsWith (.ListComp y gs scope p) (some (.Name x px)) l X.env = pure true := by
  obtain ⟨h1, h⟩ := ab h
  obtain ⟨h2, h3⟩ := ab h
  have e : X.env.scope.names.lookup x = some .local := by rw [G.sc]; exact of_decide_eq_true h1
  exact ⟨e, sw_true G.kindX e h2 (notT h3)⟩
theorem GS.sw_tD (G : GS wh n k X W) {x : Str} {px p : Pos} {ka va : Expr} {gs : List Comprehension} {scope : Scope} {l : Nat} (h : swL k x px scope p = true) :
    X.env.scope.names.lookup x = some .local ∧ swapsWith (.DictComp ka va gs scope p) (some (.Name x px)) l X.env = pure true := by
  obtain ⟨h1, h⟩ := ab h
  obtain ⟨h2, h3⟩ := ab h
  have e : X.env.scope.names.lookup x = some .local := by rw [G.sc]; exact of_decide_eq_true h1
  refine ⟨e, ?_⟩
  have ky : X.env.kindOf x = some .local := e
  have hb : X.env.blockKind = .function := by unfold Env.blockKind; rw [G.kindX]; rfl
  unfold swapsWith
  simp only [hb, ky, notT h3, Expr.pos, h2]
  rfl
theorem GS.sw_f (G : GS wh n k X W) {x : Str} {px p : Pos} {y : Expr} {gs : List Comprehension} {scope : Scope} {l : Nat} (h : swL k x px scope p = false) :
    swapsWith (.ListComp y gs scope p) (some (.Name x px)) l X.env = pure false := by
  refine sw_false ?_
  unfold swL at h
  have e : (X.env.kindOf x == some .local) = decide (k.sc.names.lookup x = some .local) := by
    show (X.env.scope.names.lookup x == some .local) = _
    rw [G.sc]
    by_cases z : k.sc.names.lookup x = some .local
    · rw [z]; simp
    · simp [z]
  rw [e, Bool.and_assoc, Bool.and_assoc, h, Bool.and_false]
theorem stores_none {t : Expr} {v : Expr} {env : Env} (h : noTup v = true) : swappedStores [t] v env = pure none := by
  cases v <;> first | (cases t <;> rfl) | cases h
theorem stores_sub {o i v : Expr} {p : Pos} {env : Env} : swappedStores [.Subscript o i p] v env = pure none := by
  cases v <;> rfl
theorem assign_sub {o i : Expr} {p : Pos} {env : Env} (h : noSl i = true) : ∀ u, assign (.Subscript o i p) env u = (do
      let ov ← holding [u] (eval o env)
      let iv ← holding [u, ov] (eval i env)
      standAt p
      holding [u, ov, iv] (setItem ov iv u)
      release [u, ov, iv] []) := by
  intro u
  cases i <;> first | rfl | cases h
theorem stores_par {x y : Str} {px py pt pt2 : Pos} {u v : Expr} {kt k2 : Nat} {env : Env} (hk : env.scope.kind = .function) (hx : env.scope.names.lookup x = some .local) (hy : env.scope.names.lookup y = some .local) (hu : Pln u) (hv : Pln v) (hl : (py.line == px.line) = true) (hne : x ≠ y)
    (h1 : [u, v].all (foldedForSure 8) = false) (h2 : [u, v].all (constantsAlone 8) = false) : swappedStores [.Tuple [.Name x px, .Name y py] kt pt] (.Tuple [u, v] k2 pt2) env = pure (some [x, y]) := by
  have kx : env.kindOf x = some .local := hx
  have ky : env.kindOf y = some .local := hy
  have hb : env.blockKind = .function := by unfold Env.blockKind; rw [hk]; rfl
  have hs : ([u, v].any fun | .Starred .. => true | _ => false) = false := by
    cases u <;> cases v <;> first | rfl | exact hu.elim | exact hv.elim
  have hne' : (y == x) = false := by simpa using Ne.symm hne
  have hl' : py.line = px.line := by simpa using hl
  unfold swappedStores
  simp only [List.any_cons, List.any_nil] at hs
  simp [hb, kx, ky, hs, h1, h2, hl', Expr.pos, List.eraseDups, hne']
  have e3 : (List.eraseDupsBy (fun x1 x2 => x1 == x2) [x, y]).length = 2 := by
    simp [List.eraseDupsBy, List.eraseDupsBy.loop, hne']
  simp only [e3, if_true]
  refine if_neg fun z => ?_
  clear hs h1 h2 e3
  rcases z with z | z
  · cases u <;> first | exact hu.elim | cases z
  · cases v <;> first | exact hv.elim | cases z
theorem ckN_ok {e : Nw} {v : Expr} (h2 : ckN k e v = true) (G : GS wh n k X W) : OkN X W v (evN (KF wh k n) e) := by
  cases e with
  | lst es =>
    simp only [ckN] at h2
    split at h2
    · obtain ⟨q1, q2⟩ := ab h2
      exact okN_lst (ckEs_ok es q2 G.toGX).1 (of_decide_eq_true q1) fun g M vs M' e => by rw [evs_len _ e, ckEs_len q2]
    · cases h2
  | lis a =>
    simp only [ckN] at h2
    split at h2
    · obtain ⟨q1, q2⟩ := ab h2
      obtain ⟨q2, q3⟩ := ab q2
      obtain ⟨rfl, hg, hm⟩ := G.bu_of q1
      exact okN_list G.calm hg hm (pln_of q2) (ckE_ok a q3 G.toGX).1
    · cases h2
  | rng a =>
    simp only [ckN] at h2
    split at h2
    · obtain ⟨q1, q2⟩ := ab h2
      obtain ⟨q2, q3⟩ := ab q2
      obtain ⟨q3, q4⟩ := ab q3
      obtain ⟨rfl, hg, hm⟩ := G.bu_of q1
      obtain ⟨rfl, hg2, hm2⟩ := G.bu_of q2
      exact okN_rng1 G.calm hg2 hm2 hg hm (pln_of q3) (ckE_ok a q4 G.toGX).1
    · cases h2
  | add a b =>
    simp only [ckN] at h2
    split at h2
    · obtain ⟨q1, q2⟩ := ab h2
      exact okN_add (ckE_ok a q1 G.toGX).1 (ckE_ok b q2 G.toGX).1
    · cases h2
  | mul a b =>
    simp only [ckN] at h2
    split at h2
    · obtain ⟨q1, q2⟩ := ab h2
      exact okN_mul (ckE_ok a q1 G.toGX).1 (ckE_ok b q2 G.toGX).1
    · cases h2
  | lc elt t it ifs own =>
    have h2 : ckE k (.lc elt t it ifs own) v = true := h2
    obtain ⟨x', tg', i', fs', scope', p', rfl, hpi, hi, hb⟩ := G.toGX.lc_of h2
    have key := okN_lc (pos := p') G.calm G.nd hpi hi hb
    rw [ownP_snd] at key
    exact key
/-! exceptions -/
section
variable {a : Addr} {o : Obj} {cls : Value} {d : Option Addr} {pn : List (Addr × Obj)} {oi : Option Nat}
theorem GX.nm_of (G : GX wh n k X W) {i : Nat} {x : Str} {p : Pos} (h : ckE k (.var i) (.Name x p) = true) : X.N[i]? = some x ∧ Vis X.env.scope x ∧ (x == ("__debug__" : Str)) = false ∧ (x == ("__classdict__" : Str)) = false := by
  simp only [ckE] at h
  obtain ⟨h1, h⟩ := ab h
  obtain ⟨h2, h⟩ := ab h
  obtain ⟨h3, h4⟩ := ab h
  exact ⟨by rw [G.hN]; exact of_decide_eq_true h1, G.vis_of h2, notT h3, notT h4⟩
theorem evUs_len {c : String} {fs : List (String × D)} : ∀ {es : SuEs} {xs : List Expr} {l : List D}, ckUs k oi es xs = true → evUs c fs es = some l → l.length = xs.length
  | .nil, xs, l, h, e => by
    simp only [ckUs, List.isEmpty_iff] at h
    simp only [evUs, Option.some.injEq] at e
    subst h e
    rfl
  | .cons u us, xs, l, h, e => by
    cases xs with
    | nil => simp [ckUs] at h
    | cons x xs =>
      simp only [ckUs] at h
      simp only [evUs] at e
      obtain ⟨v, _, e⟩ := Option.bind_eq_some_iff.mp e
      obtain ⟨vs, e2, rfl⟩ := Option.map_eq_some_iff.mp e
      rw [List.length_cons, List.length_cons, evUs_len (ab (ab h).2).2 e2]
theorem GX.isi_of (G : GX wh n k X W) (hz : Zc cls d o) (hf : ∃ vs, o.data = .fields vs) {t : String} {e : Expr} (h : ckIs k oi t e = true) : PE (X.suite a ((a, o) :: pn)) e (PU k.xs X.K oi a cls d fun c _ => some (.bool (isSub c t))) := by
  unfold ckIs at h
  split at h
  · rename_i i f p0 n' p y p1 p2
    obtain ⟨a1, b1⟩ := ab h
    obtain ⟨a2, b2⟩ := ab b1
    obtain ⟨a3, b3⟩ := ab b2
    obtain ⟨a4, b4⟩ := ab b3
    clear h b1 b2 b3
    obtain ⟨ef, hg, hm⟩ := G.bu_of a1
    obtain ⟨q1, q2, q3, q4⟩ := G.nm_of a2
    have hn : PE (X.suite a ((a, o) :: pn)) (.Name n' p) (tVar i) := u_name q1 q2 q3 q4
    have ey : y = Str.ofString t := of_decide_eq_true a3
    clear a1 a2 a3
    subst ef
    by_cases ht : t = "ValueError"
    · rw [if_pos ht] at b4
      obtain ⟨ey2, hg2, hm2⟩ := G.bu_of b4
      clear b4
      subst ey2
      have hcE : PE (X.suite a ((a, o) :: pn)) (.Name "ValueError" p1) (tC (.ty "ValueError")) := pe_bltn (X := X.suite a ((a, o) :: pn)) (u := .type _) hg2 hm2 (by decide +kernel) rfl (by decide) (by decide)
      exact u_isG (cv := .type "ValueError") (c0 := .ty "ValueError") (fun x hx => (G.exc x hx).k1) (fun u r => r) (fun x hx => by rw [(G.exc x hx).k1.kVE, ht]; simp [isSub]) hz hf hg hm hn trivial trivial hcE
    · rw [if_neg ht] at b4
      obtain ⟨a5, a6⟩ := ab b4
      have h6 : t ∈ k.ts := of_decide_eq_true a6
      subst ey
      have hcE : PE (X.suite a ((a, o) :: pn)) (.Name (Str.ofString t) p1) (tC (.ref (He.ga X.K (Str.ofString t)))) := pe_glob (X := X.suite a ((a, o) :: pn)) (G.gl_of a5) (G.exm t h6) rfl (notT a4)
      exact u_isG (cv := .ref (He.ga X.K (Str.ofString t))) (c0 := .ref (He.ga X.K (Str.ofString t))) (fun x hx => (G.exc x hx).k1) (fun u r => r) (fun x hx => (G.exc x hx).k1.kit t h6) hz hf hg hm hn trivial trivial hcE
  · cases h
theorem GX.ut_of (G : GX wh n k X W) (hz : Zc cls d o) (hf : ∃ vs, o.data = .fields vs) {ts : List String} {e : Expr} (h : ckUt k oi ts e = true) : PT (X.suite a ((a, o) :: pn)) e (PUt k.xs X.K oi a cls d fun c => ts.all (isSub c)) := by
  have tr : ∀ {e : Expr}, callB e = true → ∀ whole, isTrue e X.env whole = (do let v ← whole; standAt e.pos; holding [v] (truthy v)) := fun {e} h => by cases e <;> first | (cases h; done) | exact fun _ => rfl
  unfold ckUt at h
  split at h
  · obtain ⟨h1, h2⟩ := ab h
    have := u_t1 (G.isi_of (a := a) (pn := pn) hz hf h2) (tr h1)
    refine this.imp fun s H Q ⟨io, M, c, fs, rm, sx, hq⟩ => ⟨io, M, c, fs, rm, sx, fun io' H' g' rm' => ?_⟩
    have := hq io' H' g' rm'
    simpa using this
  · obtain ⟨h1, h2⟩ := ab h
    obtain ⟨h1, h3⟩ := ab h1
    obtain ⟨h2, h4⟩ := ab h2
    have := u_t2 (pos := ‹Pos›) (u_t1 (G.isi_of (a := a) (pn := pn) hz hf h2) (tr h1)) (u_t1 (G.isi_of (a := a) (pn := pn) hz hf h4) (tr h3))
    refine this.imp fun s H Q ⟨io, M, c, fs, rm, sx, hq⟩ => ⟨io, M, c, fs, rm, sx, fun io' H' g' rm' => ?_⟩
    have := hq io' H' g' rm'
    simpa using this
  · cases h
mutual
theorem ckU_ok (G : GX wh n k X W) (hz : Zc cls d o) (hf : ∃ vs, o.data = .fields vs) : ∀ (u : SuE) {e : Expr}, ckU k oi u e = true → PE (X.suite a ((a, o) :: pn)) e (PU k.xs X.K oi a cls d fun c fs => evU c fs u)
  | .con v, e, h => by
    simp only [ckU] at h
    split at h
    · exact (u_con h).imp fun s H Q q => by simpa only [evU] using q
    · cases h
  | .fld q f, e, h => by
    simp only [ckU] at h
    split at h
    · obtain ⟨h1, h⟩ := ab h
      obtain ⟨h2, h3⟩ := ab h
      obtain ⟨x, hx, h3⟩ := List.any_eq_true.mp h3
      obtain ⟨h3, h4⟩ := ab h3
      obtain ⟨q1, q2, q3, q4⟩ := G.nm_of h1
      have e1 := of_decide_eq_true h2
      have e2 := of_decide_eq_true h3
      subst e1 e2
      exact (u_fld hx (G.exc x hx).k1 (of_decide_eq_true h4) hz hf (u_name q1 q2 q3 q4) rfl).imp fun s H Q q => by simpa only [evU] using q
    · cases h
  | .tup es, e, h => by
    simp only [ckU] at h
    split at h
    · obtain ⟨h1, h2⟩ := ab h
      have h1 := of_decide_eq_true h1
      exact (u_tup (fun c fs l e => by rw [evUs_len h2 e]; exact h1) (ckUs_ok G hz hf es h2)).imp fun s H Q q => by simpa only [evU] using q
    · cases h
  | .lst es, e, h => by
    simp only [ckU] at h
    split at h
    · obtain ⟨h1, h2⟩ := ab h
      have h1 := of_decide_eq_true h1
      exact (u_lst (fun c fs l e => by rw [evUs_len h2 e]; exact h1) (ckUs_ok G hz hf es h2)).imp fun s H Q q => by simpa only [evU] using q
    · cases h
  | .isi t, e, h => (G.isi_of hz hf (by simpa only [ckU] using h)).imp fun s H Q q => by simpa only [evU] using q
  | .ite ts x y, e, h => by
    simp only [ckU] at h
    split at h
    · obtain ⟨h1, h⟩ := ab h
      obtain ⟨h2, h3⟩ := ab h
      exact (u_ite (G.ut_of hz hf h1) (ckU_ok G hz hf x h2) (ckU_ok G hz hf y h3)).imp fun s H Q q => by simpa only [evU] using q
    · cases h
theorem ckUs_ok (G : GX wh n k X W) (hz : Zc cls d o) (hf : ∃ vs, o.data = .fields vs) : ∀ (us : SuEs) {es : List Expr}, ckUs k oi us es = true → PA (X.suite a ((a, o) :: pn)) es (PUs k.xs X.K oi a cls d fun c fs => evUs c fs us)
  | .nil, es, h => by
    simp only [ckUs, List.isEmpty_iff] at h
    subst h
    exact u_nil.imp fun s H Q q => by simpa only [evUs] using q
  | .cons u us, es, h => by
    cases es with
    | nil => simp [ckUs] at h
    | cons e es =>
      simp only [ckUs] at h
      obtain ⟨h1, h⟩ := ab h
      obtain ⟨h2, h3⟩ := ab h
      exact (u_cons (pln_of h1) (ckU_ok G hz hf u h2) (ckUs_ok G hz hf us h3)).imp fun s H Q q => by simpa only [evUs] using q
end
theorem ckSu_ok (G : GX wh n k X W) (hz : Zc cls d o) (hf : ∃ vs, o.data = .fields vs) : ∀ (u : Su) {sts : List Stmt}, ckSu k oi u sts = true → PSs (X.suite a ((a, o) :: pn)) sts (TU k.xs X.K oi a cls d fun c fs g M => runU c fs u g M)
  | .ret v, sts, h => by
    simp only [ckSu] at h
    split at h
    · exact (su_ret (ckU_ok G hz hf v h)).imp fun E s H q => by simpa only [runU] using q
    · cases h
  | .ifr ts v r, sts, h => by
    simp only [ckSu] at h
    split at h
    · obtain ⟨h1, h⟩ := ab h
      obtain ⟨h2, h3⟩ := ab h
      exact (su_ifr (G.ut_of hz hf h1) (ckU_ok G hz hf v h2) (ckSu_ok G hz hf r h3)).imp fun E s H q => by simpa only [runU] using q
    · cases h
  | .app j v r, sts, h => by
    simp only [ckSu] at h
    split at h
    · obtain ⟨h1, h⟩ := ab h
      obtain ⟨h2, h⟩ := ab h
      obtain ⟨h3, h⟩ := ab h
      obtain ⟨h4, h⟩ := ab h
      obtain ⟨h5, h6⟩ := ab h
      have e := of_decide_eq_true h1
      subst e
      obtain ⟨q1, q2, q3, q4⟩ := G.nm_of h2
      exact (su_app q1 q2 q3 q4 (pln_of h4) (ckU_ok G hz hf v h5) h3 (ckSu_ok G hz hf r h6)).imp fun E s H q => by
        have e : (fun c fs (g : Sg) (M : Mem) => runU c fs (.app j v r) g M) = fun c fs g M => match g[j]? with
          | some (some x) => (evU c fs v).bind fun d => (appOf x (.p d) M).bind fun M' => runU c fs r g M'
          | _ => none := by
            funext c fs g M
            simp only [runU]
            try (rcases g[j]? with _ | _ | _ <;> rfl)
        rw [e] at q
        exact q
    · cases h
  | .done, sts, h => by
    simp only [ckSu, List.isEmpty_iff] at h
    subst h
    exact su_done.imp fun E s H q => by simpa only [runU] using q
end
def cmOf (h : Hd) : CM := ⟨h.cls, h.slot, fun c fs g M => runU c fs h.su g M⟩
theorem catch_cm {c : String} {fs : List (String × D)} {g : Sg} {M : Mem} : ∀ hs : List Hd, catchX c fs hs g M = catchM c fs (hs.map cmOf) g M
  | [] => rfl
  | h :: hs => by
    show (if isSub c h.cls then (if slotIn h.slot g then endU h.slot (runU c fs h.su (offG h.slot g) M) else none) else catchX c fs hs g M) = _
    rw [catch_cm hs]
    rfl
theorem ckHd_ok (G : GX wh n k X W) : ∀ (hs : List Hd) {es : List ExceptHandler}, ckHd k hs es = true → ClOk X es ((hs.map cmOf).map (CM.cl k.xs X.K)) ∧ ∀ h, h ∈ hs.map cmOf → h.cls ∈ k.ts
  | [], es, h => by
    simp only [ckHd, List.isEmpty_iff] at h
    subst h
    exact ⟨.nil, fun h z => by cases z⟩
  | h :: hs, es, hh => by
    simp only [ckHd] at hh
    split at hh
    · rename_i x px nm b bs px2 hds
      obtain ⟨h1, hh⟩ := ab hh
      obtain ⟨h2, hh⟩ := ab hh
      obtain ⟨h3, hh⟩ := ab hh
      obtain ⟨h4, hh⟩ := ab hh
      obtain ⟨h5, hh⟩ := ab hh
      obtain ⟨h6, h7⟩ := ab hh
      obtain ⟨r1, r2⟩ := ckHd_ok G hs h7
      have e := of_decide_eq_true h1
      have h4 := of_decide_eq_true h4
      subst e
      refine ⟨.cons ⟨G.gl_of h2, notT h3, .inl (G.exm _ h4)⟩ ?_ (fun a o cls d pn hz hf => ckSu_ok G hz hf h.su h6) r1, fun c hc => ?_⟩
      · show NmOk X nm h.slot
        cases e1 : h.slot with
        | none =>
          rw [e1] at h5
          cases nm with
          | none => trivial
          | some _ => cases h5
        | some i =>
          rw [e1] at h5
          cases nm with
          | none => cases h5
          | some nn =>
            obtain ⟨q1, q2⟩ := ab h5
            exact ⟨by rw [G.hN]; exact of_decide_eq_true q1, by show X.env.scope.names.lookup nn = _; rw [G.sc]; exact of_decide_eq_true q2⟩
      · rcases List.mem_cons.mp hc with z | z
        · subst z
          exact h4
        · exact r2 c z
    · cases hh
mutual
theorem ckS_ok : ∀ (s : Sm) {k : Ck} {st : Stmt} {X : Cx} {W : WX}, ckS k s st = true → GS wh n k X W → OkS X W st (exec (KF wh k n) wh s)
  | .set t e, k, st, X, W, h, G => by
    simp only [ckS] at h
    split at h
    · rename_i tg v pos
      obtain ⟨h1, h⟩ := ab h
      obtain ⟨h2, h3⟩ := ab h
      have ht := G.tg_of h1
      cases t with
      | nm i =>
        obtain ⟨x, px, rfl, hx⟩ := ht
        by_cases hv : noC v = true
        · exact (okS_set G.nd hx (ckE_ok e h2 G.toGX).1 (sw_none (noC_of hv))).congr fun g M => by simp only [exec]
        · have : ∃ y gs sc p, v = .ListComp y gs sc p := by
            cases v <;> first | exact absurd rfl hv | exact ⟨_, _, _, _, rfl⟩ | cases h3
          obtain ⟨y, gs, sc, p, rfl⟩ := this
          cases hs : swL k x px sc p with
          | false => exact (okS_set G.nd hx (ckE_ok e h2 G.toGX).1 (G.sw_f hs)).congr fun g M => by simp only [exec]
          | true =>
            cases e with
            | lc elt t it ifs own =>
              obtain ⟨x', tg', i', fs', scope', p', e1, hpi, hi, hb⟩ := G.toGX.lc_of h2
              cases e1
              obtain ⟨hl, hw⟩ := G.sw_t (l := pos.line) (y := y) (gs := [⟨tg', i', fs', 0⟩]) hs
              have key := okS_setLc (pos := pos) G.calm G.nd hx.1 hl hw hpi hi hb
              rw [ownP_snd] at key
              exact key.congr fun g M => by simp only [exec, ev]
            | lc2 elt t it ifs own t1 it1 ifs1 own1 =>
              obtain ⟨x', tg', i', fs', tg1', i1', fs1', scope', p', e1, hpi, hi, hb⟩ := G.toGX.lc2_of h2
              cases e1
              obtain ⟨hl, hw⟩ := G.sw_t (l := pos.line) (y := y) (gs := [⟨tg', i', fs', 0⟩, ⟨tg1', i1', fs1', 0⟩]) hs
              have key := okS_setLc2 (pos := pos) G.calm G.nd hx.1 hl hw hpi hi hb
              rw [ownP_snd] at key
              exact key.congr fun g M => by simp only [exec, ev]
            | _ => simp [ckE] at h2
      | tp is =>
        obtain ⟨es, q, p, rfl, hx⟩ := ht
        exact (okS_setT G.calm G.nd ⟨es, q, p, rfl, hx⟩ (ckE_ok e h2 G.toGX).1 (stores_none h3)).congr fun g M => by
          simp only [exec]
          cases ev (KF wh k n) e g M with
          | bad => rfl
          | exc => rfl
          | ok v M1 => cases v <;> rfl
    · cases h
  | .new i e, k, st, X, W, h, G => by
    simp only [ckS] at h
    split at h
    · rename_i x px v pos
      obtain ⟨h1, h⟩ := ab h
      obtain ⟨h2, h3⟩ := ab h
      have hx := G.tn_of h1
      cases hs : (match v with
        | .ListComp y gs sc p => swL k x px sc p
        | _ => false) with
      | false =>
        refine (okS_new G.nd hx (ckN_ok h2 G) ?_).congr fun g M => by simp only [exec]
        cases v <;> first | exact G.sw_f hs | exact sw_none trivial | cases h3
      | true =>
        cases v with
        | ListComp y gs sc p =>
          cases e with
          | lc elt t it ifs own =>
            obtain ⟨x', tg', i', fs', scope', p', e1, hpi, hi, hb⟩ := G.toGX.lc_of (show ckE k (.lc elt t it ifs own) (.ListComp y gs sc p) = true from h2)
            cases e1
            obtain ⟨hl, hw⟩ := G.sw_t (l := pos.line) (y := y) (gs := [⟨tg', i', fs', 0⟩]) hs
            have key := okS_newLc (pos := pos) G.calm G.nd hx.1 hl hw hpi hi hb
            rw [ownP_snd] at key
            exact key.congr fun g M => by simp only [exec, evN]
          | _ => cases h3
        | _ => cases hs
    · cases h
  | .newd i kx vx tg it ifs own, k, st, X, W, h, G => by
    simp only [ckS] at h
    split at h
    · rename_i x px ka va t iter fs scope p pos
      obtain ⟨h0, h⟩ := ab h
      obtain ⟨h1, h⟩ := ab h
      obtain ⟨h2, h⟩ := ab h
      obtain ⟨h3, h⟩ := ab h
      obtain ⟨h4, h⟩ := ab h
      obtain ⟨h5, h⟩ := ab h
      obtain ⟨h6, h⟩ := ab h
      obtain ⟨h7, h⟩ := ab h
      obtain ⟨h8, h9⟩ := ab h
      obtain ⟨h5, h10⟩ := ab h5
      have hblk : BlkOk X.N X.env.scope scope (ownP k.N own) := by rw [G.hN, G.sc]; exact blkOk_by h4
      have hsub : ∀ i ∈ tgSlots tg, i ∈ (ownP k.N own).map (·.2) := fun i hi => by rw [ownP_snd]; exact of_decide_eq_true (List.all_eq_true.mp h10 i hi)
      have hb : DcOk X tg t ka va fs scope (ownP k.N own) (evTs (KF wh k n) ifs) (ev (KF wh k n) kx) (ev (KF wh k n) vx) :=
        ⟨⟨hblk, hsub, tg_pr h5, fun s H C cl fp => (G.toGX.blk scope s H C cl fp).tg_of h5, fun s H C cl fp => (ckEs_ok ifs h7 (G.toGX.blk scope s H C cl fp)).2.2.2.2.2 (of_decide_eq_true h6), fun s H C cl fp => (ckE_ok kx h8 (G.toGX.blk scope s H C cl fp)).1⟩,
          ⟨hblk, hsub, tg_pr h5, fun s H C cl fp => (G.toGX.blk scope s H C cl fp).tg_of h5, fun s H C cl fp => (ckEs_ok ifs h7 (G.toGX.blk scope s H C cl fp)).2.2.2.2.2 (of_decide_eq_true h6), fun s H C cl fp => (ckE_ok vx h9 (G.toGX.blk scope s H C cl fp)).1⟩⟩
      obtain ⟨hl, hw⟩ := G.sw_tD (l := pos.line) (ka := ka) (va := va) (gs := [⟨t, iter, fs, 0⟩]) h1
      have key := okS_newd (pos := pos) G.calm G.nd (by rw [G.hN]; exact of_decide_eq_true h0) hl hw (pln_of h3) (ckI_ok it h2 G.toGX) hb
      rw [ownP_snd] at key
      exact key.congr fun g M => by simp only [exec]
    · cases h
  | .newp i ps, k, st, X, W, h, G => by
    simp only [ckS] at h
    split at h
    · rename_i x px ks vs _ _
      obtain ⟨h1, h⟩ := ab h
      obtain ⟨h2, h3⟩ := ab h
      by_cases h0 : ks = []
      · subst h0
        cases ps with
        | nil =>
          have hv : vs = [] := by simpa [ckP] using h3
          subst hv
          exact (okS_newp0 G.nd (G.tn_of h1)).congr fun g M => by simp only [exec, evP, lift_ok, List.foldl_nil]
        | cons _ _ _ => simp [ckP] at h3
      · exact (okS_newp G.nd (G.tn_of h1) (ckP_ok ps h3 G.toGX) h0 (of_decide_eq_true h2)).congr fun g M => by simp only [exec]
    · cases h
  | .newt i a b, k, st, X, W, h, G => by
    simp only [ckS] at h
    split at h
    · obtain ⟨h1, h⟩ := ab h
      obtain ⟨h2, h3⟩ := ab h
      exact (okS_newt (by have := G.hu; omega) G.nd (G.tn_of h1) (ckE_ok a h2 G.toGX).1 (ckE_ok b h3 G.toGX).1).congr fun g M => by simp only [exec]
    · cases h
  | .retn e, k, st, X, W, h, G => by
    simp only [ckS] at h
    split at h
    · exact (okS_retn (ckN_ok h G)).congr fun g M => by simp only [exec]
    · cases h
  | .par i j a b, k, st, X, W, h, G => by
    simp only [ckS] at h
    split at h
    · obtain ⟨h1, h⟩ := ab h
      obtain ⟨h2, h⟩ := ab h
      obtain ⟨h3, h⟩ := ab h
      obtain ⟨h4, h⟩ := ab h
      obtain ⟨h5, h⟩ := ab h
      obtain ⟨h6, h⟩ := ab h
      obtain ⟨h7, h⟩ := ab h
      obtain ⟨h8, h⟩ := ab h
      obtain ⟨h9, h⟩ := ab h
      obtain ⟨h10, h⟩ := ab h
      obtain ⟨h11, h⟩ := ab h
      obtain ⟨h12, h13⟩ := ab h
      have hx := of_decide_eq_true h4
      have hy := of_decide_eq_true h5
      rw [← G.sc] at hx hy
      exact (okS_par G.calm G.nd (by rw [G.hN]; exact of_decide_eq_true h1) (by rw [G.hN]; exact of_decide_eq_true h2) (of_decide_eq_true h3) hx hy (pln_of h6) (pln_of h7) (ckE_ok a h8 G.toGX).1 (ckE_ok b h9 G.toGX).1
        (stores_par G.kindX hx hy (pln_of h6) (pln_of h7) h10 (of_decide_eq_true h11) (notT h12) (notT h13))).congr fun g M => by simp only [exec]
    · cases h
  | .put o i v, k, st, X, W, h, G => by
    simp only [ckS] at h
    split at h
    · obtain ⟨h1, h⟩ := ab h
      obtain ⟨h2, h⟩ := ab h
      obtain ⟨h3, h4⟩ := ab h
      exact (okS_put (ckE_ok v h4 G.toGX).1 (ckE_ok o h2 G.toGX).1 (ckE_ok i h3 G.toGX).1 (plainIx_of h1) (assign_sub h1) stores_sub).congr fun g M => by simp only [exec]
    · cases h
  | .putd o i v, k, st, X, W, h, G => by
    simp only [ckS] at h
    split at h
    · obtain ⟨h1, h⟩ := ab h
      obtain ⟨h2, h⟩ := ab h
      obtain ⟨h3, h4⟩ := ab h
      exact (okS_putd (by have := G.hu; omega) (ckE_ok v h4 G.toGX).1 (ckE_ok o h2 G.toGX).1 (ckE_ok i h3 G.toGX).1 (assign_sub h1) stores_sub).congr fun g M => by simp only [exec]
    · cases h
  | .app o v, k, st, X, W, h, G => by
    simp only [ckS] at h
    split at h
    · obtain ⟨h1, h⟩ := ab h
      obtain ⟨h2, h⟩ := ab h
      obtain ⟨h3, h⟩ := ab h
      obtain ⟨h4, h⟩ := ab h
      obtain ⟨h5, h6⟩ := ab h
      have e := of_decide_eq_true h1
      subst e
      exact (okS_app (ckE_ok o h5 G.toGX).1 (ckE_ok v h6 G.toGX).1 (pln_of h4) (noK_of h2) h3).congr fun g M => by simp only [exec]
    · cases h
  | .ext o v, k, st, X, W, h, G => by
    simp only [ckS] at h
    split at h
    · obtain ⟨h1, h⟩ := ab h
      obtain ⟨h2, h⟩ := ab h
      obtain ⟨h3, h⟩ := ab h
      obtain ⟨h4, h⟩ := ab h
      obtain ⟨h5, h6⟩ := ab h
      have e := of_decide_eq_true h1
      subst e
      exact (okS_ext (ckE_ok o h5 G.toGX).1 (ckE_ok v h6 G.toGX).1 (pln_of h4) (noK_of h2) h3).congr fun g M => by simp only [exec]
    · cases h
  | .drop e, k, st, X, W, h, G => by
    simp only [ckS] at h
    split at h
    · obtain ⟨h1, h2⟩ := ab h
      exact (okS_drop (noC_of h1) (ckE_ok e h2 G.toGX).1).congr fun g M => by simp only [exec]
    · cases h
  | .doc, k, st, X, W, h, G => by
    simp only [ckS] at h
    split at h
    · exact okS_doc.congr fun g M => by simp only [exec]
    · cases h
  | .ret e, k, st, X, W, h, G => by
    simp only [ckS] at h
    split at h
    · exact (okS_ret (ckE_ok e h G.toGX).1).congr fun g M => by simp only [exec]
    · cases h
  | .ite c a b, k, st, X, W, h, G => by
    simp only [ckS] at h
    split at h
    · obtain ⟨h1, h⟩ := ab h
      obtain ⟨h2, h3⟩ := ab h
      exact (okS_if (ckE_ok c h1 G.toGX).2 (ckSs_ok a h2 G) (ckSs_ok b h3 G)).congr fun g M => by simp only [exec]
    · cases h
  | .whl c b, k, st, X, W, h, G => by
    simp only [ckS] at h
    split at h
    · obtain ⟨h1, h2⟩ := ab h
      exact (okS_while G.whk G.own (ckE_ok c h1 G.toGX).2 (ckSs_ok b h2 G)).congr fun g M => by simp only [exec]
    · cases h
  | .fr t it b, k, st, X, W, h, G => by
    simp only [ckS] at h
    split at h
    · obtain ⟨h1, h⟩ := ab h
      obtain ⟨h2, h⟩ := ab h
      obtain ⟨h3, h4⟩ := ab h
      exact (okS_for G.own G.calm G.nd (pln_of h2) (ckI_ok it h3 G.toGX) (G.tg_of h1) (ckSs_ok b h4 G)).congr fun g M => by simp only [exec]
    · cases h
  | .brk, k, st, X, W, h, G => by
    simp only [ckS] at h
    split at h
    · exact okS_brk.congr fun g M => by simp only [exec]
    · cases h
  | .never, k, st, X, W, h, G => okS_never.congr fun g M => by simp only [exec]
  | .rse c fl es, k, st, X, W, h, G => by
    simp only [ckS] at h
    split at h
    · obtain ⟨h1, h⟩ := ab h
      obtain ⟨h2, h⟩ := ab h
      obtain ⟨h3, h⟩ := ab h
      obtain ⟨h4, h5⟩ := ab h
      obtain ⟨y, hy, h4⟩ := List.any_eq_true.mp h4
      obtain ⟨h4, h6⟩ := ab h4
      have e1 := of_decide_eq_true h1
      have e2 := of_decide_eq_true h4
      have e3 := of_decide_eq_true h6
      subst e1 e2 e3
      have xo := G.exc y hy
      obtain ⟨fd, F1, hb⟩ := xo.fn
      exact (okS_rse G.calm G.tk G.room xo.k1 xo.two xo.nd F1 hb (G.gl_of h2) xo.at_ (notT h3) (ckEs_pln h5) (ckEs_ok es h5 G.toGX).1).congr fun g M => by simp only [exec]
    · cases h
  | .rett es, k, st, X, W, h, G => by
    simp only [ckS] at h
    split at h
    · obtain ⟨h1, h2⟩ := ab h
      exact (okS_rett (ckEs_ok es h2 G.toGX).1 (of_decide_eq_true h1) fun g M vs M' e => by rw [evs_len _ e, ckEs_len h2]).congr fun g M => by simp only [exec]
    · cases h
  | .setf c o f e, k, st, X, W, h, G => by
    simp only [ckS] at h
    split at h
    · obtain ⟨h1, h⟩ := ab h
      obtain ⟨h2, h⟩ := ab h
      obtain ⟨h3, h⟩ := ab h
      obtain ⟨h4, h5⟩ := ab h
      have em := of_decide_eq_true h1
      subst em
      cases e2 : findC k.cs c with
      | none => rw [e2] at h2; cases h2
      | some d =>
        rw [e2] at h2
        obtain ⟨hd, rfl⟩ := findC_ok e2
        exact (okS_setf (G.cls d hd).k1 (of_decide_eq_true h2) (noC_of h3) (ckE_ok o h4 G.toGX).1 (ckE_ok e h5 G.toGX).1).congr fun g M => by simp only [exec]
    · cases h
  | .augf c o f e, k, st, X, W, h, G => by
    simp only [ckS] at h
    split at h
    · obtain ⟨h1, h⟩ := ab h
      obtain ⟨h2, h⟩ := ab h
      obtain ⟨h4, h5⟩ := ab h
      have em := of_decide_eq_true h1
      subst em
      cases e2 : findC k.cs c with
      | none => rw [e2] at h2; cases h2
      | some d =>
        rw [e2] at h2
        obtain ⟨hd, rfl⟩ := findC_ok e2
        exact (okS_augf (G.cls d hd).k1 (of_decide_eq_true h2) (ckE_ok o h4 G.toGX).1 (ckE_ok e h5 G.toGX).1).congr fun g M => by simp only [exec]
    · cases h
  | .tr kn b hs, k, st, X, W, h, G => by
    simp only [ckS] at h
    split at h
    · obtain ⟨h1, h⟩ := ab h
      obtain ⟨h2, h3⟩ := ab h
      obtain ⟨r1, r2⟩ := ckHd_ok G.toGX hs h3
      refine (okS_tr G.nd G.stk G.frm G.tk (fun x hx => (G.exc x hx).k1) (kn := kn) (fun c hc => ?_) r2 (fun W' pn xe t1 t2 => ckSs_ok b (X := X.tr pn xe) (W := W') h1
        { hN := G.hN, sc := G.sc, fn := G.fn, nd := G.nd, calm := G.calm, room := G.room, big := G.big, tk := t1, free := G.free, con := G.con, fns := G.fns, exc := fun x hx => let e := G.exc x hx; ⟨e.k1, e.two, e.nd, e.fn, e.at_⟩, exm := G.exm, cls := fun c hc => let e := G.cls c hc; ⟨e.k1, e.at_, e.ini⟩, mth := G.mth, kind := G.kind, own := t2, whk := G.whk, stk := G.stk, frm := G.frm }) r1).congr fun g M => ?_
      · obtain ⟨x, hx, e⟩ := List.any_eq_true.mp (List.all_eq_true.mp h2 c (by simpa using hc))
        exact ⟨x, hx, of_decide_eq_true e⟩
      · simp only [exec]
        cases execs (KF wh k n) wh b g M with
        | none => rfl
        | some q =>
          obtain ⟨fl, M1⟩ := q
          cases fl with
          | xc g1 c fs =>
            show (if kn.contains c then catchX c fs hs g1 M1 else none) = _
            rw [catch_cm]
          | _ => rfl
    · cases h
theorem ckSs_ok : ∀ (ss : Sms) {k : Ck} {sts : List Stmt} {X : Cx} {W : WX}, ckSs k ss sts = true → GS wh n k X W → OkSs X W sts (execs (KF wh k n) wh ss)
  | .nil, k, sts, X, W, h, G => by
    simp only [ckSs, List.isEmpty_iff] at h
    subst h
    exact okSs_nil.congr fun g M => by simp only [execs]
  | .cons s ss, k, sts, X, W, h, G => by
    cases sts with
    | nil => simp [ckSs] at h
    | cons x xs =>
      simp only [ckSs] at h
      exact (okSs_cons (ckS_ok s (ab h).1 G) (ckSs_ok ss (ab h).2 G)).congr fun g M => rfl
end
end
end Eg

/-! Engine, part M: a text of defs; the law. By an AI agent. -/
namespace Eg
open PySem PySem.Spec PyProof.Rows L2
/-- the j-th statement of a class -/
def clsSt (s : Stmt) (j : Nat) : Stmt := match s with
  | .ClassDef (body := b) .. => b.getD j (.Pass ⟨0, 0, 0, 0⟩)
  | _ => .Pass ⟨0, 0, 0, 0⟩
/-- a def of the row with its meaning's text -/
structure Pd where
  df : Df
  N : List Str
  dd : He.DefD
  cm : Option (String × String)
/-- the name by which the text's meaning knows it -/
def nameOf (f : String) : Option (String × String) → Bool
  | none => true
  | some (c, m) => decide (f = c ++ "." ++ m)
def atOf (f : String) : Option (String × String) → Str × Option Str
  | none => (Str.ofString f, none)
  | some (c, m) => (Str.ofString c, some (Str.ofString m))
def msOf (ps : List Pd) : List String := ps.filterMap fun p => p.cm.map fun _ => p.df.name
def ckF (frees : List Str) (cons : List (Str × D)) (xs : List Xd) (ts : List String) (cs : List Cd) (ms : List String) (defs : List Df) (p : Pd) : Bool :=
  p.dd.dfl.isEmpty && (p.dd.kwd.isEmpty && (match plainArgs p.dd.params with
    | none => false
    | some args => decide (p.N.take args.length = args.map (·.arg)) && (decide (args.length = p.df.np) && (decide (p.N.length = p.df.ns) && (decide p.N.Nodup && (isFn p.dd.scope && (!p.dd.scope.isCoroutine && (!p.dd.scope.isGenerator &&
      ((args.all fun a => match p.dd.scope.names.lookup a.arg with
        | some .local => true
        | some .cell => true
        | _ => false) && ((p.dd.scope.names.all fun y => decide (y.2 ≠ .free)) && (decide (p.dd.at_ = atOf p.df.name p.cm) && (nameOf p.df.name p.cm && ckSs ⟨p.N, p.dd.scope, fun _ => true, frees, cons, defs, xs, ts, cs, ms⟩ p.df.body p.dd.body))))))))))))
structure FP (frees : List Str) (cons : List (Str × D)) (xs : List Xd) (ts : List String) (cs : List Cd) (ms : List String) (defs : List Df) (p : Pd) (args : List Arg) : Prop where
  dfl : p.dd.dfl = []
  kwd : p.dd.kwd = []
  par : p.dd.params = ⟨[], args, none, [], [], none, []⟩
  np : args.length = p.df.np
  ns : p.N.length = p.df.ns
  sc : FnScope p.N (args.map (·.arg)) p.dd.scope
  at_ : p.dd.at_ = atOf p.df.name p.cm
  nm : nameOf p.df.name p.cm = true
  body : ckSs ⟨p.N, p.dd.scope, fun _ => true, frees, cons, defs, xs, ts, cs, ms⟩ p.df.body p.dd.body = true
theorem ckF_ok {frees : List Str} {cons : List (Str × D)} {xs : List Xd} {ts : List String} {cs : List Cd} {ms : List String} {defs : List Df} {p : Pd} (h : ckF frees cons xs ts cs ms defs p = true) : ∃ args, FP frees cons xs ts cs ms defs p args := by
  unfold ckF at h
  obtain ⟨h1, h⟩ := ab h
  obtain ⟨h2, h⟩ := ab h
  cases e : plainArgs p.dd.params with
  | none => rw [e] at h; cases h
  | some args =>
    rw [e] at h
    dsimp only at h
    obtain ⟨h3, h⟩ := ab h
    obtain ⟨h4, h⟩ := ab h
    obtain ⟨h5, h⟩ := ab h
    obtain ⟨h6, h⟩ := ab h
    obtain ⟨h7, h⟩ := ab h
    obtain ⟨h8, h⟩ := ab h
    obtain ⟨h9, h⟩ := ab h
    obtain ⟨h10, h⟩ := ab h
    obtain ⟨h11, h⟩ := ab h
    obtain ⟨h12, h⟩ := ab h
    obtain ⟨h14, h13⟩ := ab h
    refine ⟨args, List.isEmpty_iff.mp h1, List.isEmpty_iff.mp h2, plainArgs_of e, of_decide_eq_true h4, of_decide_eq_true h5,
      ⟨isFn_of h7, notT h8, notT h9, of_decide_eq_true h6, by rw [List.length_map]; exact of_decide_eq_true h3, fun x hx => ?_, fun y hy => of_decide_eq_true (List.all_eq_true.mp h11 y hy)⟩, of_decide_eq_true h12, h14, h13⟩
    obtain ⟨a, ha, rfl⟩ := List.mem_map.mp hx
    have := List.all_eq_true.mp h10 a ha
    split at this
    · exact .inl (by assumption)
    · exact .inr (by assumption)
    · cases this
theorem rs_start {io : Io} {K : PySem.W.Frag} {H : Hp} {N : List Str} : ∀ {vs : List V} {args : List Vl}, VVs io K H vs args → RS io K H (L2.start N vs) (startG N.length args) := by
  intro vs args h
  have hl := h.length
  unfold L2.start startG
  refine ⟨by simp [hl], fun i v e => ?_⟩
  by_cases hi : i < args.length
  · rw [List.getElem?_append_left (by simpa using hi), List.getElem?_map] at e
    obtain ⟨w, e1, e2⟩ := Option.map_eq_some_iff.mp e
    cases e2
    obtain ⟨u, e3, r⟩ := h.get e1
    exact ⟨u, by rw [List.getElem?_append_left (by simpa [hl] using hi), List.getElem?_map, e3]; rfl, r⟩
  · rw [List.getElem?_append_right (by simpa using Nat.le_of_not_lt hi), List.getElem?_replicate] at e
    split at e <;> cases e
/-- the facts of a text -/
structure TX (P : Program) (w : World) (K : PySem.W.Frag) (mg : Str → Option Value) (frees : List Str) (cons : List (Str × D)) (xs : List Xd) (ts : List String) (cs : List Cd) (defs : List Df) (ps : List Pd) : Prop where
  free : ∀ x, x ∈ frees → mg x = none
  con : ∀ x d, (x, d) ∈ cons → ConstOk K mg x d
  all : ∀ f d, findD defs f = some d → ∃ p, p ∈ ps ∧ p.df = d ∧ d.name = f
  ck : ∀ p, p ∈ ps → ckF frees cons xs ts cs (msOf ps) defs p = true
  fn : ∀ p, p ∈ ps → ∃ fd, FunD K p.dd.name p.dd.qual p.dd.params p.dd.body p.dd.scope (p.dd.dvs K) (p.dd.kws K) (He.fAd K (atOf p.df.name p.cm)) fd
  at_ : ∀ p, p ∈ ps → p.cm = none → mg (Str.ofString p.df.name) = some (.ref (He.ga K (Str.ofString p.df.name)))
  xk : ∀ x, x ∈ xs → XK1 ts K x
  xi : ∀ x, x ∈ xs → ∃ args fd, IniF x args ∧ FunD K x.dd.name x.dd.qual x.dd.params x.dd.body x.dd.scope [] [] (xI K x) fd
  xm : ∀ t, t ∈ ts → mg (Str.ofString t) = some (.ref (He.ga K (Str.ofString t)))
  xn : ∀ x, x ∈ xs → x.name ∈ ts
  ck1 : ∀ c, c ∈ cs → CK1 K c.name c.fields c.meths
  cat : ∀ c, c ∈ cs → mg (Str.ofString c.name) = some (.ref (He.ga K (Str.ofString c.name)))
  cin : ∀ c, c ∈ cs → ∃ args fd, plainArgs c.dd.params = some args ∧ c.N[0]? = some ("self" : Str) ∧ c.dd.scope.names.lookup ("self" : Str) = some .local ∧ FnScope c.N (args.map (·.arg)) c.dd.scope ∧ FunD K c.dd.name c.dd.qual c.dd.params c.dd.body c.dd.scope [] [] (He.ma K (He.ga K (Str.ofString c.name)) "__init__") fd ∧ Binds K fd (args.map (·.arg)) []
  cme : ∀ c, c ∈ cs → ∀ m, m ∈ c.meths → ∀ p, p ∈ ps → p.df.name = c.name ++ "." ++ m → p.cm = some (c.name, m)
theorem ini_binds {K : PySem.W.Frag} {x : Xd} {args : List Arg} {fd : FuncData} (I : IniF x args) (F : FunD K x.dd.name x.dd.qual x.dd.params x.dd.body x.dd.scope [] [] (xI K x) fd) : Binds K fd (("self" : Str) :: x.F) [] := by
  rw [← I.nms]
  exact F.bindsN fun kV doc pm an cdv ct us hl => bind_plain (fd := PySem.W.fnOf x.dd.name x.dd.qual x.dd.params x.dd.body x.dd.scope .none kV doc pm an cdv ct) I.par rfl (by rw [I.nms]; exact I.nd) hl
section
variable {P : Program} {w : World} {K : PySem.W.Frag} {mg : Str → Option Value} {base : Heap} {frees : List Str} {cons : List (Str × D)} {xs : List Xd} {ts : List String} {cs : List Cd} {defs : List Df} {ps : List Pd} {wh : Wh}
theorem text_ok (whk : WhOk wh) (T : TX P w K mg frees cons xs ts cs defs ps) : ∀ (n : Nat) (p : Pd), p ∈ ps → findD defs p.df.name = some p.df → ∀ (args : List Arg) (fd : FuncData), FP frees cons xs ts cs (msOf ps) defs p args →
    FunD K p.dd.name p.dd.qual p.dd.params p.dd.body p.dd.scope [] [] (He.fAd K (atOf p.df.name p.cm)) fd → FnOk P w K mg base (L2.CX P w) (3 * n + 2) (He.fAd K (atOf p.df.name p.cm)) fd (args.map (·.arg)) (spF K (callF wh defs n p.df.name) p.df.np)
  | 0, p, hp, hf, args, fd, fp, F => ⟨fun vs H Q E h => by
      obtain ⟨io, as, M, rv, rm, hl, hp⟩ := h
      exact hp.elim, fun A outer s H as us vs Q E hr he hb hv h => by
      obtain ⟨io, as, M, rv, rm, hl, hp⟩ := h
      exact hp.elim⟩
  | n + 1, p, hp, hf, args, fd, fp, F => by
    refine F.ok (k := 3 * n + 4) fp.sc (fun vs H Q E h => ?_) fun cdv A outer s H vs Q E hr h => ?_
    · obtain ⟨io, as, M, rv, rm, hl, _⟩ := h
      rw [rv.length, hl, List.length_map, fp.np]
    · obtain ⟨io, as, M, rv, rm, hl, hpost⟩ := h
      have ec : callF wh defs (n + 1) p.df.name as M = fin p.df.keep M.length (execs (callF wh defs n) wh p.df.body (startG p.df.ns as) M) := by
        show (match findD defs p.df.name with
          | none => Rs.bad
          | some d => if as.length = d.np then fin d.keep M.length (execs (callF wh defs n) wh d.body (startG d.ns as) M) else .bad) = _
        rw [hf]
        exact if_pos hl
      rw [ec] at hpost
      have G : GS wh n ⟨p.N, p.dd.scope, fun _ => true, frees, cons, defs, xs, ts, cs, msOf ps⟩ (cxOf (L2.CX P w) P w K mg base p.N p.dd.qual p.dd.scope (He.fAd K (atOf p.df.name p.cm)) cdv A outer s H E) (fun cls d _ H => E cls d H) := {
        hN := rfl
        sc := rfl
        fn := rfl
        nd := fp.sc.nd
        calm := rfl
        room := hr.mono (by omega)
        big := .inr hr
        tk := takes_of rfl rfl rfl rfl
        free := T.free
        con := T.con
        fns := fun f d hnm hd => by
          obtain ⟨p', hp', e1, e2⟩ := T.all f d hd
          obtain ⟨args', fp'⟩ := ckF_ok (T.ck p' hp')
          obtain ⟨fd', F'⟩ := T.fn p' hp'
          subst e1
          subst e2
          have hno : p'.cm = none := by
            cases q : p'.cm with
            | none => rfl
            | some z => exact absurd (List.mem_filterMap.mpr ⟨p', hp', by rw [q]; rfl⟩) hnm
          have F2 : FunD K p'.dd.name p'.dd.qual p'.dd.params p'.dd.body p'.dd.scope [] [] (He.fAd K (atOf p'.df.name p'.cm)) fd' := by
            have a1 : p'.dd.dvs K = [] := by unfold He.DefD.dvs; rw [fp'.dfl]; rfl
            have a2 : p'.dd.kws K = [] := by unfold He.DefD.kws; rw [fp'.kwd]; rfl
            rw [a1, a2] at F'
            exact F'
          have key := text_ok whk T n p' hp' hd args' fd' fp' F2
          have F3 := F2
          rw [hno] at key F3
          have key : FnOk P w K mg base (L2.CX P w) (3 * n + 2) (He.ga K (Str.ofString p'.df.name)) fd' (args'.map (·.arg)) (spF K (callF wh defs n p'.df.name) p'.df.np) := key
          refine ⟨He.ga K (Str.ofString p'.df.name), fd', args'.map (fun a : Arg => a.arg), key, T.at_ p' hp' hno, F3.kp, F3.bindsN fun kV doc pm an cdv ct us hl => ?_⟩
          exact bind_plain (fd := PySem.W.fnOf p'.dd.name p'.dd.qual p'.dd.params p'.dd.body p'.dd.scope .none kV doc pm an cdv ct) fp'.par rfl (by rw [← fp'.sc.pre]; exact fp'.sc.nd.sublist (List.take_sublist _ _)) hl
        exc := fun x hx => by
          obtain ⟨args2, fd2, I2, F2⟩ := T.xi x hx
          exact ⟨T.xk x hx, I2.len, (List.nodup_cons.mp I2.nd).2, ⟨fd2, ini_fn I2 F2, ini_binds I2 F2⟩, T.xm x.name (T.xn x hx)⟩
        exm := T.xm
        cls := fun c hc => ⟨T.ck1 c hc, T.cat c hc, T.cin c hc⟩
        mth := fun c hc m hm d hd => by
          obtain ⟨p', hp', e1, e2⟩ := T.all _ d hd
          obtain ⟨args', fp'⟩ := ckF_ok (T.ck p' hp')
          obtain ⟨fd', F'⟩ := T.fn p' hp'
          subst e1
          have hcm : p'.cm = some (c.name, m) := T.cme c hc m hm p' hp' e2
          have F2 : FunD K p'.dd.name p'.dd.qual p'.dd.params p'.dd.body p'.dd.scope [] [] (He.fAd K (atOf p'.df.name p'.cm)) fd' := by
            have a1 : p'.dd.dvs K = [] := by unfold He.DefD.dvs; rw [fp'.dfl]; rfl
            have a2 : p'.dd.kws K = [] := by unfold He.DefD.kws; rw [fp'.kwd]; rfl
            rw [a1, a2] at F'
            exact F'
          have key := text_ok whk T n p' hp' (by rw [e2]; exact hd) args' fd' fp' F2
          have F3 := F2
          rw [hcm] at key F3
          rw [e2] at key
          have key : FnOk P w K mg base (L2.CX P w) (3 * n + 2) (He.ma K (He.ga K (Str.ofString c.name)) (Str.ofString m)) fd' (args'.map (·.arg)) (spF K (callF wh defs n (c.name ++ "." ++ m)) p'.df.np) := key
          refine ⟨fd', args'.map (fun a : Arg => a.arg), key, F3.bindsN fun kV doc pm an cdv ct us hl => ?_⟩
          exact bind_plain (fd := PySem.W.fnOf p'.dd.name p'.dd.qual p'.dd.params p'.dd.body p'.dd.scope .none kV doc pm an cdv ct) fp'.par rfl (by rw [← fp'.sc.pre]; exact fp'.sc.nd.sublist (List.take_sublist _ _)) hl
        kind := fp.sc.kind
        own := passes_of rfl
        whk := whk
        stk := rfl
        frm := rfl }
      obtain ⟨t, pt, st⟩ := ckSs_ok p.df.body fp.body G
      refine ⟨t, pt, st io (L2.start p.N vs) H (startG p.df.ns as) M _ ?_ rm (fin_ok rm hpost)⟩
      rw [← fp.ns]
      exact rs_start rv
/-! ### the law -/
def conFa : Str × D → Option He.Fa
  | (x, .int i) => some (.int x i)
  | (x, .str z) => some (.str x z)
  | _ => none
def glOf (ps : List Pd) : List He.Fa := ps.filterMap fun p => match p.cm with
  | none => some (.glo (Str.ofString p.df.name))
  | some _ => none
def clOf (c : Cd) : List He.Fa := .glo (Str.ofString c.name) :: .cls (Str.ofString c.name) :: .mkr (Str.ofString c.name) :: (c.fields.map (fun f => .noat (Str.ofString c.name) (Str.ofString f)) ++ c.meths.map fun m => .meth (Str.ofString c.name) (Str.ofString m))
def faOf (ps : List Pd) (frees : List Str) (cons : List (Str × D)) (ts : List String) (cs : List Cd) : List He.Fa := glOf ps ++ (frees.map .free ++ (cons.filterMap conFa ++ (ts.map (fun t => .glo (Str.ofString t)) ++ cs.flatMap clOf)))
/-- a class of the text, its __init__ -/
def csC (ps : List Pd) (c : Cd) : Bool := (match plainArgs c.dd.params with
  | some args => decide (c.N.take args.length = args.map (·.arg)) && (args.all fun a => match c.dd.scope.names.lookup a.arg with
        | some .local => true
        | some .cell => true
        | _ => false)
  | none => false) && (c.dd.dfl.isEmpty && (c.dd.kwd.isEmpty && (decide (c.N[0]? = some ("self" : Str)) && (decide (c.dd.scope.names.lookup ("self" : Str) = some .local) && (decide c.N.Nodup && (isFn c.dd.scope && (!c.dd.scope.isCoroutine && (!c.dd.scope.isGenerator &&
    ((c.dd.scope.names.all fun y => decide (y.2 ≠ .free)) && (decide (c.dd.at_ = (Str.ofString c.name, some ("__init__" : Str))) && (ps.all fun p => c.meths.all fun m => !decide (p.df.name = c.name ++ "." ++ m) || decide (p.cm = some (c.name, m)))))))))))))
/-! a Hook with one more Bool -/
abbrev AlY : Type := He.AlD × Bool
def obsY (n : Nat) (fa : List He.Fa) (fn : List He.DefD) (ex : PySem.W.Frag → Bool) (g : Addr → Option Obj) : AlY := (He.obsD fa fn (He.frG g (He.asD g n)), ex (He.frG g (He.asD g n)))
def hookY (n : Nat) (fa : List He.Fa) (fn : List He.DefD) (ex : PySem.W.Frag → Bool) : PySem.W.Hook where
  α := AlY
  obs := fun s => obsY n fa fn ex s.heap.get?
  val := fun _ => (He.valD fn, true)
  says := fun _ h => ∃ K : PySem.W.Frag, K.In h ∧ He.SaysD fa fn K ∧ ex K = true
  of := fun _ _ e => ⟨_, He.frG_in, congrArg (fun z : AlY => z.1) e, congrArg (fun z : AlY => z.2) e⟩
  keeps := fun _ _ _ ⟨K, hK, c⟩ k => ⟨K, hK.keeps k, c⟩
theorem obsY_eq {n : Nat} {fa : List He.Fa} {fn : List He.DefD} {ex : PySem.W.Frag → Bool} {g : Addr → Option Obj} {s : Shared} (h : ∀ a, g a = s.heap.get? a) : obsY n fa fn ex g = (hookY n fa fn ex).obs s := by
  have e : g = s.heap.get? := funext h
  subst e
  rfl
def exB (xs : List Xd) (ts : List String) (K : PySem.W.Frag) : Bool := xs.all (xB ts K)
def xsC (xs : List Xd) (ts : List String) : Bool := xs.all fun x => iniC x && decide (x.name ∈ ts)
theorem says_mem {fa : List He.Fa} {fn : List He.DefD} (c : He.SaysD fa fn K) {f : He.Fa} (h : f ∈ fa) : f.ok K = true := by
  obtain ⟨i, e⟩ := List.getElem?_of_mem h
  exact c.fact i e
theorem says_def {fa : List He.Fa} {fn : List He.DefD} (c : He.SaysD fa fn K) {d : He.DefD} (h : d ∈ fn) : ∃ fd, FunD K d.name d.qual d.params d.body d.scope (d.dvs K) (d.kws K) (He.fAd K d.at_) fd := by
  obtain ⟨i, e⟩ := List.getElem?_of_mem h
  exact c.def_ i e
theorem findD_mem : ∀ {ps : List Pd} {f : String} {d : Df}, findD (ps.map (·.df)) f = some d → ∃ p, p ∈ ps ∧ p.df = d ∧ d.name = f
  | [], _, _, h => by cases h
  | p :: ps, f, d, h => by
    have h : (if p.df.name = f then some p.df else findD (ps.map (·.df)) f) = some d := h
    by_cases e : p.df.name = f
    · rw [if_pos e] at h
      cases h
      exact ⟨p, List.mem_cons_self, rfl, e⟩
    · rw [if_neg e] at h
      obtain ⟨q, h1, h2, h3⟩ := findD_mem h
      exact ⟨q, List.mem_cons_of_mem _ h1, h2, h3⟩
theorem csC_ok {ps : List Pd} {c : Cd} (h : csC ps c = true) : ∃ args, plainArgs c.dd.params = some args ∧ c.dd.dfl = [] ∧ c.dd.kwd = [] ∧ c.N[0]? = some ("self" : Str) ∧ c.dd.scope.names.lookup ("self" : Str) = some .local ∧ FnScope c.N (args.map (·.arg)) c.dd.scope ∧ c.dd.at_ = (Str.ofString c.name, some ("__init__" : Str)) ∧
    ∀ p, p ∈ ps → ∀ m, m ∈ c.meths → p.df.name = c.name ++ "." ++ m → p.cm = some (c.name, m) := by
  unfold csC at h
  obtain ⟨h1, h⟩ := ab h
  obtain ⟨h2, h⟩ := ab h
  obtain ⟨h3, h⟩ := ab h
  obtain ⟨h4, h⟩ := ab h
  obtain ⟨h5, h⟩ := ab h
  obtain ⟨h6, h⟩ := ab h
  obtain ⟨h7, h⟩ := ab h
  obtain ⟨h8, h⟩ := ab h
  obtain ⟨h9, h⟩ := ab h
  obtain ⟨h10, h⟩ := ab h
  obtain ⟨h11, h12⟩ := ab h
  cases e : plainArgs c.dd.params with
  | none => rw [e] at h1; cases h1
  | some args =>
    rw [e] at h1
    obtain ⟨a1, a2⟩ := ab h1
    refine ⟨args, rfl, List.isEmpty_iff.mp h2, List.isEmpty_iff.mp h3, of_decide_eq_true h4, of_decide_eq_true h5, ⟨isFn_of h7, notT h8, notT h9, of_decide_eq_true h6, by rw [List.length_map]; exact of_decide_eq_true a1, fun x hx => ?_, fun y hy => of_decide_eq_true (List.all_eq_true.mp h10 y hy)⟩, of_decide_eq_true h11, fun p hp m hm en => ?_⟩
    · obtain ⟨a, ha, rfl⟩ := List.mem_map.mp hx
      have := List.all_eq_true.mp a2 a ha
      split at this
      · exact .inl (by assumption)
      · exact .inr (by assumption)
      · cases this
    · have := List.all_eq_true.mp (List.all_eq_true.mp h12 p hp) m hm
      rw [decide_eq_true en] at this
      exact of_decide_eq_true (by simpa using this)
theorem text_of {h : Heap} (X : K.In h) (G : h.Ns mainGlobals mg) (c : He.SaysD (faOf ps frees cons ts cs) (ps.map (·.dd) ++ (xs.map (·.dd) ++ cs.map (·.dd))) K) (cx : exB xs ts K = true) (hx : xsC xs ts = true) (hcs : cs.all (csC ps) = true) (hc : (cons.all fun q => (conFa q).isSome) = true) (hck : ps.all (ckF frees cons xs ts cs (msOf ps) (ps.map (·.df))) = true) : TX P w K mg frees cons xs ts cs (ps.map (·.df)) ps where
  free := fun x hx => He.free_ok X G (says_mem c (List.mem_append_right _ (List.mem_append_left _ (List.mem_map_of_mem hx))))
  con := fun x d hx => by
    have h1 := List.all_eq_true.mp hc _ hx
    cases e : conFa (x, d) with
    | none => rw [e] at h1; cases h1
    | some f =>
      have h2 := says_mem c (List.mem_append_right _ (List.mem_append_right _ (List.mem_append_left _ (List.mem_filterMap.mpr ⟨_, hx, e⟩))))
      cases d with
      | int i =>
        cases e
        obtain ⟨t, ht⟩ := He.int_ok X G h2
        exact ⟨_, .int i, ht, ⟨t, rfl⟩, fun _ _ => .int i⟩
      | str z =>
        cases e
        obtain ⟨t, ht⟩ := He.str_ok X G h2
        exact ⟨_, .str z, ht, ⟨t, rfl⟩, fun _ _ => .str z⟩
      | _ => cases e
  all := fun f d hd => findD_mem hd
  ck := fun p hp => List.all_eq_true.mp hck p hp
  fn := fun p hp => by
    obtain ⟨fd, F⟩ := says_def c (List.mem_append_left _ (List.mem_map_of_mem (f := fun p : Pd => p.dd) hp))
    obtain ⟨args, fp⟩ := ckF_ok (List.all_eq_true.mp hck p hp)
    rw [fp.at_] at F
    exact ⟨fd, F⟩
  at_ := fun p hp hn => He.glo_ok X G (says_mem c (List.mem_append_left _ (List.mem_filterMap.mpr ⟨p, hp, by rw [hn]⟩)))
  xk := fun x hx => xB_ok (List.all_eq_true.mp cx x hx)
  xi := fun x hm => by
    obtain ⟨q1, _⟩ := ab (List.all_eq_true.mp hx x hm)
    obtain ⟨args, I⟩ := iniC_ok q1
    obtain ⟨fd, F⟩ := says_def c (List.mem_append_right _ (List.mem_append_left _ (List.mem_map_of_mem (f := fun x : Xd => x.dd) hm)))
    have a1 : x.dd.dvs K = [] := by unfold He.DefD.dvs; rw [I.dfl]; rfl
    have a2 : x.dd.kws K = [] := by unfold He.DefD.kws; rw [I.kwd]; rfl
    rw [I.at_, a1, a2] at F
    exact ⟨args, fd, I, F⟩
  xm := fun t ht => He.glo_ok X G (says_mem c (List.mem_append_right _ (List.mem_append_right _ (List.mem_append_right _ (List.mem_append_left _ (List.mem_map.mpr ⟨t, ht, rfl⟩))))))
  xn := fun x hm => of_decide_eq_true (ab (List.all_eq_true.mp hx x hm)).2
  ck1 := fun d hd => by
    have mem : ∀ f, f ∈ clOf d → f ∈ faOf ps frees cons ts cs := fun f hf => List.mem_append_right _ (List.mem_append_right _ (List.mem_append_right _ (List.mem_append_right _ (List.mem_flatMap.mpr ⟨d, hd, hf⟩))))
    exact ⟨He.cls_ok (says_mem c (mem _ (by simp [clOf]))), fun f hf => He.noat_ok (says_mem c (mem _ (List.mem_cons_of_mem _ (List.mem_cons_of_mem _ (List.mem_cons_of_mem _ (List.mem_append_left _ (List.mem_map.mpr ⟨f, hf, rfl⟩))))))), fun m hm => He.meth_ok (says_mem c (mem _ (List.mem_cons_of_mem _ (List.mem_cons_of_mem _ (List.mem_cons_of_mem _ (List.mem_append_right _ (List.mem_map.mpr ⟨m, hm, rfl⟩))))))), He.mkr_ok (says_mem c (mem _ (by simp [clOf])))⟩
  cat := fun d hd => He.glo_ok X G (says_mem c (List.mem_append_right _ (List.mem_append_right _ (List.mem_append_right _ (List.mem_append_right _ (List.mem_flatMap.mpr ⟨d, hd, by simp [clOf]⟩))))))
  cin := fun d hd => by
    obtain ⟨args, h1, h2, h3, h4, h5, h6, h7, _⟩ := csC_ok (List.all_eq_true.mp hcs d hd)
    obtain ⟨fd, F⟩ := says_def c (List.mem_append_right _ (List.mem_append_right _ (List.mem_map_of_mem (f := fun x : Cd => x.dd) hd)))
    have a1 : d.dd.dvs K = [] := by unfold He.DefD.dvs; rw [h2]; rfl
    have a2 : d.dd.kws K = [] := by unfold He.DefD.kws; rw [h3]; rfl
    rw [h7, a1, a2] at F
    refine ⟨args, fd, h1, h4, h5, h6, F, F.bindsN fun kV doc pm an cdv ct us hl => ?_⟩
    exact bind_plain (fd := PySem.W.fnOf d.dd.name d.dd.qual d.dd.params d.dd.body d.dd.scope .none kV doc pm an cdv ct) (plainArgs_of h1) rfl (by rw [← h6.pre]; exact h6.nd.sublist (List.take_sublist _ _)) hl
  cme := fun d hd m hm p hp en => by
    obtain ⟨_, _, _, _, _, _, _, _, h8⟩ := csC_ok (List.all_eq_true.mp hcs d hd)
    exact h8 p hp m hm en
theorem fn_cx0 {n : Nat} {f : Addr} {fd : FuncData} {xs : List Str} {sp : Sp} (F : FnOk P w K mg base (L2.CX P w) n f fd xs sp) : FnOk P w K mg base CX0 n f fd xs (fun vs H Q _ => sp vs H Q fun _ _ _ => False) :=
  ⟨fun vs H Q E h => F.len vs H Q _ h, fun A outer s H as us vs Q E hr he hb hv h => codeAny_mono (F.run A outer s H as us vs Q (fun _ _ _ => False) hr he hb hv h) fun r s' z => by
    match r, z with
    | .ok (.ret u), z => exact z
    | .error e, z =>
      obtain ⟨a, B, H', cls, d, _, _, _, _, _, _, _, k⟩ := z
      exact k.elim⟩
theorem law_fn {h : Heap} {f : Addr} {k nmax : Nat} {x : Str} (whk : WhOk wh) (X : K.In h) (G : h.Ns mainGlobals mg) (c : He.SaysD (faOf ps frees cons ts cs) (ps.map (·.dd) ++ (xs.map (·.dd) ++ cs.map (·.dd))) K ∧ exB xs ts K = true) (hx0 : xsC xs ts = true) (hcs : cs.all (csC ps) = true) (hfa : mg ("law" : Str) = some (.ref f)) (hc : (cons.all fun q => (conFa q).isSome) = true) (hck : ps.all (ckF frees cons xs ts cs (msOf ps) (ps.map (·.df))) = true)
    {p : Pd} (hcm : p.cm = none) (hp : findD (ps.map (·.df)) "law" = some p.df) (hm : p ∈ ps) (hx : (plainArgs p.dd.params).map (·.map (·.arg)) = some [x])
    (hL : ∀ ns : List Int, ns.length ≤ nmax → ∃ M', callF wh (ps.map (·.df)) k "law" [.s (ns.map .int)] [] = .ok (.p (.bool true)) M') :
    ∃ (fd : FuncData) (sp : Sp), (∀ (s : Shared) (u : Value), BindsTo s fd ⟨[u], []⟩ [(x, u)]) ∧
      (∀ (H : Hp) (a : Addr) (ns : List Int), ns.length ≤ nmax → SqL K H a (ns.map V.int) → sp [.ref a] H (fun v _ => v = .bl true) fun _ _ _ => False) ∧ ∀ base : Heap, FnOk P w K mg base CX0 (3 * k + 2) f fd [x] sp := by
  have T : TX P w K mg frees cons xs ts cs (ps.map (·.df)) ps := text_of X G c.1 c.2 hx0 hcs hc hck
  obtain ⟨args, fp⟩ := ckF_ok (T.ck p hm)
  obtain ⟨fd, F⟩ := T.fn p hm
  rw [hcm] at F
  have a1 : p.dd.dvs K = [] := by unfold He.DefD.dvs; rw [fp.dfl]; rfl
  have a2 : p.dd.kws K = [] := by unfold He.DefD.kws; rw [fp.kwd]; rfl
  rw [a1, a2] at F
  have en : p.df.name = "law" := by
    obtain ⟨_, _, _, e⟩ := findD_mem hp
    exact e
  have ex : args.map (·.arg) = [x] := by
    rw [fp.par] at hx
    exact Option.some.inj hx
  have ef : f = He.ga K (Str.ofString p.df.name) := by
    have := T.at_ p hm hcm
    rw [en] at this
    have e2 : mg (Str.ofString "law") = some (.ref f) := hfa
    rw [e2] at this
    rw [en]
    cases this
    rfl
  have bd : ∀ (us : List Value), us.length = (args.map (·.arg)).length → bindArgs fd ⟨us, []⟩ = pure ((args.map (·.arg)).zip us) := by
    obtain ⟨oc, od, dV, kV, doc, pm, an, cdv, ct, osl, rfl, lk, hcd, hD, hK⟩ := F.ex
    intro us hl
    rcases hD with ⟨_, rfl⟩ | ⟨e, _⟩
    · exact bind_plain (fd := PySem.W.fnOf p.dd.name p.dd.qual p.dd.params p.dd.body p.dd.scope .none kV doc pm an cdv ct) fp.par rfl (by rw [← fp.sc.pre]; exact fp.sc.nd.sublist (List.take_sublist _ _)) hl
    · exact absurd rfl e
  refine ⟨fd, fun vs H Q _ => spF K (callF wh (ps.map (·.df)) k "law") p.df.np vs H Q fun _ _ _ => False, fun s u => ?_, fun H a ns hl hS => ?_, fun base => ?_⟩
  rotate_left 2
  · have key := fn_cx0 (text_ok (base := base) (P := P) (w := w) whk T k p hm (by rw [en]; exact hp) args fd fp (by rw [hcm]; exact F))
    rw [hcm] at key
    have key : FnOk P w K mg base CX0 (3 * k + 2) (He.ga K (Str.ofString p.df.name)) fd (args.map (·.arg)) _ := key
    rw [ex, ← ef, en] at key
    exact key
  · have := bd [u] (by rw [ex]; rfl)
    rw [ex] at this
    exact .of_eq this
  · refine ⟨⟨[], [], fun _ h => h⟩, [.s (ns.map .int)], [], .cons ⟨a, ns.map V.int, rfl, hS.elim (fun z => .inl ⟨z, by simp⟩) .inr, DVs.of_ints ns⟩ .nil, ⟨rfl, List.nodup_nil, fun i a o e => by simp at e, fun a h => by cases h⟩, ?_, ?_⟩
    · have : args.length = 1 := by have := congrArg List.length ex; simpa using this
      rw [← fp.np, this]
      rfl
    · obtain ⟨M', e⟩ := hL ns hl
      rw [e]
      intro io' H' u g rm ru
      cases ru
      rfl
end
end Eg

/-! Plain part A: the kit for reading a text's meaning; what the laws draw. By an AI agent. -/
namespace Eg
open PySem
/-! ### calls by name -/
theorem callF_at {wh : Wh} {defs : List Df} {n : Nat} {f : String} {d : Df} (h : findD defs f = some d) {args : List Vl} (hl : args.length = d.np) (M : Mem) :
    callF wh defs (n + 1) f args M = fin d.keep M.length (execs (callF wh defs n) wh d.body (startG d.ns args) M) := by
  show (match findD defs f with
    | none => Rs.bad
    | some d => if args.length = d.np then fin d.keep M.length (execs (callF wh defs n) wh d.body (startG d.ns args) M) else .bad) = _
  rw [h]
  exact if_pos hl
/-- from depth a on -/
def At (defs : List Df) (a : Nat) (S : Fns → Prop) : Prop := ∀ n, a ≤ n → S (callF whC defs n)
theorem At.mono {defs : List Df} {a b : Nat} {S : Fns → Prop} (h : At defs a S) (hb : a ≤ b) : At defs b S := fun n hn => h n (Nat.le_trans hb hn)
theorem At.succ {defs : List Df} {a : Nat} {S : Fns → Prop} (h : ∀ m, a ≤ m → S (callF whC defs (m + 1))) : At defs (a + 1) S := fun n hn => by
  obtain ⟨m, rfl⟩ : ∃ m, n = m + 1 := ⟨n - 1, by omega⟩
  exact h m (by omega)
/-! ### while -/
/-! ### reading step by step: what comes behind waits in an instance, where simp does not look -/
class Kc (α β : Type) where
  run : α → Mem → β
class Lz (α : Type) where
  get : Unit → α
theorem run_mk {α β : Type} (f : α → Mem → β) (a : α) (M : Mem) : @Kc.run α β ⟨f⟩ a M = f a M := Eq.trans rfl rfl
def Rs.th {α β : Type} (r : Rs α) [k : Kc α (Rs β)] : Rs β := r.bind k.run
@[simp] theorem th_ok {α β : Type} (a : α) (M : Mem) (k : Kc α (Rs β)) : @Rs.th α β (.ok a M) k = k.run a M := Eq.trans rfl rfl
@[simp] theorem th_bad {α β : Type} (k : Kc α (Rs β)) : @Rs.th α β .bad k = .bad := Eq.trans rfl rfl
@[simp] theorem th_exc {α β : Type} (c : String) (fs : List (String × D)) (M : Mem) (k : Kc α (Rs β)) : @Rs.th α β (.exc c fs M) k = .exc c fs M := Eq.trans rfl rfl
def cnd {α : Type} (c : Bool) [x : Lz α] [y : Lz α] : α := if c then x.get () else y.get ()
@[simp] theorem cnd_t {α : Type} (x y : Lz α) : @cnd α true x y = x.get () := Eq.trans rfl rfl
@[simp] theorem cnd_f {α : Type} (x y : Lz α) : @cnd α false x y = y.get () := Eq.trans rfl rfl
def lf {α : Type} (r : Rs α) (g : Sg) [k : Kc α Ro] : Ro := lift r g k.run
@[simp] theorem lf_ok {α : Type} (a : α) (M : Mem) (g : Sg) (k : Kc α Ro) : @lf α (.ok a M) g k = k.run a M := Eq.trans rfl rfl
@[simp] theorem lf_bad {α : Type} (g : Sg) (k : Kc α Ro) : @lf α .bad g k = none := Eq.trans rfl rfl
@[simp] theorem lf_exc {α : Type} (c : String) (fs : List (String × D)) (M : Mem) (g : Sg) (k : Kc α Ro) : @lf α (.exc c fs M) g k = some (.xc g c fs, M) := Eq.trans rfl rfl
def sq (r : Ro) [k : Kc Sg Ro] : Ro := match r with
  | some (.nx g1, M1) => k.run g1 M1
  | r => r
@[simp] theorem sq_nx (g : Sg) (M : Mem) (k : Kc Sg Ro) : @sq (some (.nx g, M)) k = k.run g M := Eq.trans rfl rfl
@[simp] theorem sq_rt (v : Vl) (M : Mem) (k : Kc Sg Ro) : @sq (some (.rt v, M)) k = some (.rt v, M) := Eq.trans rfl rfl
@[simp] theorem sq_rl (v : List Vl) (M : Mem) (k : Kc Sg Ro) : @sq (some (.rl v, M)) k = some (.rl v, M) := Eq.trans rfl rfl
@[simp] theorem sq_bk (g : Sg) (M : Mem) (k : Kc Sg Ro) : @sq (some (.bk g, M)) k = some (.bk g, M) := Eq.trans rfl rfl
@[simp] theorem sq_xc (g : Sg) (c : String) (fs : List (String × D)) (M : Mem) (k : Kc Sg Ro) : @sq (some (.xc g c fs, M)) k = some (.xc g c fs, M) := Eq.trans rfl rfl
@[simp] theorem sq_none (k : Kc Sg Ro) : @sq none k = none := Eq.trans rfl rfl
def vr (o : Option (Option Vl)) (M : Mem) : Rs Vl := match o with
  | some (some v) => .ok v M
  | _ => .bad
@[simp] theorem vr_some (v : Vl) (M : Mem) : vr (some (some v)) M = .ok v M := Eq.trans rfl rfl
def andV (v : Vl) (M : Mem) [k : Lz (Rs Vl)] : Rs Vl := match v with
  | .p (.bool true) => k.get ()
  | .p (.bool false) => .ok (.p (.bool false)) M
  | _ => .bad
def orV (v : Vl) (M : Mem) [k : Lz (Rs Vl)] : Rs Vl := match v with
  | .p (.bool true) => .ok (.p (.bool true)) M
  | .p (.bool false) => k.get ()
  | _ => .bad
theorem andV_b (b : Bool) (M : Mem) (k : Lz (Rs Vl)) : @andV (.p (.bool b)) M k = @cnd _ b k ⟨fun _ => .ok (.p (.bool false)) M⟩ := by cases b <;> rfl
@[simp] theorem andV_t (M : Mem) (k : Lz (Rs Vl)) : @andV (.p (.bool true)) M k = k.get () := Eq.trans rfl rfl
@[simp] theorem andV_f (M : Mem) (k : Lz (Rs Vl)) : @andV (.p (.bool false)) M k = .ok (.p (.bool false)) M := Eq.trans rfl rfl
@[simp] theorem orV_t (M : Mem) (k : Lz (Rs Vl)) : @orV (.p (.bool true)) M k = .ok (.p (.bool true)) M := Eq.trans rfl rfl
@[simp] theorem orV_f (M : Mem) (k : Lz (Rs Vl)) : @orV (.p (.bool false)) M k = k.get () := Eq.trans rfl rfl
def negV (v : Vl) (M : Mem) : Rs Vl := match v with
  | .p (.int i) => .ok (.p (.int (-i))) M
  | _ => .bad
@[simp] theorem negV_i (i : Int) (M : Mem) : negV (.p (.int i)) M = .ok (.p (.int (-i))) M := Eq.trans rfl rfl
def intV (v : Vl) (M : Mem) : Rs (Option Int) := match v with
  | .p (.int i) => .ok (some i) M
  | _ => .bad
@[simp] theorem intV_i (i : Int) (M : Mem) : intV (.p (.int i)) M = .ok (some i) M := Eq.trans rfl rfl
/-- an expression's truth -/
def tst (F : Fns) (e : Ex) (g : Sg) (M : Mem) : Rs Bool := evT F e (ev F e g M) g M
def truV (v : Vl) (M : Mem) : Rs Bool := Rs.of M ((look M v).bind truth)
@[simp] theorem truV_p (d : D) (M : Mem) : truV (.p d) M = Rs.of M (truth d) := Eq.trans rfl rfl
/-- the rest of a comprehension -/
def lcR (F : Fns) (own : List Nat) (tg : Tg) (ifs : Exs) (elt : Ex) (w : Wk) (g : Sg) (M : Mem) : Rs (List D) := if w.items.length ≤ line then lcLoop w (fStep own tg (fun g M => evTs F ifs g M) (fun g M => ev F elt g M) g) w.items M [] else .bad
def stp (F : Fns) (own : List Nat) (tg : Tg) (ifs : Exs) (elt : Ex) (g : Sg) (d : D) (M : Mem) : Rs (List D) := fStep own tg (fun g M => evTs F ifs g M) (fun g M => ev F elt g M) g d M
def oneV (v : Vl) (M : Mem) : Rs (List D) := Rs.of M ((plain v).map fun d => [d])
@[simp] theorem oneV_p (d : D) (M : Mem) : oneV (.p d) M = .ok [d] M := Eq.trans rfl rfl
def enmV (v : Vl) (M : Mem) : Rs Wk := match v with
  | .p (.list ds) => .ok ⟨enumD ds, none⟩ M
  | .p (.tuple ds) => .ok ⟨enumD ds, none⟩ M
  | _ => .bad
@[simp] theorem enmV_l (ds : List D) (M : Mem) : enmV (.p (.list ds)) M = .ok ⟨enumD ds, none⟩ M := Eq.trans rfl rfl
@[simp] theorem enmV_t (ds : List D) (M : Mem) : enmV (.p (.tuple ds)) M = .ok ⟨enumD ds, none⟩ M := Eq.trans rfl rfl
def rvdV (v : Vl) (M : Mem) : Rs Wk := match v with
  | .p (.list ds) => .ok ⟨ds.reverse, none⟩ M
  | .p (.tuple ds) => .ok ⟨ds.reverse, none⟩ M
  | _ => .bad
@[simp] theorem rvdV_l (ds : List D) (M : Mem) : rvdV (.p (.list ds)) M = .ok ⟨ds.reverse, none⟩ M := Eq.trans rfl rfl
@[simp] theorem rvdV_t (ds : List D) (M : Mem) : rvdV (.p (.tuple ds)) M = .ok ⟨ds.reverse, none⟩ M := Eq.trans rfl rfl
def revV (v : Vl) (M : Mem) : Rs Vl := Rs.of M ((look M v).bind fun x => match x with
    | .list ds => some (.p (.list ds.reverse))
    | .tuple ds => some (.p (.tuple ds.reverse))
    | _ => none)
@[simp] theorem revV_l (ds : List D) (M : Mem) : revV (.p (.list ds)) M = .ok (.p (.list ds.reverse)) M := Eq.trans rfl rfl
@[simp] theorem revV_t (ds : List D) (M : Mem) : revV (.p (.tuple ds)) M = .ok (.p (.tuple ds.reverse)) M := Eq.trans rfl rfl
def sqV (x : Vl) (M : Mem) [k : Lz (Rs Vl)] : Rs Vl := if isSq M x then k.get () else .bad
@[simp] theorem sqV_l (ds : List D) (M : Mem) (k : Lz (Rs Vl)) : @sqV (.p (.list ds)) M k = k.get () := Eq.trans rfl rfl
@[simp] theorem sqV_t (ds : List D) (M : Mem) (k : Lz (Rs Vl)) : @sqV (.p (.tuple ds)) M k = k.get () := Eq.trans rfl rfl
def popV (x : Vl) (M : Mem) [k : Lz (Rs Vl)] : Rs Vl := if isL M x then k.get () else .bad
def dkV (x : Vl) (M : Mem) [k : Lz (Rs Vl)] : Rs Vl := if isDk M x then k.get () else .bad
def llV (x : Vl) (M : Mem) [k : Lz (Rs Vl)] : Rs Vl := if isLl M x then k.get () else .bad
@[simp] theorem llV_l (ds : List D) (M : Mem) (k : Lz (Rs Vl)) : @llV (.p (.list ds)) M k = k.get () := Eq.trans rfl rfl
def ldcR (F : Fns) (own : List Nat) (tg : Tg) (ifs : Exs) (k v : Ex) (w : Wk) (σ : Sg) (M : Mem) : Rs Vl :=
  (if w.items.length ≤ line then lcLoop w (fStep own tg (evTs F ifs) (fPair (ev F k) (ev F v)) σ) w.items M [] else .bad).bind fun ps M1 => .ok (.p (.int (ps.foldl putP []).length)) M1
def inV (c m : String) (x : Vl) (M : Mem) [k : Lz (Rs Vl)] : Rs Vl := if isIns c m M x then k.get () else .bad
def mkV (F : Fns) (c : String) (ns : Nat) (ini : Inis) (vs : List Vl) (M : Mem) : Rs Vl := mkR c M.length (evI F ini (startI ns vs) M [])
/-- the rest of a comprehension of two clauses; a turn of the outer one -/
def lc2R (F : Fns) (own : List Nat) (tg : Tg) (ifs : Exs) (own1 : List Nat) (tg1 : Tg) (it1 : It) (ifs1 : Exs) (elt : Ex) (w : Wk) (g : Sg) (M : Mem) : Rs (List D) :=
  if w.items.length ≤ 1000 then lcLoop w (fStep2 own tg (fun g M => evTs F ifs g M) own1 tg1 (fun g M => evIt F it1 g M) (fun g M => evTs F ifs1 g M) (fun g M => ev F elt g M) g) w.items M [] else .bad
def stp2 (F : Fns) (own : List Nat) (tg : Tg) (ifs : Exs) (own1 : List Nat) (tg1 : Tg) (it1 : It) (ifs1 : Exs) (elt : Ex) (g : Sg) (d : D) (M : Mem) : Rs (List D) := fStep2 own tg (fun g M => evTs F ifs g M) own1 tg1 (fun g M => evIt F it1 g M) (fun g M => evTs F ifs1 g M) (fun g M => ev F elt g M) g d M
def lcS (F : Fns) (own : List Nat) (tg : Tg) (ifs : Exs) (elt : Ex) (w : Wk) (g : Sg) (M : Mem) : Rs (List D) := if w.items.length ≤ 1000 then lcLoop w (fStep own tg (fun g M => evTs F ifs g M) (fun g M => ev F elt g M) g) w.items M [] else .bad
def stV (x : Vl) [k : Lz (Rs Vl)] : Rs Vl := if isSt x then k.get () else .bad
@[simp] theorem stV_s (x : Str) (k : Lz (Rs Vl)) : @stV (.p (.str x)) k = k.get () := Eq.trans rfl rfl
def stT (is : List Nat) (v : Vl) (g : Sg) (M : Mem) : Ro := match v with
  | .p d => (store (.tp is) d g).map fun g' => (.nx g', M)
  | _ => none
@[simp] theorem stT_t (is : List Nat) (ds : List D) (g : Sg) (M : Mem) : stT is (.p (.tuple ds)) g M = (putAll is ds g).map fun g' => (.nx g', M) := Eq.trans rfl rfl
@[simp] theorem stT_l (is : List Nat) (ds : List D) (g : Sg) (M : Mem) : stT is (.p (.list ds)) g M = (putAll is ds g).map fun g' => (.nx g', M) := Eq.trans rfl rfl
def nxM (o : Option Mem) (g : Sg) : Ro := o.map fun M => (.nx g, M)
@[simp] theorem nxM_some (M : Mem) (g : Sg) : nxM (some M) g = some (.nx g, M) := Eq.trans rfl rfl
def isLk (x : Vl) (M : Mem) [k : Lz Ro] : Ro := if isL M x then k.get () else none
def frR (F : Fns) (wh : Wh) (t : Tg) (b : Sms) (w : Wk) (xs : List D) (g : Sg) (M : Mem) : Ro := frLoop w t (fun g M => execs F wh b g M) xs g M
def rseV (c : String) (fl : List String) (vs : List Vl) (g : Sg) (M : Mem) : Ro := (plains vs).bind fun ds => if ds.length = fl.length then some (.xc g c (fl.zip ds), M) else none
@[simp] theorem rseV_1 (c f : String) (d : D) (g : Sg) (M : Mem) : rseV c [f] [.p d] g M = some (.xc g c [(f, d)], M) := Eq.trans rfl rfl
@[simp] theorem rseV_2 (c f f2 : String) (d d2 : D) (g : Sg) (M : Mem) : rseV c [f, f2] [.p d, .p d2] g M = some (.xc g c [(f, d), (f2, d2)], M) := Eq.trans rfl rfl
def trR (F : Fns) (wh : Wh) (kn : List String) (b : Sms) (hs : List Hd) (g : Sg) (M : Mem) : Ro := tryX kn hs (execs F wh b g M)
def whR (F : Fns) (wh : Wh) (c : Ex) (b : Sms) (g : Sg) (M : Mem) : Ro := wh (fun g M => evT F c (ev F c g M) g M) (fun g M => execs F wh b g M) g M
section
variable (F : Fns) (σ : Sg) (M : Mem)
@[simp] theorem ev_var (i : Nat) : ev F (.var i) σ M = vr σ[i]? M := Eq.trans rfl rfl
@[simp] theorem ev_con (d : D) : ev F (.con d) σ M = .ok (.p d) M := Eq.trans rfl rfl
@[simp] theorem ev_gcon (x : String) (d : D) : ev F (.gcon x d) σ M = .ok (.p d) M := Eq.trans rfl rfl
@[simp] theorem ev_bin (o : BOp) (a b : Ex) : ev F (.bin o a b) σ M = @Rs.th _ _ (ev F a σ M) ⟨fun x M1 => @Rs.th _ _ (ev F b σ M1) ⟨fun y M2 => Rs.of M2 ((look M2 x).bind fun x => (look M2 y).bind fun y => (binop o x y).map .p)⟩⟩ := Eq.trans rfl rfl
@[simp] theorem ev_neg (a : Ex) : ev F (.neg a) σ M = @Rs.th _ _ (ev F a σ M) ⟨fun x M1 => negV x M1⟩ := Eq.trans rfl rfl
@[simp] theorem ev_not (a : Ex) : ev F (.not a) σ M = @Rs.th _ _ (ev F a σ M) ⟨fun x M1 => Rs.of M1 ((look M1 x).bind fun x => (truth x).map fun c => .p (.bool (!c)))⟩ := Eq.trans rfl rfl
@[simp] theorem ev_cmp (o : COp) (a b : Ex) : ev F (.cmp o a b) σ M = @Rs.th _ _ (ev F a σ M) ⟨fun x M1 => @Rs.th _ _ (ev F b σ M1) ⟨fun y M2 => Rs.of M2 ((look M2 x).bind fun x => (look M2 y).bind fun y => (cmpop o x y).map fun c => .p (.bool c))⟩⟩ := Eq.trans rfl rfl
@[simp] theorem ev_cmp2 (o o' : COp) (a b c : Ex) : ev F (.cmp2 o o' a b c) σ M = @Rs.th _ _ (ev F a σ M) ⟨fun x M1 => @Rs.th _ _ (ev F b σ M1) ⟨fun y M2 => @Rs.th _ _ (Rs.of M2 ((look M2 x).bind fun x => (look M2 y).bind fun y => cmpop o x y)) ⟨fun k M3 =>
    @cnd _ k ⟨fun _ => @Rs.th _ _ (ev F c σ M3) ⟨fun z M4 => Rs.of M4 ((look M4 y).bind fun y => (look M4 z).bind fun z => (cmpop o' y z).map fun c => .p (.bool c))⟩⟩ ⟨fun _ => .ok (.p (.bool false)) M3⟩⟩⟩⟩ := Eq.trans rfl rfl
@[simp] theorem ev_cmp3 (o o' o2 : COp) (a b c d : Ex) : ev F (.cmp3 o o' o2 a b c d) σ M = @Rs.th _ _ (ev F a σ M) ⟨fun x M1 => @Rs.th _ _ (ev F b σ M1) ⟨fun y M2 => @Rs.th _ _ (Rs.of M2 ((look M2 x).bind fun x => (look M2 y).bind fun y => cmpop o x y)) ⟨fun k M3 =>
    @cnd _ k ⟨fun _ => @Rs.th _ _ (ev F c σ M3) ⟨fun z M4 => @Rs.th _ _ (Rs.of M4 ((look M4 y).bind fun y => (look M4 z).bind fun z => cmpop o' y z)) ⟨fun k M5 => @cnd _ k ⟨fun _ => @Rs.th _ _ (ev F d σ M5) ⟨fun u M6 => Rs.of M6 ((look M6 z).bind fun z => (look M6 u).bind fun u => (cmpop o2 z u).map fun c => .p (.bool c))⟩⟩ ⟨fun _ => .ok (.p (.bool false)) M5⟩⟩⟩⟩ ⟨fun _ => .ok (.p (.bool false)) M3⟩⟩⟩⟩ := Eq.trans rfl rfl
@[simp] theorem ev_and (es : Exs) : ev F (.and es) σ M = evAnd F es σ M := Eq.trans rfl rfl
@[simp] theorem ev_or (es : Exs) : ev F (.or es) σ M = evOr F es σ M := Eq.trans rfl rfl
@[simp] theorem evAnd_one (e : Ex) : evAnd F (.cons e .nil) σ M = ev F e σ M := Eq.trans rfl rfl
@[simp] theorem evOr_one (e : Ex) : evOr F (.cons e .nil) σ M = ev F e σ M := Eq.trans rfl rfl
@[simp] theorem evAnd_cons (e e' : Ex) (es : Exs) : evAnd F (.cons e (.cons e' es)) σ M = @Rs.th _ _ (ev F e σ M) ⟨fun v M1 => @andV v M1 ⟨fun _ => evAnd F (.cons e' es) σ M1⟩⟩ := Eq.trans rfl rfl
@[simp] theorem evOr_cons (e e' : Ex) (es : Exs) : evOr F (.cons e (.cons e' es)) σ M = @Rs.th _ _ (ev F e σ M) ⟨fun v M1 => @orV v M1 ⟨fun _ => evOr F (.cons e' es) σ M1⟩⟩ := Eq.trans rfl rfl
@[simp] theorem ev_ite (c a b : Ex) : ev F (.ite c a b) σ M = @Rs.th _ _ (tst F c σ M) ⟨fun k M1 => @cnd _ k ⟨fun _ => ev F a σ M1⟩ ⟨fun _ => ev F b σ M1⟩⟩ := Eq.trans rfl rfl
@[simp] theorem ev_tup (es : Exs) : ev F (.tup es) σ M = @Rs.th _ _ (evs F es σ M) ⟨fun vs M1 => Rs.of M1 ((plains vs).map fun ds => .p (.tuple ds))⟩ := Eq.trans rfl rfl
@[simp] theorem ev_lst (es : Exs) : ev F (.lst es) σ M = @Rs.th _ _ (evs F es σ M) ⟨fun vs M1 => Rs.of M1 ((plains vs).map fun ds => .p (.list ds))⟩ := Eq.trans rfl rfl
@[simp] theorem evs_nil : evs F .nil σ M = .ok [] M := Eq.trans rfl rfl
@[simp] theorem evs_cons (e : Ex) (es : Exs) : evs F (.cons e es) σ M = @Rs.th _ _ (ev F e σ M) ⟨fun v M1 => @Rs.th _ _ (evs F es σ M1) ⟨fun vs M2 => .ok (v :: vs) M2⟩⟩ := Eq.trans rfl rfl
@[simp] theorem ev_ix (a i : Ex) : ev F (.ix a i) σ M = @Rs.th _ _ (ev F a σ M) ⟨fun x M1 => @Rs.th _ _ (ev F i σ M1) ⟨fun y M2 => Rs.of M2 ((look M2 x).bind fun x => (plain y).bind fun y => (getIx x y).map .p)⟩⟩ := Eq.trans rfl rfl
@[simp] theorem ev_sl (a : Ex) (lo hi : Ops) : ev F (.sl a lo hi) σ M = @Rs.th _ _ (ev F a σ M) ⟨fun x M1 => @Rs.th _ _ (evO F lo σ M1) ⟨fun l M2 => @Rs.th _ _ (evO F hi σ M2) ⟨fun h M3 => Rs.of M3 ((look M3 x).bind fun x => (getSl x l h).map .p)⟩⟩⟩ := Eq.trans rfl rfl
@[simp] theorem evO_non : evO F .non σ M = .ok none M := Eq.trans rfl rfl
@[simp] theorem evO_som (e : Ex) : evO F (.som e) σ M = @Rs.th _ _ (ev F e σ M) ⟨fun v M1 => intV v M1⟩ := Eq.trans rfl rfl
@[simp] theorem ev_rev (a : Ex) : ev F (.rev a) σ M = @Rs.th _ _ (ev F a σ M) ⟨fun x M1 => revV x M1⟩ := Eq.trans rfl rfl
@[simp] theorem ev_bi (b : Bi) (a : Ex) : ev F (.bi b a) σ M = @Rs.th _ _ (ev F a σ M) ⟨fun x M1 => fBi b M1 x⟩ := Eq.trans rfl rfl
@[simp] theorem ev_isi (a : Ex) (t : Ty) : ev F (.isi a t) σ M = @Rs.th _ _ (ev F a σ M) ⟨fun x M1 => Rs.of M1 ((look M1 x).map fun x => .p (.bool (isTy t x)))⟩ := Eq.trans rfl rfl
@[simp] theorem ev_rngl (t : Bool) (es : Exs) : ev F (.rngl t es) σ M = @Rs.th _ _ (evs F es σ M) ⟨fun vs M1 => fRng t vs M1⟩ := Eq.trans rfl rfl
@[simp] theorem ev_call (f : String) (es : Exs) : ev F (.call f es) σ M = @Rs.th _ _ (evs F es σ M) ⟨fun vs M1 => F f vs M1⟩ := Eq.trans rfl rfl
@[simp] theorem ev_pop (o : Ex) (es : Exs) : ev F (.pop o es) σ M = @Rs.th _ _ (ev F o σ M) ⟨fun x M1 => @popV x M1 ⟨fun _ => @Rs.th _ _ (evs F es σ M1) ⟨fun vs M2 => popOf x vs M2⟩⟩⟩ := Eq.trans rfl rfl
@[simp] theorem ev_lc (elt : Ex) (tg : Tg) (it : It) (ifs : Exs) (own : List Nat) : ev F (.lc elt tg it ifs own) σ M = @Rs.th _ _ (@Rs.th _ _ (evIt F it σ M) ⟨fun w M1 => lcR F own tg ifs elt w σ M1⟩) ⟨fun ds M2 => .ok (.p (.list ds)) M2⟩ := Eq.trans rfl rfl
@[simp] theorem ev_idx (o v : Ex) : ev F (.idx o v) σ M = @Rs.th _ _ (ev F o σ M) ⟨fun x M1 => @sqV x M1 ⟨fun _ => @Rs.th _ _ (ev F v σ M1) ⟨fun y M2 => Rs.of M2 (idxOf M2 x y)⟩⟩⟩ := Eq.trans rfl rfl
def evPk (F : Fns) (ps : Pxs) (σ : Sg) (M : Mem) : Rs (List (D × D)) := evP F ps σ M
@[simp] theorem ev_dgi (ps : Pxs) (k : Ex) : ev F (.dgi ps k) σ M = @Rs.th _ _ (evPk F ps σ M) ⟨fun qs M1 => @Rs.th _ _ (ev F k σ M1) ⟨fun y M2 => Rs.of M2 (dgiOf qs y)⟩⟩ := Eq.trans rfl rfl
@[simp] theorem ev_dgt (ps : Pxs) (k d : Ex) : ev F (.dgt ps k d) σ M = @Rs.th _ _ (evPk F ps σ M) ⟨fun qs M1 => @Rs.th _ _ (ev F k σ M1) ⟨fun y M2 => @Rs.th _ _ (ev F d σ M2) ⟨fun z M3 => Rs.of M3 (dgtOf qs y z)⟩⟩⟩ := Eq.trans rfl rfl
@[simp] theorem evPk_nil : evPk F .nil σ M = .ok [] M := Eq.trans rfl rfl
@[simp] theorem evPk_cons (a b : Ex) (ps : Pxs) : evPk F (.cons a b ps) σ M = @Rs.th _ _ (ev F a σ M) ⟨fun x M1 => @Rs.th _ _ (ev F b σ M1) ⟨fun y M2 => @Rs.th _ _ (Rs.of M2 (pxOf x y)) ⟨fun p M3 => @Rs.th _ _ (evPk F ps σ M3) ⟨fun qs M4 => .ok (p :: qs) M4⟩⟩⟩⟩ := Eq.trans rfl rfl
@[simp] theorem pxOf_p (x y : D) : pxOf (.p x) (.p y) = if isKeyD x then some (x, y) else none := rfl
@[simp] theorem ev_srs (a : Ex) : ev F (.srs a) σ M = @Rs.th _ _ (ev F a σ M) ⟨fun x M1 => Rs.of M1 ((srsOf M1 x).map .p)⟩ := Eq.trans rfl rfl
@[simp] theorem ev_dx (o k : Ex) : ev F (.dx o k) σ M = @Rs.th _ _ (ev F o σ M) ⟨fun x M1 => @Rs.th _ _ (ev F k σ M1) ⟨fun y M2 => Rs.of M2 (dxOf M2 x y)⟩⟩ := Eq.trans rfl rfl
@[simp] theorem ev_dg (o k d : Ex) : ev F (.dg o k d) σ M = @Rs.th _ _ (ev F o σ M) ⟨fun x M1 => @dkV x M1 ⟨fun _ => @Rs.th _ _ (ev F k σ M1) ⟨fun y M2 => @Rs.th _ _ (ev F d σ M2) ⟨fun z M3 => Rs.of M3 (dgOf M3 x y z)⟩⟩⟩⟩ := Eq.trans rfl rfl
@[simp] theorem ev_srk (a : Ex) : ev F (.srk a) σ M = @Rs.th _ _ (ev F a σ M) ⟨fun x M1 => Rs.of M1 ((srkOf M1 x).map .p)⟩ := Eq.trans rfl rfl
@[simp] theorem ev_cnt (o v : Ex) : ev F (.cnt o v) σ M = @Rs.th _ _ (ev F o σ M) ⟨fun x M1 => @llV x M1 ⟨fun _ => @Rs.th _ _ (ev F v σ M1) ⟨fun y M2 => Rs.of M2 (cntOf M2 x y)⟩⟩⟩ := Eq.trans rfl rfl
theorem ev_ldc (k v : Ex) (tg : Tg) (it : It) (ifs : Exs) (own : List Nat) : ev F (.ldc k v tg it ifs own) σ M = @Rs.th _ _ (evIt F it σ M) ⟨fun w M1 => ldcR F own tg ifs k v w σ M1⟩ := by
  show ((evIt F it σ M).bind _).bind _ = (evIt F it σ M).bind _
  cases evIt F it σ M <;> rfl
@[simp] theorem ev_srt (a : Ex) : ev F (.srt a) σ M = @Rs.th _ _ (ev F a σ M) ⟨fun x M1 => Rs.of M1 ((srtOf M1 x).map .p)⟩ := Eq.trans rfl rfl
@[simp] theorem ev_mm2 (c : Bool) (a b : Ex) : ev F (.mm2 c a b) σ M = @Rs.th _ _ (ev F a σ M) ⟨fun x M1 => @Rs.th _ _ (ev F b σ M1) ⟨fun y M2 => Rs.of M2 (mmOf c x y)⟩⟩ := Eq.trans rfl rfl
@[simp] theorem ev_lc2 (elt : Ex) (tg : Tg) (it : It) (ifs : Exs) (own : List Nat) (tg1 : Tg) (it1 : It) (ifs1 : Exs) (own1 : List Nat) : ev F (.lc2 elt tg it ifs own tg1 it1 ifs1 own1) σ M = @Rs.th _ _ (@Rs.th _ _ (evIt F it σ M) ⟨fun w M1 => lc2R F own tg ifs own1 tg1 it1 ifs1 elt w σ M1⟩) ⟨fun ds M2 => .ok (.p (.list ds)) M2⟩ := Eq.trans rfl rfl
theorem stp2_nm {g' : Sg} (own : List Nat) (tg : Tg) (own1 : List Nat) (tg1 : Tg) (it1 : It) (ifs1 : Exs) (elt : Ex) (d : D) (h : store tg d (wipe σ own) = some g') : stp2 F own tg .nil own1 tg1 it1 ifs1 elt σ d M = @Rs.th _ _ (evIt F it1 g' M) ⟨fun w M1 => lcS F own1 tg1 ifs1 elt w g' M1⟩ := by
  unfold stp2 fStep2
  rw [h]
  rfl
@[simp] theorem ev_fld (c : String) (o : Ex) (f : String) : ev F (.fld c o f) σ M = @Rs.th _ _ (ev F o σ M) ⟨fun x M1 => Rs.of M1 (fldOf c f M1 x)⟩ := Eq.trans rfl rfl
@[simp] theorem ev_meth (c : String) (o : Ex) (m : String) (es : Exs) : ev F (.meth c o m es) σ M = @Rs.th _ _ (ev F o σ M) ⟨fun x M1 => @inV c m x M1 ⟨fun _ => @Rs.th _ _ (evs F es σ M1) ⟨fun vs M2 => F (c ++ "." ++ m) (x :: vs) M2⟩⟩⟩ := Eq.trans rfl rfl
@[simp] theorem ev_mk (c : String) (ns : Nat) (ini : Inis) (es : Exs) : ev F (.mk c ns ini es) σ M = @Rs.th _ _ (evs F es σ M) ⟨fun vs M1 => mkV F c ns ini vs M1⟩ := Eq.trans rfl rfl
@[simp] theorem ev_join (a b : Ex) : ev F (.join a b) σ M = @Rs.th _ _ (ev F a σ M) ⟨fun x M1 => @stV x ⟨fun _ => @Rs.th _ _ (ev F b σ M1) ⟨fun y M2 => Rs.of M2 (joinOf M2 x y)⟩⟩⟩ := Eq.trans rfl rfl
@[simp] theorem ev_callz (f : String) (e : Ex) (es : Exs) : ev F (.callz f e es) σ M = @Rs.th _ _ (ev F e σ M) ⟨fun x M1 => @Rs.th _ _ (evs F es σ M1) ⟨fun vs M2 => Rs.of M2 (zOf (F f) M2 x vs)⟩⟩ := Eq.trans rfl rfl
@[simp] theorem evN_lc (elt : Ex) (tg : Tg) (it : It) (ifs : Exs) (own : List Nat) : evN F (.lc elt tg it ifs own) σ M = @Rs.th _ _ (evIt F it σ M) ⟨fun w M1 => lcR F own tg ifs elt w σ M1⟩ := Eq.trans rfl rfl
@[simp] theorem evN_lst (es : Exs) : evN F (.lst es) σ M = @Rs.th _ _ (evs F es σ M) ⟨fun vs M1 => Rs.of M1 (plains vs)⟩ := Eq.trans rfl rfl
@[simp] theorem evN_lis (e : Ex) : evN F (.lis e) σ M = @Rs.th _ _ (ev F e σ M) ⟨fun v M1 => Rs.of M1 (listOf M1 v)⟩ := Eq.trans rfl rfl
@[simp] theorem evN_rng (e : Ex) : evN F (.rng e) σ M = @Rs.th _ _ (ev F e σ M) ⟨fun v M1 => Rs.of M1 ((rangeOf [v]).bind fun ds => if ds.length ≤ line then some ds else none)⟩ := Eq.trans rfl rfl
@[simp] theorem evN_add (a b : Ex) : evN F (.add a b) σ M = @Rs.th _ _ (ev F a σ M) ⟨fun x M1 => @Rs.th _ _ (ev F b σ M1) ⟨fun y M2 => Rs.of M2 (catOf M2 x y)⟩⟩ := Eq.trans rfl rfl
@[simp] theorem evN_mul (a b : Ex) : evN F (.mul a b) σ M = @Rs.th _ _ (ev F a σ M) ⟨fun x M1 => @Rs.th _ _ (ev F b σ M1) ⟨fun y M2 => Rs.of M2 (repOf M2 x y)⟩⟩ := Eq.trans rfl rfl
@[simp] theorem stp_nm (own : List Nat) (i : Nat) (ifs : Exs) (elt : Ex) (d : D) : stp F own (.nm i) ifs elt σ d M = @Rs.th _ _ (evTs F ifs ((wipe σ own).set i (some (.p d))) M) ⟨fun c M' => @cnd _ c ⟨fun _ => @Rs.th _ _ (ev F elt ((wipe σ own).set i (some (.p d))) M') ⟨fun y M'' => oneV y M''⟩⟩ ⟨fun _ => .ok [] M'⟩⟩ := Eq.trans rfl rfl
theorem stp_tp (own is : List Nat) (ifs : Exs) (elt : Ex) (d : D) {g' : Sg} (h : store (.tp is) d (wipe σ own) = some g') : stp F own (.tp is) ifs elt σ d M = @Rs.th _ _ (evTs F ifs g' M) ⟨fun c M' => @cnd _ c ⟨fun _ => @Rs.th _ _ (ev F elt g' M') ⟨fun y M'' => oneV y M''⟩⟩ ⟨fun _ => .ok [] M'⟩⟩ := by
  unfold stp fStep
  rw [h]
  rfl
@[simp] theorem stp_tp2 (own : List Nat) (i j : Nat) (ifs : Exs) (elt : Ex) (x y : D) : stp F own (.tp [i, j]) ifs elt σ (.tuple [x, y]) M = @Rs.th _ _ (evTs F ifs (((wipe σ own).set i (some (.p x))).set j (some (.p y))) M) ⟨fun c M' => @cnd _ c ⟨fun _ => @Rs.th _ _ (ev F elt (((wipe σ own).set i (some (.p x))).set j (some (.p y))) M') ⟨fun y M'' => oneV y M''⟩⟩ ⟨fun _ => .ok [] M'⟩⟩ := Eq.trans rfl rfl
@[simp] theorem stp_tp3 (own : List Nat) (i j l : Nat) (ifs : Exs) (elt : Ex) (x y z : D) : stp F own (.tp [i, j, l]) ifs elt σ (.tuple [x, y, z]) M = @Rs.th _ _ (evTs F ifs ((((wipe σ own).set i (some (.p x))).set j (some (.p y))).set l (some (.p z))) M) ⟨fun c M' => @cnd _ c ⟨fun _ => @Rs.th _ _ (ev F elt ((((wipe σ own).set i (some (.p x))).set j (some (.p y))).set l (some (.p z))) M') ⟨fun y M'' => oneV y M''⟩⟩ ⟨fun _ => .ok [] M'⟩⟩ := Eq.trans rfl rfl
@[simp] theorem evTs_nil : evTs F .nil σ M = .ok true M := Eq.trans rfl rfl
@[simp] theorem evTs_one (e : Ex) : evTs F (.cons e .nil) σ M = tst F e σ M := Eq.trans rfl rfl
@[simp] theorem evIt_sq (e : Ex) : evIt F (.sq e) σ M = @Rs.th _ _ (ev F e σ M) ⟨fun v M1 => Rs.of M1 (walkOf M1 v)⟩ := Eq.trans rfl rfl
@[simp] theorem evIt_rng (es : Exs) : evIt F (.rng es) σ M = @Rs.th _ _ (evs F es σ M) ⟨fun vs M1 => fRw vs M1⟩ := Eq.trans rfl rfl
@[simp] theorem evIt_enm (e : Ex) : evIt F (.enm e) σ M = @Rs.th _ _ (ev F e σ M) ⟨fun v M1 => enmV v M1⟩ := Eq.trans rfl rfl
@[simp] theorem evIt_zip (a b : Ex) : evIt F (.zip a b) σ M = @Rs.th _ _ (ev F a σ M) ⟨fun v M1 => @Rs.th _ _ (ev F b σ M1) ⟨fun w M2 => Rs.of M2 (zipW v w)⟩⟩ := Eq.trans rfl rfl
@[simp] theorem evIt_rvd (e : Ex) : evIt F (.rvd e) σ M = @Rs.th _ _ (ev F e σ M) ⟨fun v M1 => rvdV v M1⟩ := Eq.trans rfl rfl
/-! tests -/
@[simp] theorem tst_not (a : Ex) : tst F (.not a) σ M = @Rs.th _ _ (tst F a σ M) ⟨fun c M1 => .ok (!c) M1⟩ := Eq.trans rfl rfl
@[simp] theorem tst_and (es : Exs) : tst F (.and es) σ M = evTAnd F es σ M := Eq.trans rfl rfl
@[simp] theorem tst_or (es : Exs) : tst F (.or es) σ M = evTOr F es σ M := Eq.trans rfl rfl
@[simp] theorem tst_ite (c a b : Ex) : tst F (.ite c a b) σ M = @Rs.th _ _ (tst F c σ M) ⟨fun k M1 => @cnd _ k ⟨fun _ => tst F a σ M1⟩ ⟨fun _ => tst F b σ M1⟩⟩ := Eq.trans rfl rfl
@[simp] theorem evTAnd_one (e : Ex) : evTAnd F (.cons e .nil) σ M = tst F e σ M := Eq.trans rfl rfl
@[simp] theorem evTOr_one (e : Ex) : evTOr F (.cons e .nil) σ M = tst F e σ M := Eq.trans rfl rfl
@[simp] theorem evTAnd_cons (e e' : Ex) (es : Exs) : evTAnd F (.cons e (.cons e' es)) σ M = @Rs.th _ _ (tst F e σ M) ⟨fun c M1 => @cnd _ c ⟨fun _ => evTAnd F (.cons e' es) σ M1⟩ ⟨fun _ => .ok false M1⟩⟩ := Eq.trans rfl rfl
@[simp] theorem evTOr_cons (e e' : Ex) (es : Exs) : evTOr F (.cons e (.cons e' es)) σ M = @Rs.th _ _ (tst F e σ M) ⟨fun c M1 => @cnd _ c ⟨fun _ => .ok true M1⟩ ⟨fun _ => evTOr F (.cons e' es) σ M1⟩⟩ := Eq.trans rfl rfl
@[simp] theorem tst_var (i : Nat) : tst F (.var i) σ M = @Rs.th _ _ (vr σ[i]? M) ⟨fun x M1 => truV x M1⟩ := Eq.trans rfl rfl
@[simp] theorem tst_con (d : D) : tst F (.con d) σ M = Rs.of M (truth d) := Eq.trans rfl rfl
@[simp] theorem tst_cmp (o : COp) (a b : Ex) : tst F (.cmp o a b) σ M = @Rs.th _ _ (ev F (.cmp o a b) σ M) ⟨fun x M1 => truV x M1⟩ := Eq.trans rfl rfl
@[simp] theorem tst_cmp2 (o o' : COp) (a b c : Ex) : tst F (.cmp2 o o' a b c) σ M = @Rs.th _ _ (ev F (.cmp2 o o' a b c) σ M) ⟨fun x M1 => truV x M1⟩ := Eq.trans rfl rfl
@[simp] theorem tst_cmp3 (o o' o2 : COp) (a b c d : Ex) : tst F (.cmp3 o o' o2 a b c d) σ M = @Rs.th _ _ (ev F (.cmp3 o o' o2 a b c d) σ M) ⟨fun x M1 => truV x M1⟩ := Eq.trans rfl rfl
@[simp] theorem tst_ix (a b : Ex) : tst F (.ix a b) σ M = @Rs.th _ _ (ev F (.ix a b) σ M) ⟨fun x M1 => truV x M1⟩ := Eq.trans rfl rfl
@[simp] theorem tst_bi (b : Bi) (a : Ex) : tst F (.bi b a) σ M = @Rs.th _ _ (ev F (.bi b a) σ M) ⟨fun x M1 => truV x M1⟩ := Eq.trans rfl rfl
@[simp] theorem tst_isi (a : Ex) (t : Ty) : tst F (.isi a t) σ M = @Rs.th _ _ (ev F (.isi a t) σ M) ⟨fun x M1 => truV x M1⟩ := Eq.trans rfl rfl
@[simp] theorem tst_call (f : String) (es : Exs) : tst F (.call f es) σ M = @Rs.th _ _ (ev F (.call f es) σ M) ⟨fun x M1 => truV x M1⟩ := Eq.trans rfl rfl
@[simp] theorem tst_bin (o : BOp) (a b : Ex) : tst F (.bin o a b) σ M = @Rs.th _ _ (ev F (.bin o a b) σ M) ⟨fun x M1 => truV x M1⟩ := Eq.trans rfl rfl
@[simp] theorem tst_lc (elt : Ex) (tg : Tg) (it : It) (ifs : Exs) (own : List Nat) : tst F (.lc elt tg it ifs own) σ M = @Rs.th _ _ (ev F (.lc elt tg it ifs own) σ M) ⟨fun x M1 => truV x M1⟩ := Eq.trans rfl rfl
@[simp] theorem tst_dx (o k : Ex) : tst F (.dx o k) σ M = @Rs.th _ _ (ev F (.dx o k) σ M) ⟨fun x M1 => truV x M1⟩ := Eq.trans rfl rfl
@[simp] theorem tst_dg (o k d : Ex) : tst F (.dg o k d) σ M = @Rs.th _ _ (ev F (.dg o k d) σ M) ⟨fun x M1 => truV x M1⟩ := Eq.trans rfl rfl
@[simp] theorem tst_srk (a : Ex) : tst F (.srk a) σ M = @Rs.th _ _ (ev F (.srk a) σ M) ⟨fun x M1 => truV x M1⟩ := Eq.trans rfl rfl
@[simp] theorem tst_cnt (o v : Ex) : tst F (.cnt o v) σ M = @Rs.th _ _ (ev F (.cnt o v) σ M) ⟨fun x M1 => truV x M1⟩ := Eq.trans rfl rfl
@[simp] theorem tst_dgi (ps : Pxs) (k : Ex) : tst F (.dgi ps k) σ M = @Rs.th _ _ (ev F (.dgi ps k) σ M) ⟨fun x M1 => truV x M1⟩ := Eq.trans rfl rfl
@[simp] theorem tst_dgt (ps : Pxs) (k d : Ex) : tst F (.dgt ps k d) σ M = @Rs.th _ _ (ev F (.dgt ps k d) σ M) ⟨fun x M1 => truV x M1⟩ := Eq.trans rfl rfl
@[simp] theorem tst_lc2 (elt : Ex) (tg : Tg) (it : It) (ifs : Exs) (own : List Nat) (tg1 : Tg) (it1 : It) (ifs1 : Exs) (own1 : List Nat) : tst F (.lc2 elt tg it ifs own tg1 it1 ifs1 own1) σ M = @Rs.th _ _ (ev F (.lc2 elt tg it ifs own tg1 it1 ifs1 own1) σ M) ⟨fun x M1 => truV x M1⟩ := Eq.trans rfl rfl
@[simp] theorem tst_fld (c : String) (o : Ex) (f : String) : tst F (.fld c o f) σ M = @Rs.th _ _ (ev F (.fld c o f) σ M) ⟨fun x M1 => truV x M1⟩ := Eq.trans rfl rfl
@[simp] theorem tst_meth (c : String) (o : Ex) (m : String) (es : Exs) : tst F (.meth c o m es) σ M = @Rs.th _ _ (ev F (.meth c o m es) σ M) ⟨fun x M1 => truV x M1⟩ := Eq.trans rfl rfl
@[simp] theorem tst_join (a b : Ex) : tst F (.join a b) σ M = @Rs.th _ _ (ev F (.join a b) σ M) ⟨fun x M1 => truV x M1⟩ := Eq.trans rfl rfl
@[simp] theorem tst_callz (f : String) (e : Ex) (es : Exs) : tst F (.callz f e es) σ M = @Rs.th _ _ (ev F (.callz f e es) σ M) ⟨fun x M1 => truV x M1⟩ := Eq.trans rfl rfl
@[simp] theorem tst_sl (a : Ex) (lo hi : Ops) : tst F (.sl a lo hi) σ M = @Rs.th _ _ (ev F (.sl a lo hi) σ M) ⟨fun x M1 => truV x M1⟩ := Eq.trans rfl rfl
end
section
variable (F : Fns) (wh : Wh) (g : Sg) (M : Mem)
@[simp] theorem execs_nil : execs F wh .nil g M = some (.nx g, M) := Eq.trans rfl rfl
@[simp] theorem execs_cons (s : Sm) (ss : Sms) : execs F wh (.cons s ss) g M = @sq (exec F wh s g M) ⟨fun g1 M1 => execs F wh ss g1 M1⟩ := Eq.trans rfl rfl
@[simp] theorem exec_set_nm (i : Nat) (e : Ex) : exec F wh (.set (.nm i) e) g M = @lf _ (ev F e g M) g ⟨fun v M1 => some (.nx (g.set i (some v)), M1)⟩ := Eq.trans rfl rfl
@[simp] theorem exec_set_tp (is : List Nat) (e : Ex) : exec F wh (.set (.tp is) e) g M = @lf _ (ev F e g M) g ⟨fun v M1 => stT is v g M1⟩ := by
  show lift (ev F e g M) g _ = lift (ev F e g M) g _
  cases ev F e g M with
  | bad => rfl
  | exc => rfl
  | ok v M1 => cases v <;> rfl
@[simp] theorem exec_new (i : Nat) (e : Nw) : exec F wh (.new i e) g M = @lf _ (evN F e g M) g ⟨fun ds M1 => some (.nx (g.set i (some (.r M1.length))), M1 ++ [.lst ds])⟩ := Eq.trans rfl rfl
@[simp] theorem exec_newd (i : Nat) (k v : Ex) (tg : Tg) (it : It) (ifs : Exs) (own : List Nat) : exec F wh (.newd i k v tg it ifs own) g M = @lf _ (fLc own tg (evIt F it) (evTs F ifs) (fPair (ev F k) (ev F v)) g M) g ⟨fun ps M1 => some (.nx (g.set i (some (.r M1.length))), M1 ++ [.dic (ps.foldl putP [])])⟩ := Eq.trans rfl rfl
@[simp] theorem exec_retn (e : Nw) : exec F wh (.retn e) g M = @lf _ (evN F e g M) g ⟨fun ds M1 => some (.rt (.r M1.length), M1 ++ [.lst ds])⟩ := Eq.trans rfl rfl
@[simp] theorem exec_par (i j : Nat) (a b : Ex) : exec F wh (.par i j a b) g M = @lf _ (ev F a g M) g ⟨fun v M1 => @lf _ (ev F b g M1) g ⟨fun w M2 => some (.nx ((g.set i (some v)).set j (some w)), M2)⟩⟩ := Eq.trans rfl rfl
@[simp] theorem exec_newp (i : Nat) (ps : Pxs) : exec F wh (.newp i ps) g M = @lf _ (evPk F ps g M) g ⟨fun qs M1 => some (.nx (g.set i (some (.r M1.length))), M1 ++ [.dic (qs.foldl (fun a q => putD a q.1 q.2) [])])⟩ := Eq.trans rfl rfl
@[simp] theorem exec_newt (i : Nat) (k v : Ex) : exec F wh (.newt i k v) g M = @lf _ (ev F k g M) g ⟨fun x M1 => @lf _ (ev F v g M1) g ⟨fun y M2 => (newtOf x y).map fun o => (.nx (g.set i (some (.r M2.length))), M2 ++ [o])⟩⟩ := Eq.trans rfl rfl
@[simp] theorem exec_putd (o i v : Ex) : exec F wh (.putd o i v) g M = @lf _ (ev F v g M) g ⟨fun v M1 => @lf _ (ev F o g M1) g ⟨fun x M2 => @lf _ (ev F i g M2) g ⟨fun y M3 => nxM (putdOf x y v M3) g⟩⟩⟩ := Eq.trans rfl rfl
@[simp] theorem exec_put (o i v : Ex) : exec F wh (.put o i v) g M = @lf _ (ev F v g M) g ⟨fun v M1 => @lf _ (ev F o g M1) g ⟨fun x M2 => @lf _ (ev F i g M2) g ⟨fun y M3 => nxM (putOf x y v M3) g⟩⟩⟩ := Eq.trans rfl rfl
@[simp] theorem exec_app (o v : Ex) : exec F wh (.app o v) g M = @lf _ (ev F o g M) g ⟨fun x M1 => @isLk x M1 ⟨fun _ => @lf _ (ev F v g M1) g ⟨fun v M2 => nxM (appOf x v M2) g⟩⟩⟩ := Eq.trans rfl rfl
@[simp] theorem exec_ext (o v : Ex) : exec F wh (.ext o v) g M = @lf _ (ev F o g M) g ⟨fun x M1 => @isLk x M1 ⟨fun _ => @lf _ (ev F v g M1) g ⟨fun v M2 => nxM (extOf x v M2) g⟩⟩⟩ := Eq.trans rfl rfl
@[simp] theorem exec_drop (e : Ex) : exec F wh (.drop e) g M = @lf _ (ev F e g M) g ⟨fun _ M1 => some (.nx g, M1)⟩ := Eq.trans rfl rfl
@[simp] theorem exec_doc : exec F wh .doc g M = some (.nx g, M) := Eq.trans rfl rfl
@[simp] theorem exec_ret (e : Ex) : exec F wh (.ret e) g M = @lf _ (ev F e g M) g ⟨fun v M1 => some (.rt v, M1)⟩ := Eq.trans rfl rfl
@[simp] theorem exec_ite (c : Ex) (a b : Sms) : exec F wh (.ite c a b) g M = @lf _ (tst F c g M) g ⟨fun k M1 => @cnd _ k ⟨fun _ => execs F wh a g M1⟩ ⟨fun _ => execs F wh b g M1⟩⟩ := Eq.trans rfl rfl
@[simp] theorem exec_whl (c : Ex) (b : Sms) : exec F wh (.whl c b) g M = whR F wh c b g M := Eq.trans rfl rfl
@[simp] theorem exec_fr (t : Tg) (it : It) (b : Sms) : exec F wh (.fr t it b) g M = @lf _ (evIt F it g M) g ⟨fun w M1 => frR F wh t b w w.items g M1⟩ := Eq.trans rfl rfl
@[simp] theorem exec_rse (c : String) (fl : List String) (es : Exs) : exec F wh (.rse c fl es) g M = @lf _ (evs F es g M) g ⟨fun vs M1 => rseV c fl vs g M1⟩ := Eq.trans rfl rfl
@[simp] theorem exec_tr (kn : List String) (b : Sms) (hs : List Hd) : exec F wh (.tr kn b hs) g M = trR F wh kn b hs g M := Eq.trans rfl rfl
@[simp] theorem exec_rett (es : Exs) : exec F wh (.rett es) g M = @lf _ (evs F es g M) g ⟨fun vs M1 => some (.rl vs, M1)⟩ := Eq.trans rfl rfl
@[simp] theorem exec_setf (c : String) (o : Ex) (f : String) (e : Ex) : exec F wh (.setf c o f e) g M = @lf _ (ev F e g M) g ⟨fun v M1 => @lf _ (ev F o g M1) g ⟨fun x M2 => nxM (setfOf c f x v M2) g⟩⟩ := Eq.trans rfl rfl
@[simp] theorem exec_augf (c : String) (o : Ex) (f : String) (e : Ex) : exec F wh (.augf c o f e) g M = @lf _ (ev F o g M) g ⟨fun x M1 => @lf _ (Rs.of M1 (fldOf c f M1 x)) g ⟨fun w M1 => @lf _ (ev F e g M1) g ⟨fun y M2 => nxM (augfOf c f x w y M2) g⟩⟩⟩ := Eq.trans rfl rfl
@[simp] theorem exec_brk : exec F wh .brk g M = some (.bk g, M) := Eq.trans rfl rfl
end
/-! ### operations on data that are known -/
section
variable (i j : Int) (x y : Str) (ds es : List D) (d : D) (b : Bool) (M : Mem)
@[simp] theorem add_i : binop .add (.int i) (.int j) = some (.int (i + j)) := Eq.trans rfl rfl
@[simp] theorem sub_i : binop .sub (.int i) (.int j) = some (.int (i - j)) := Eq.trans rfl rfl
theorem add_l : binop .add (.list ds) (.list es) = if ds.length + es.length ≤ line then some (.list (ds ++ es)) else none := Eq.trans rfl rfl
theorem add_t : binop .add (.tuple ds) (.tuple es) = if ds.length + es.length ≤ line then some (.tuple (ds ++ es)) else none := Eq.trans rfl rfl
theorem mul_i : binop .mul (.int i) (.int j) = if small64 i || small64 j then some (.int (i * j)) else none := Eq.trans rfl rfl
theorem fdiv_i : binop .fdiv (.int i) (.int j) = if j ≠ 0 ∧ j.natAbs < 1073741824 then some (.int (i.fdiv j)) else none := Eq.trans rfl rfl
theorem mod_i : binop .mod (.int i) (.int j) = if j ≠ 0 then some (.int (i.fmod j)) else none := Eq.trans rfl rfl
theorem pow_i : binop .pow (.int i) (.int j) = if 0 ≤ j ∧ j ≤ 1000000 ∧ i.natAbs < 2 ^ 64 then some (.int (i ^ j.toNat)) else none := Eq.trans rfl rfl
@[simp] theorem lt_i : cmpop .lt (.int i) (.int j) = some (decide (i < j)) := Eq.trans rfl rfl
@[simp] theorem le_i : cmpop .le (.int i) (.int j) = some (decide (i ≤ j)) := Eq.trans rfl rfl
@[simp] theorem gt_i : cmpop .gt (.int i) (.int j) = some (decide (j < i)) := Eq.trans rfl rfl
@[simp] theorem ge_i : cmpop .ge (.int i) (.int j) = some (decide (j ≤ i)) := Eq.trans rfl rfl
@[simp] theorem eq_i : cmpop .eq (.int i) (.int j) = some (decide (i = j)) := by
  show (if flat 60 (.int i) && flat 60 (.int j) then some (PyData.eqv (.int i) (.int j)) else none) = _
  have e : PyData.eqv (.int i) (.int j) = decide (i = j) := by
    unfold PyData.eqv
    by_cases h : i = j <;> simp [h]
  rw [e]
  rfl
@[simp] theorem ne_i : cmpop .ne (.int i) (.int j) = some (!decide (i = j)) := by
  show (if flat 60 (.int i) && flat 60 (.int j) then some (!PyData.eqv (.int i) (.int j)) else none) = _
  have e : PyData.eqv (.int i) (.int j) = decide (i = j) := by
    unfold PyData.eqv
    by_cases h : i = j <;> simp [h]
  rw [e]
  rfl
@[simp] theorem is_none : cmpop .is_ d .none = some (decide (d = .none)) := by cases d <;> rfl
@[simp] theorem isn_none : cmpop .isn d .none = some (!decide (d = .none)) := by cases d <;> rfl
@[simp] theorem truth_b : truth (.bool b) = some b := Eq.trans rfl rfl
@[simp] theorem truth_i : truth (.int i) = some (i != 0) := Eq.trans rfl rfl
@[simp] theorem truth_n : truth .none = some false := Eq.trans rfl rfl
@[simp] theorem truth_l : truth (.list ds) = some (!ds.isEmpty) := Eq.trans rfl rfl
@[simp] theorem truth_t : truth (.tuple ds) = some (!ds.isEmpty) := Eq.trans rfl rfl
@[simp] theorem ix_l : getIx (.list ds) (.int i) = (place ds.length i).bind fun k => ds[k]? := Eq.trans rfl rfl
@[simp] theorem ix_t : getIx (.tuple ds) (.int i) = (place ds.length i).bind fun k => ds[k]? := Eq.trans rfl rfl
@[simp] theorem sl_l (lo hi : Option Int) : getSl (.list ds) lo hi = some (.list (cut ds lo hi)) := Eq.trans rfl rfl
@[simp] theorem sl_t (lo hi : Option Int) : getSl (.tuple ds) lo hi = some (.tuple (cut ds lo hi)) := Eq.trans rfl rfl
theorem fBi_p (f : Bi) : fBi f M (.p d) = Rs.of M ((builtin f d).map .p) := by cases f <;> rfl
theorem fBi_r (f : Bi) (n : Nat) : fBi f M (.r n) = Rs.of M ((look M (.r n)).bind fun x => (builtin f x).map .p) := by cases f <;> rfl
@[simp] theorem fBi_s : fBi .list M (.s ds) = .ok (.p (.list ds)) M := Eq.trans rfl rfl
@[simp] theorem len_l : fBi .len M (.p (.list ds)) = .ok (.p (.int ds.length)) M := Eq.trans rfl rfl
@[simp] theorem len_t : fBi .len M (.p (.tuple ds)) = .ok (.p (.int ds.length)) M := Eq.trans rfl rfl
@[simp] theorem abs_i : fBi .abs M (.p (.int i)) = .ok (.p (.int (if i < 0 then -i else i))) M := Eq.trans rfl rfl
@[simp] theorem int_i : fBi .int M (.p (.int i)) = .ok (.p (.int i)) M := Eq.trans rfl rfl
@[simp] theorem int_b : fBi .int M (.p (.bool b)) = .ok (.p (.int (if b then 1 else 0))) M := Eq.trans rfl rfl
@[simp] theorem list_l : fBi .list M (.p (.list ds)) = .ok (.p (.list ds)) M := Eq.trans rfl rfl
@[simp] theorem list_t : fBi .list M (.p (.tuple ds)) = .ok (.p (.list ds)) M := Eq.trans rfl rfl
@[simp] theorem tuple_l : fBi .tuple M (.p (.list ds)) = .ok (.p (.tuple ds)) M := Eq.trans rfl rfl
@[simp] theorem tuple_t : fBi .tuple M (.p (.tuple ds)) = .ok (.p (.tuple ds)) M := Eq.trans rfl rfl
@[simp] theorem walk_l : walkOf M (.p (.list ds)) = some ⟨ds, none⟩ := Eq.trans rfl rfl
@[simp] theorem walk_t : walkOf M (.p (.tuple ds)) = some ⟨ds, none⟩ := Eq.trans rfl rfl
theorem fRw1 (h : big62 j = true) : fRw [.p (.int j)] M = .ok ⟨rangeD 0 j, none⟩ M := by unfold fRw rangeOf; dsimp only; rw [if_pos h]; rfl
@[simp] theorem look_r (n : Nat) (h : M[n]? = some (.lst ds)) : look M (.r n) = some (.list ds) := by unfold look; dsimp only; rw [h]
theorem boolsOf_map (bs : List Bool) : boolsOf (bs.map .bool) = some bs := by
  induction bs with
  | nil => rfl
  | cons b bs ih => rw [List.map_cons, boolsOf, ih]; rfl
theorem intsOf_map (ns : List Int) : intsOf (ns.map .int) = some ns := by
  induction ns with
  | nil => rfl
  | cons b bs ih => rw [List.map_cons, intsOf, ih]; rfl
@[simp] theorem all_b (bs : List Bool) : fBi .all M (.p (.list (bs.map .bool))) = .ok (.p (.bool (bs.all id))) M := by
  show Rs.of M (((boolsOf (bs.map .bool)).map fun bs => PyData.bool (bs.all id)).map Vl.p) = _
  rw [boolsOf_map]
  rfl
@[simp] theorem any_b (bs : List Bool) : fBi .any M (.p (.list (bs.map .bool))) = .ok (.p (.bool (bs.any id))) M := by
  show Rs.of M (((boolsOf (bs.map .bool)).map fun bs => PyData.bool (bs.any id)).map Vl.p) = _
  rw [boolsOf_map]
  rfl
@[simp] theorem fin_p (k : Bool) (L : Nat) : fin k L (some (.rt (.p d), M)) = .ok (.p d) (M.take L) := Eq.trans rfl rfl
@[simp] theorem fin_nx (k : Bool) (L : Nat) (g : Sg) : fin k L (some (.nx g, M)) = .ok (.p .none) (M.take L) := Eq.trans rfl rfl
@[simp] theorem fin_xc (k : Bool) (L : Nat) (g : Sg) (c : String) (fs : List (String × D)) : fin k L (some (.xc g c fs, M)) = .exc c fs (M.take L) := Eq.trans rfl rfl
theorem fin_lt (k : Bool) (L n : Nat) (h : n < L) : fin k L (some (.rt (.r n), M)) = .ok (.r n) (M.take L) := by unfold fin; exact if_pos h
theorem fin_kp (L n : Nat) (h : L ≤ n) (e : M[n]? = some (.lst ds)) : fin true L (some (.rt (.r n), M)) = .ok (.r L) (M.take L ++ [.lst ds]) := by
  unfold fin
  dsimp only
  rw [if_neg (by omega), e]
  rfl
end
/-! ### comprehensions -/
/-- the memory stays as it is -/
theorem lcR_pure {F : Fns} {own : List Nat} {tg : Tg} {ifs : Exs} {elt : Ex} {ds : List D} {g : Sg} {M : Mem} (r : D → List D) (hl : ds.length ≤ line) (hs : ∀ d ∈ ds, stp F own tg ifs elt g d M = .ok (r d) M) : lcR F own tg ifs elt ⟨ds, none⟩ g M = .ok (ds.flatMap r) M := by
  have go : ∀ (xs : List D) (acc : List D), (∀ d ∈ xs, stp F own tg ifs elt g d M = .ok (r d) M) → lcLoop ⟨ds, none⟩ (fStep own tg (fun g M => evTs F ifs g M) (fun g M => ev F elt g M) g) xs M acc = .ok (acc ++ xs.flatMap r) M := by
    intro xs
    induction xs with
    | nil => intro acc _; simp [lcLoop]
    | cons x xs ih =>
      intro acc h
      have e : fStep own tg (fun g M => evTs F ifs g M) (fun g M => ev F elt g M) g x M = .ok (r x) M := h x List.mem_cons_self
      unfold lcLoop
      rw [e]
      show (if Wk.ok ⟨ds, none⟩ M then _ else Rs.bad) = _
      rw [if_pos (show Wk.ok ⟨ds, none⟩ M = true from rfl), ih _ fun d hd => h d (List.mem_cons_of_mem _ hd), List.flatMap_cons, List.append_assoc]
  show (if ds.length ≤ line then _ else Rs.bad) = _
  rw [if_pos hl, go ds [] hs, List.nil_append]
theorem lcR_map {F : Fns} {own : List Nat} {tg : Tg} {ifs : Exs} {elt : Ex} {ds : List D} {g : Sg} {M : Mem} (r : D → D) (hl : ds.length ≤ line) (hs : ∀ d ∈ ds, stp F own tg ifs elt g d M = .ok [r d] M) : lcR F own tg ifs elt ⟨ds, none⟩ g M = .ok (ds.map r) M := by
  rw [lcR_pure (fun d => [r d]) hl hs]
  congr 1
  induction ds with
  | nil => rfl
  | cons d ds ih => rw [List.flatMap_cons, List.map_cons, ih (by simp at hl; omega) fun x hx => hs x (List.mem_cons_of_mem _ hx)]; rfl
/-! ### statement by statement -/
theorem step {F : Fns} {wh : Wh} {s : Sm} {ss : Sms} {g g1 : Sg} {M M1 : Mem} (h : exec F wh s g M = some (.nx g1, M1)) : execs F wh (.cons s ss) g M = execs F wh ss g1 M1 := by
  rw [execs_cons, h]
  rfl
theorem ite_t {F : Fns} {wh : Wh} {c : Ex} {a b : Sms} {g : Sg} {M M1 : Mem} (h : tst F c g M = .ok true M1) : exec F wh (.ite c a b) g M = execs F wh a g M1 := by
  rw [exec_ite, h]
  rfl
theorem ite_f {F : Fns} {wh : Wh} {c : Ex} {a b : Sms} {g : Sg} {M M1 : Mem} (h : tst F c g M = .ok false M1) : exec F wh (.ite c a b) g M = execs F wh b g M1 := by
  rw [exec_ite, h]
  rfl
/-- a guard that is not met -/
theorem pass {F : Fns} {wh : Wh} {c : Ex} {a ss : Sms} {g : Sg} {M M1 : Mem} (h : tst F c g M = .ok false M1) : execs F wh (.cons (.ite c a .nil) ss) g M = execs F wh ss g M1 := by
  rw [execs_cons, ite_f h]
  rfl
/-- a guard that is met, and returns -/
theorem stop {F : Fns} {wh : Wh} {c e : Ex} {b ss : Sms} {g : Sg} {v : Vl} {M M1 M2 : Mem} (h : tst F c g M = .ok true M1) (h2 : ev F e g M1 = .ok v M2) : execs F wh (.cons (.ite c (.cons (.ret e) .nil) b) ss) g M = some (.rt v, M2) := by
  rw [execs_cons, ite_t h, execs_cons, exec_ret, h2]
  rfl
theorem retn {F : Fns} {wh : Wh} {e : Ex} {ss : Sms} {g : Sg} {v : Vl} {M M2 : Mem} (h2 : ev F e g M = .ok v M2) : execs F wh (.cons (.ret e) ss) g M = some (.rt v, M2) := by
  rw [execs_cons, exec_ret, h2]
  rfl
/-- a try that runs through -/
theorem tr_rt {F : Fns} {wh : Wh} {kn : List String} {b : Sms} {hs : List Hd} {g : Sg} {M M1 : Mem} {v : Vl} (h : execs F wh b g M = some (.rt v, M1)) : trR F wh kn b hs g M = some (.rt v, M1) := by
  unfold trR
  rw [h]
  rfl
theorem tr_xc {F : Fns} {wh : Wh} {kn : List String} {b : Sms} {hs : List Hd} {g g1 : Sg} {M M1 : Mem} {c : String} {fs : List (String × D)} (h : execs F wh b g M = some (.xc g1 c fs, M1)) (hk : kn.contains c = true) : trR F wh kn b hs g M = catchX c fs hs g1 M1 := by
  unfold trR
  rw [h]
  exact if_pos hk
theorem putOf_r {i : Nat} {ds : List D} {k : Int} {d : D} {M : Mem} (h : M[i]? = some (.lst ds)) : putOf (.r i) (.p (.int k)) (.p d) M = (place ds.length k).map fun j => M.set i (.lst (ds.set j d)) := by
  unfold putOf
  dsimp only
  rw [h]
theorem appOf_r {i : Nat} {ds : List D} {d : D} {M : Mem} (h : M[i]? = some (.lst ds)) : appOf (.r i) (.p d) M = if ds.length < line then some (M.set i (.lst (ds ++ [d]))) else none := by
  unfold appOf
  dsimp only
  rw [h]
theorem isL_r {i : Nat} {ds : List D} {M : Mem} (h : M[i]? = some (.lst ds)) : isL M (.r i) = true := by
  unfold isL
  dsimp only
  rw [h]
theorem isLk_r {i : Nat} {ds : List D} {M : Mem} {k : Lz Ro} (h : M[i]? = some (.lst ds)) : @isLk (.r i) M k = k.get () := if_pos (isL_r h)
theorem place_pos {n : Nat} {i : Int} (h0 : 0 ≤ i) (h1 : i < n) : place n i = some i.toNat := by
  unfold place
  rw [if_pos h0, if_pos h1]
theorem place_nat {n k : Nat} (h : k < n) : place n (k : Int) = some k := by
  rw [place_pos (by omega) (by omega)]
  rfl
@[simp] theorem take_set {M : Mem} {i : Nat} {o : MO} : (M.set i o).take M.length = M.set i o := List.take_of_length_le (by simp)
theorem mem_rangeD {n : Nat} {d : D} (h : d ∈ rangeD 0 (n : Int)) : ∃ k : Nat, k < n ∧ d = .int (k : Int) := by
  unfold rangeD at h
  obtain ⟨k, hk, rfl⟩ := List.mem_map.mp h
  exact ⟨k, by simpa using hk, by simp⟩
theorem rangeD_map {n : Nat} {α : Type} (f : D → α) : (rangeD 0 (n : Int)).map f = (List.range n).map fun (k : Nat) => f (.int (k : Int)) := by
  unfold rangeD
  rw [List.map_map]
  simp [Function.comp_def]
theorem len_rangeD (i j : Int) : (rangeD i j).length = (j - i).toNat := by unfold rangeD; rw [List.length_map, List.length_range]
theorem all_range {n : Nat} {es ds : List D} (he : es.length = n) (hd : ds.length = n) : ((List.range n).map fun k => decide (es[k]? = ds[k]?)).all id = decide (es = ds) := by
  by_cases h : es = ds
  · subst h
    simp
  · rw [decide_eq_false h]
    refine Bool.eq_false_iff.mpr fun z => h ?_
    refine List.ext_getElem? fun i => ?_
    by_cases hi : i < n
    · have := List.all_eq_true.mp z (decide (es[i]? = ds[i]?)) (List.mem_map.mpr ⟨i, by simpa using hi, rfl⟩)
      exact of_decide_eq_true this
    · rw [List.getElem?_eq_none (by omega), List.getElem?_eq_none (by omega)]
theorem big_of {n : Nat} (h : n ≤ 1000000) : big62 (n : Int) = true := decide_eq_true (by omega)
end Eg

/-! Plain part B: what the laws draw. By an AI agent. -/
namespace Eg
open PySem
def d_law_stream : Df := ⟨"_law_stream", 1, 1, true,
  (.cons (.retn (.lst (.cons (.bi .list (.var 0)) (.cons (.con (.int 0)) (.cons (.con (.int 0)) .nil))))) .nil)⟩
def d_law_next : Df := ⟨"_law_next", 2, 5, false,
  (.cons (.ite (.cmp .eq (.ix (.var 0) (.con (.int 1))) (.con (.int 0))) (.cons (.set (.nm 3) (.ix (.var 0) (.con (.int 2)))) (.cons (.set (.nm 4) (.bin .add (.con (.int 7)) (.var 3))) (.cons (.ite (.cmp .lt (.var 3) (.bi .len (.ix (.var 0) (.con (.int 0))))) (.cons (.set (.nm 4) (.bi .abs (.ix (.ix (.var 0) (.con (.int 0))) (.var 3)))) .nil) .nil) (.cons (.ite (.cmp .lt (.var 4) (.bin .pow (.con (.int 10)) (.con (.int 18)))) (.cons (.set (.nm 4) (.bin .mod (.bi .int (.bin .add (.bin .add (.bin .mul (.var 4) (.con (.int 48271))) (.bin .mul (.var 3) (.con (.int 69621)))) (.con (.int 11)))) (.con (.int 2147483647)))) (.cons (.set (.nm 4) (.bin .add (.bin .mul (.bin .mod (.bi .int (.bin .add (.bin .mul (.var 4) (.con (.int 16807))) (.con (.int 13)))) (.con (.int 2147483647))) (.con (.int 65537))) (.var 4))) .nil)) .nil) (.cons (.put (.var 0) (.con (.int 1)) (.var 4)) (.cons (.put (.var 0) (.con (.int 2)) (.bin .add (.var 3) (.con (.int 1)))) .nil)))))) .nil) (.cons (.set (.nm 2) (.bin .mod (.bi .int (.ix (.var 0) (.con (.int 1)))) (.var 1))) (.cons (.put (.var 0) (.con (.int 1)) (.bin .fdiv (.ix (.var 0) (.con (.int 1))) (.var 1))) (.cons (.ret (.var 2)) .nil))))⟩
/-! ### the stream -/
structure S where
  cells : List Int
  a : Int
  k : Int
  ha : 0 ≤ a
  hk : 0 ≤ k
def S.mo (s : S) : MO := .lst [.list (s.cells.map .int), .int s.a, .int s.k]
def S_next (F : Fns) : Prop := ∀ (M : Mem) (i : Nat) (s : S) (many : Int), M[i]? = some s.mo → 1 ≤ many → many < 1073741824 → ∃ (d : Int) (s' : S), 0 ≤ d ∧ d < many ∧ F "_law_next" [.r i, .p (.int many)] M = .ok (.p (.int d)) (M.set i (S.mo s'))
/-- the digits, once the cell is not spent -/
theorem next_tail {F : Fns} {M : Mem} {i : Nat} {s : S} {many : Int} {L : Nat} {v2 v3 v4 : Option Vl} (hL : M.length = L) (hM : M[i]? = some s.mo) (h1 : 1 ≤ many) (h2 : many < 1073741824) :
    ∃ (d : Int) (s' : S), 0 ≤ d ∧ d < many ∧ fin false L (execs F whC (.cons (.set (.nm 2) (.bin .mod (.bi .int (.ix (.var 0) (.con (.int 1)))) (.var 1))) (.cons (.put (.var 0) (.con (.int 1)) (.bin .fdiv (.ix (.var 0) (.con (.int 1))) (.var 1))) (.cons (.ret (.var 2)) .nil)))
      [some (.r i), some (.p (.int many)), v2, v3, v4] M) = .ok (.p (.int d)) (M.set i (S.mo s')) := by
  have hi : i < M.length := (List.getElem?_eq_some_iff.mp hM).1
  have hne : many ≠ 0 := by omega
  refine ⟨s.a.fmod many, ⟨s.cells, s.a.fdiv many, s.k, Int.fdiv_nonneg s.ha (by omega), s.hk⟩, Int.fmod_nonneg_of_pos _ (by omega), Int.fmod_lt_of_pos _ (by omega), ?_⟩
  unfold S.mo at hM ⊢
  have hz : many.natAbs < 1073741824 := by omega
  simp [look, hM, place, run_mk, mod_i, fdiv_i, hne, hz, putOf_r hM, hL]
  rw [List.take_of_length_le (by simp; omega)]
/-- a new cell -/
theorem next_cell {F : Fns} {M : Mem} {i : Nat} {cells : List Int} {a k c : Int} {many : Vl} (ha : a = 0) (hk : 0 ≤ k) (hc : 0 ≤ c) (hM : M[i]? = some (.lst [.list (cells.map .int), .int a, .int k])) :
    ∃ s' : S, execs F whC (.cons (.ite (.cmp .lt (.var 4) (.bin .pow (.con (.int 10)) (.con (.int 18)))) (.cons (.set (.nm 4) (.bin .mod (.bi .int (.bin .add (.bin .add (.bin .mul (.var 4) (.con (.int 48271))) (.bin .mul (.var 3) (.con (.int 69621)))) (.con (.int 11)))) (.con (.int 2147483647)))) (.cons (.set (.nm 4) (.bin .add (.bin .mul (.bin .mod (.bi .int (.bin .add (.bin .mul (.var 4) (.con (.int 16807))) (.con (.int 13)))) (.con (.int 2147483647))) (.con (.int 65537))) (.var 4))) .nil)) .nil) (.cons (.put (.var 0) (.con (.int 1)) (.var 4)) (.cons (.put (.var 0) (.con (.int 2)) (.bin .add (.var 3) (.con (.int 1)))) .nil)))
      [some (.r i), some many, none, some (.p (.int k)), some (.p (.int c))] M = some (.nx [some (.r i), some many, none, some (.p (.int k)), some (.p (.int s'.a))], M.set i s'.mo) := by
  have hi : i < M.length := (List.getElem?_eq_some_iff.mp hM).1
  by_cases hb : c < 1000000000000000000
  · refine ⟨⟨cells, ((c * 48271 + k * 69621 + 11).fmod 2147483647 * 16807 + 13).fmod 2147483647 * 65537 + (c * 48271 + k * 69621 + 11).fmod 2147483647, k + 1, ?_, by omega⟩, ?_⟩
    · have h1 := Int.fmod_nonneg_of_pos (c * 48271 + k * 69621 + 11) (show (0 : Int) < 2147483647 by decide)
      have h2 := Int.fmod_nonneg_of_pos ((c * 48271 + k * 69621 + 11).fmod 2147483647 * 16807 + 13) (show (0 : Int) < 2147483647 by decide)
      omega
    · have h2 : ∀ o, (M.set i o)[i]? = some o := fun o => List.getElem?_set_self hi
      simp [look, hM, place, run_mk, pow_i, mul_i, mod_i, small64, hb, putOf_r hM, putOf_r (h2 _), S.mo]
  · refine ⟨⟨cells, c, k + 1, hc, by omega⟩, ?_⟩
    have h2 : ∀ o, (M.set i o)[i]? = some o := fun o => List.getElem?_set_self hi
    simp [look, hM, place, run_mk, pow_i, hb, putOf_r hM, putOf_r (h2 _), S.mo]
theorem ok_next {defs : List Df} (h : findD defs "_law_next" = some d_law_next) : At defs 1 S_next := At.succ fun m _ M i s many hM h1 h2 => by
  rw [callF_at h rfl]
  have hi : i < M.length := (List.getElem?_eq_some_iff.mp hM).1
  have hM' := hM
  unfold S.mo at hM'
  by_cases h0 : s.a = 0
  · rw [d_law_next]
    have key : ∃ (s' : S), exec (callF whC defs m) whC (.ite (.cmp .eq (.ix (.var 0) (.con (.int 1))) (.con (.int 0))) (.cons (.set (.nm 3) (.ix (.var 0) (.con (.int 2)))) (.cons (.set (.nm 4) (.bin .add (.con (.int 7)) (.var 3))) (.cons (.ite (.cmp .lt (.var 3) (.bi .len (.ix (.var 0) (.con (.int 0))))) (.cons (.set (.nm 4) (.bi .abs (.ix (.ix (.var 0) (.con (.int 0))) (.var 3)))) .nil) .nil) (.cons (.ite (.cmp .lt (.var 4) (.bin .pow (.con (.int 10)) (.con (.int 18)))) (.cons (.set (.nm 4) (.bin .mod (.bi .int (.bin .add (.bin .add (.bin .mul (.var 4) (.con (.int 48271))) (.bin .mul (.var 3) (.con (.int 69621)))) (.con (.int 11)))) (.con (.int 2147483647)))) (.cons (.set (.nm 4) (.bin .add (.bin .mul (.bin .mod (.bi .int (.bin .add (.bin .mul (.var 4) (.con (.int 16807))) (.con (.int 13)))) (.con (.int 2147483647))) (.con (.int 65537))) (.var 4))) .nil)) .nil) (.cons (.put (.var 0) (.con (.int 1)) (.var 4)) (.cons (.put (.var 0) (.con (.int 2)) (.bin .add (.var 3) (.con (.int 1)))) .nil)))))) .nil) [some (.r i), some (.p (.int many)), none, none, none] M = some (.nx [some (.r i), some (.p (.int many)), none, some (.p (.int s.k)), some (.p (.int s'.a))], M.set i s'.mo) := by
      rw [ite_t (M1 := M) (by simp [look, hM', place, run_mk, h0])]
      rw [step (g1 := [some (.r i), some (.p (.int many)), none, some (.p (.int s.k)), none]) (M1 := M) (by simp [look, hM', place, run_mk])]
      rw [step (g1 := [some (.r i), some (.p (.int many)), none, some (.p (.int s.k)), some (.p (.int (7 + s.k)))]) (M1 := M) (by simp [look, run_mk])]
      by_cases hk : s.k < s.cells.length
      · have hk' : s.k.toNat < s.cells.length := by have := s.hk; omega
        rw [step (g1 := [some (.r i), some (.p (.int many)), none, some (.p (.int s.k)), some (.p (.int (if s.cells[s.k.toNat] < 0 then -s.cells[s.k.toNat] else s.cells[s.k.toNat])))]) (M1 := M) (by simp [look, hM', place, run_mk, hk, s.hk, hk'])]
        exact next_cell h0 s.hk (by split <;> omega) hM'
      · rw [step (g1 := [some (.r i), some (.p (.int many)), none, some (.p (.int s.k)), some (.p (.int (7 + s.k)))]) (M1 := M) (by simp [look, hM', place, run_mk, hk])]
        exact next_cell h0 s.hk (by have := s.hk; omega) hM'
    obtain ⟨s', e⟩ := key
    show ∃ d s', _ ∧ _ ∧ fin false M.length (execs (callF whC defs m) whC (.cons _ _) [some (.r i), some (.p (.int many)), none, none, none] M) = _
    rw [step e]
    obtain ⟨d, s2, d1, d2, e3⟩ := next_tail (F := callF whC defs m) (M := M.set i s'.mo) (i := i) (s := s') (many := many) (L := M.length) (v2 := none) (v3 := some (.p (.int s.k))) (v4 := some (.p (.int s'.a))) (by simp) (List.getElem?_set_self hi) h1 h2
    refine ⟨d, s2, d1, d2, ?_⟩
    rw [List.set_set] at e3
    exact e3
  · rw [d_law_next]
    show ∃ d s', _ ∧ _ ∧ fin false M.length (execs (callF whC defs m) whC (.cons _ _) [some (.r i), some (.p (.int many)), none, none, none] M) = _
    rw [step (g1 := [some (.r i), some (.p (.int many)), none, none, none]) (M1 := M) (by rw [ite_f (M1 := M) (by simp [look, hM', place, run_mk, h0])]; rfl)]
    exact next_tail rfl hM h1 h2
end Eg

/-! Plain part C: the forms of problems, constraints, rankings. By an AI agent. -/
namespace Eg
open PySem
def d_is_whole : Df := ⟨"is_whole", 3, 3, false,
  (.cons (.ret (.and (.cons (.isi (.var 0) .int) (.cons (.not (.isi (.var 0) .bool)) (.cons (.cmp2 .le .le (.var 1) (.var 0) (.var 2)) .nil))))) .nil)⟩
def d_is_constraint : Df := ⟨"is_constraint", 2, 3, false,
  (.cons (.ite (.or (.cons (.not (.isi (.var 1) .tuple)) (.cons (.cmp .eq (.bi .len (.var 1)) (.con (.int 0))) (.cons (.not (.isi (.ix (.var 1) (.con (.int 0))) .str)) .nil)))) (.cons (.ret (.con (.bool false))) .nil) .nil) (.cons (.ite (.cmp .eq (.ix (.var 1) (.con (.int 0))) (.con (.str "within"))) (.cons (.ite (.or (.cons (.cmp .ne (.bi .len (.var 1)) (.con (.int 4))) (.cons (.not (.call "is_whole" (.cons (.ix (.var 1) (.con (.int 1))) (.cons (.con (.int 0)) (.cons (.bin .sub (.var 0) (.con (.int 1))) .nil))))) .nil))) (.cons (.ret (.con (.bool false))) .nil) .nil) (.cons (.ret (.and (.cons (.call "is_whole" (.cons (.ix (.var 1) (.con (.int 2))) (.cons (.con (.int 1)) (.cons (.var 0) .nil)))) (.cons (.call "is_whole" (.cons (.ix (.var 1) (.con (.int 3))) (.cons (.ix (.var 1) (.con (.int 2))) (.cons (.var 0) .nil)))) .nil)))) .nil)) .nil) (.cons (.ite (.or (.cons (.cmp .ne (.ix (.var 1) (.con (.int 0))) (.con (.str "ahead"))) (.cons (.cmp .ne (.bi .len (.var 1)) (.con (.int 3))) .nil))) (.cons (.ret (.con (.bool false))) .nil) .nil) (.cons (.ret (.and (.cons (.bi .all (.lc (.call "is_whole" (.cons (.var 2) (.cons (.con (.int 0)) (.cons (.bin .sub (.var 0) (.con (.int 1))) .nil)))) (.nm 2) (.sq (.sl (.var 1) (.som (.con (.int 1))) .non)) .nil [2])) (.cons (.cmp .ne (.ix (.var 1) (.con (.int 1))) (.ix (.var 1) (.con (.int 2)))) .nil)))) .nil))))⟩
/-! ### data that may be compared -/
def Ok (v : D) : Prop := ∃ n, flat n v = true
theorem Ok.tup {ds : List D} (h : Ok (.tuple ds)) {d : D} (hd : d ∈ ds) : Ok d := by
  obtain ⟨n, h⟩ := h
  cases n with
  | zero => simp [flat] at h
  | succ n =>
    simp only [flat] at h
    have go : ∀ ds : List D, flats n ds = true → ∀ d ∈ ds, flat n d = true := by
      intro ds
      induction ds with
      | nil => intro _ d hd; cases hd
      | cons x xs ih =>
        intro h d hd
        simp only [flats, Bool.and_eq_true] at h
        rcases List.mem_cons.mp hd with rfl | hd
        · exact h.1
        · exact ih h.2 d hd
    exact ⟨n, go ds h d hd⟩
theorem Ok.str {x : Str} (h : Ok (.str x)) : PyData.strOk x = true := by
  obtain ⟨n, h⟩ := h
  cases n <;> exact h
theorem eqv_str (x y : Str) : PyData.eqv (.str x) (.str y) = decide (x = y) := by
  unfold PyData.eqv
  by_cases h : x = y <;> simp [h]
theorem flat_str {n : Nat} {x : Str} : flat n (.str x) = PyData.strOk x := by cases n <;> rfl
theorem eq_s {x y : Str} (hx : PyData.strOk x = true) (hy : PyData.strOk y = true) : cmpop .eq (.str x) (.str y) = some (decide (x = y)) := by
  show (if flat 60 (.str x) && flat 60 (.str y) then some (PyData.eqv (.str x) (.str y)) else none) = _
  rw [flat_str, flat_str, hx, hy, eqv_str]
  rfl
theorem ne_s {x y : Str} (hx : PyData.strOk x = true) (hy : PyData.strOk y = true) : cmpop .ne (.str x) (.str y) = some (!decide (x = y)) := by
  show (if flat 60 (.str x) && flat 60 (.str y) then some (!PyData.eqv (.str x) (.str y)) else none) = _
  rw [flat_str, flat_str, hx, hy, eqv_str]
  rfl
/-! ### is_whole -/
def whole (v : D) (lo hi : Int) : Bool := match v with
  | .int i => decide (lo ≤ i) && decide (i ≤ hi)
  | _ => false
section
variable (lo hi : Int)
@[simp] theorem whole_n : whole .none lo hi = false := rfl
@[simp] theorem whole_b (b : Bool) : whole (.bool b) lo hi = false := rfl
@[simp] theorem whole_s (x : Str) : whole (.str x) lo hi = false := rfl
@[simp] theorem whole_l (x : List D) : whole (.list x) lo hi = false := rfl
@[simp] theorem whole_t (x : List D) : whole (.tuple x) lo hi = false := rfl
@[simp] theorem whole_d (x : List (D × D)) : whole (.dict x) lo hi = false := rfl
theorem whole_i (i : Int) : whole (.int i) lo hi = (decide (lo ≤ i) && decide (i ≤ hi)) := rfl
end
def S_whole (F : Fns) : Prop := ∀ (v : D) (lo hi : Int) (M : Mem), F "is_whole" [.p v, .p (.int lo), .p (.int hi)] M = .ok (.p (.bool (whole v lo hi))) M
theorem ok_whole {defs : List Df} (h : findD defs "is_whole" = some d_is_whole) : At defs 1 S_whole := At.succ fun m _ v lo hi M => by
  rw [callF_at h rfl, d_is_whole]
  cases v with
  | int i =>
    by_cases h1 : lo ≤ i
    · simp [startG, List.replicate, look, run_mk, isTy, whole, h1]
    · simp [startG, List.replicate, look, run_mk, isTy, whole, h1]
  | bool b => simp [startG, List.replicate, look, run_mk, isTy, whole]
  | none => simp [startG, List.replicate, look, run_mk, isTy, whole]
  | str x => simp [startG, List.replicate, look, run_mk, isTy, whole]
  | list x => simp [startG, List.replicate, look, run_mk, isTy, whole]
  | tuple x => simp [startG, List.replicate, look, run_mk, isTy, whole]
  | dict x => simp [startG, List.replicate, look, run_mk, isTy, whole]
/-! ### is_constraint -/
def isCon (n : Int) (v : D) : Bool := match v with
  | .tuple (.str w :: rest) =>
    if w = "within" then (match rest with
      | [a, .int lo, c] => whole a 0 (n - 1) && (whole (.int lo) 1 n && whole c lo n)
      | _ => false)
    else if w = "ahead" then (match rest with
      | [.int a, .int b] => whole (.int a) 0 (n - 1) && (whole (.int b) 0 (n - 1) && !decide (a = b))
      | _ => false)
    else false
  | _ => false
def S_con (F : Fns) : Prop := ∀ (n : Int) (v : D) (M : Mem), Ok v → F "is_constraint" [.p (.int n), .p v] M = .ok (.p (.bool (isCon n v))) M
theorem sok_within : PyData.strOk "within" = true := by decide +kernel
theorem sok_ahead : PyData.strOk "ahead" = true := by decide +kernel
theorem ok_con {defs : List Df} {a : Nat} (h : findD defs "is_constraint" = some d_is_constraint) (hw : At defs a S_whole) : At defs (a + 1) S_con := At.succ fun m hm n v M hv => by
  have hw := hw m hm
  unfold S_whole at hw
  rw [callF_at h rfl, d_is_constraint]
  cases v with
  | int i => simp [startG, List.replicate, look, run_mk, isTy, isCon]
  | bool b => simp [startG, List.replicate, look, run_mk, isTy, isCon]
  | none => simp [startG, List.replicate, look, run_mk, isTy, isCon]
  | str x => simp [startG, List.replicate, look, run_mk, isTy, isCon]
  | list x => simp [startG, List.replicate, look, run_mk, isTy, isCon]
  | dict x => simp [startG, List.replicate, look, run_mk, isTy, isCon]
  | tuple ds =>
    cases ds with
    | nil => simp [startG, List.replicate, look, run_mk, isTy, isCon]
    | cons d rest =>
      have e0 : ¬ ((rest.length : Int) + 1 = 0) := by omega
      have p0 : place (rest.length + 1) 0 = some 0 := place_nat (k := 0) (by omega)
      cases d with
      | str w =>
        have hs := (hv.tup List.mem_cons_self).str
        have q1 := eq_s hs sok_within
        have q2 := ne_s hs sok_ahead
        by_cases h1 : w = "within"
        · subst h1
          simp [startG, List.replicate, look, run_mk, isTy, isCon, e0, p0, q1]
          rcases rest with _ | ⟨a, _ | ⟨b, _ | ⟨c, _ | ⟨d, rest⟩⟩⟩⟩
          · simp [run_mk]
          · simp [run_mk]
          · simp [run_mk]
          · cases e1 : whole a 0 (n - 1) with
            | false => simp [run_mk, place, hw, e1]; cases b <;> simp [e1]
            | true =>
              cases b with
              | int lo => cases e2 : whole (.int lo) 1 n <;> simp [run_mk, place, hw, e1, e2]
              | _ => simp [run_mk, place, hw, e1]
          · have e4 : ¬ ((rest.length : Int) + 1 + 1 + 1 + 1 + 1 = 4) := by omega
            simp [run_mk, e4]
        · by_cases h2 : w = "ahead"
          · subst h2
            rw [decide_eq_false h1] at q1
            simp [startG, List.replicate, look, run_mk, isTy, isCon, e0, p0, q1, q2, h1]
            rcases rest with _ | ⟨a, _ | ⟨b, _ | ⟨c, rest⟩⟩⟩
            · simp [run_mk]
            · simp [run_mk]
            · simp [run_mk, cut, clip]
              rw [lcR_map (fun d => .bool (whole d 0 (n - 1))) (by simp [line]) (fun d hd => by simp [wipe, run_mk, hw])]
              have ea := all_b (M := M) [whole a 0 (n - 1), whole b 0 (n - 1)]
              simp only [List.map_cons, List.map_nil] at ea
              simp only [run_mk, th_ok, List.map_cons, List.map_nil, ea]
              have ez : ([whole a 0 (n - 1), whole b 0 (n - 1)].all id) = (whole a 0 (n - 1) && whole b 0 (n - 1)) := by simp
              rw [ez, andV_b]
              cases a with
              | int i =>
                cases b with
                | int j => cases e1 : whole (.int i) 0 (n - 1) <;> cases e2 : whole (.int j) 0 (n - 1) <;> simp [run_mk, place, e1, e2]
                | _ => simp [run_mk]
              | _ => simp [run_mk]
            · have e4 : ¬ ((rest.length : Int) + 1 + 1 + 1 + 1 = 3) := by omega
              simp [run_mk, e4]
          · rw [decide_eq_false h1] at q1
            rw [decide_eq_false h2] at q2
            simp [startG, List.replicate, look, run_mk, isTy, isCon, e0, p0, q1, q2, h1, h2]
      | _ => simp [startG, List.replicate, look, run_mk, isTy, isCon, e0, p0]
/-! ### is_problem -/
def isProb (v : D) : Bool := match v with
  | .tuple [.int n, .tuple cs] => whole (.int n) 1 7 && (decide (cs.length ≤ 12) && cs.all (isCon n))
  | _ => false
/-! ### is_ranking -/
mutual
theorem flat_up : ∀ (d : D) {n m : Nat}, flat n d = true → n ≤ m → flat m d = true
  | .none, n, m, _, _ => by cases m <;> rfl
  | .bool _, n, m, _, _ => by cases m <;> rfl
  | .int _, n, m, _, _ => by cases m <;> rfl
  | .str x, n, m, h, _ => by rw [flat_str] at h ⊢; exact h
  | .list ds, n, m, h, hm => by
    cases n with
    | zero => simp [flat] at h
    | succ n =>
      obtain ⟨k, rfl⟩ : ∃ k, m = k + 1 := ⟨m - 1, by omega⟩
      simp only [flat] at h ⊢
      exact flats_up ds h (by omega)
  | .tuple ds, n, m, h, hm => by
    cases n with
    | zero => simp [flat] at h
    | succ n =>
      obtain ⟨k, rfl⟩ : ∃ k, m = k + 1 := ⟨m - 1, by omega⟩
      simp only [flat] at h ⊢
      exact flats_up ds h (by omega)
  | .dict _, n, m, h, _ => by cases n <;> simp [flat] at h
theorem flats_up : ∀ (ds : List D) {n m : Nat}, flats n ds = true → n ≤ m → flats m ds = true
  | [], _, _, _, _ => rfl
  | d :: ds, n, m, h, hm => by
    simp only [flats, Bool.and_eq_true] at h ⊢
    exact ⟨flat_up d h.1 hm, flats_up ds h.2 hm⟩
end
theorem flats_mem {n : Nat} : ∀ {ds : List D}, flats n ds = true ↔ ∀ d ∈ ds, flat n d = true
  | [] => ⟨fun _ d h => (by cases h), fun _ => rfl⟩
  | x :: xs => by
    simp only [flats, Bool.and_eq_true, List.mem_cons, flats_mem (ds := xs)]
    exact ⟨fun h d hd => hd.elim (fun e => e ▸ h.1) (h.2 d), fun h => ⟨h x (.inl rfl), fun d hd => h d (.inr hd)⟩⟩
end Eg

/-! Plain part D: equality by the laws, a row picked; comprehensions that draw. By an AI agent. -/
namespace Eg
open PySem
def d_law_is_integer : Df := ⟨"_law_is_integer", 1, 1, false,
  (.cons (.ret (.and (.cons (.isi (.var 0) .int) (.cons (.not (.isi (.var 0) .bool)) .nil)))) .nil)⟩
def d_law_equal : Df := ⟨"_law_equal", 2, 3, false,
  (.cons (.ite (.cmp .is_ (.var 1) (.con .none)) (.cons (.ret (.cmp .is_ (.var 0) (.con .none))) .nil) .nil) (.cons (.ite (.isi (.var 1) .bool) (.cons (.ret (.and (.cons (.isi (.var 0) .bool) (.cons (.cmp .eq (.var 0) (.var 1)) .nil)))) .nil) .nil) (.cons (.ite (.isi (.var 1) .int) (.cons (.ret (.and (.cons (.call "_law_is_integer" (.cons (.var 0) .nil)) (.cons (.cmp .eq (.var 0) (.var 1)) .nil)))) .nil) .nil) (.cons (.ite (.isi (.var 1) .str) (.cons (.ret (.and (.cons (.isi (.var 0) .str) (.cons (.cmp .eq (.var 0) (.var 1)) .nil)))) .nil) .nil) (.cons (.ite (.and (.cons (.isi (.var 1) .tuple) (.cons (.not (.isi (.var 0) .tuple)) .nil))) (.cons (.ret (.con (.bool false))) .nil) .nil) (.cons (.ite (.and (.cons (.isi (.var 1) .list) (.cons (.not (.isi (.var 0) .list)) .nil))) (.cons (.ret (.con (.bool false))) .nil) .nil) (.cons (.ite (.cmp .ne (.bi .len (.var 0)) (.bi .len (.var 1))) (.cons (.ret (.con (.bool false))) .nil) .nil) (.cons (.ret (.bi .all (.lc (.call "_law_equal" (.cons (.ix (.var 0) (.var 2)) (.cons (.ix (.var 1) (.var 2)) .nil))) (.nm 2) (.rng (.cons (.bi .len (.var 1)) .nil)) .nil [2]))) .nil))))))))⟩
/-! ### a list copied for the stream -/
def S_stream (F : Fns) : Prop := ∀ (ns : List Int), ∃ s : S, F "_law_stream" [.s (ns.map .int)] [] = .ok (.r 0) [s.mo]
theorem ok_stream {defs : List Df} (h : findD defs "_law_stream" = some d_law_stream) : At defs 1 S_stream := At.succ fun m _ ns => by
  refine ⟨⟨ns, 0, 0, by decide, by decide⟩, ?_⟩
  rw [callF_at h rfl, d_law_stream]
  simp [startG, run_mk]
  rw [fin_kp (ds := [.list (ns.map .int), .int 0, .int 0]) _ _ _ (Nat.le_refl _) rfl]
  rfl
/-! ### data of a bounded size and depth -/
mutual
def fit : Nat → D → Bool
  | 0, .list _ => false
  | 0, .tuple _ => false
  | n + 1, .list ds => decide (ds.length ≤ 1000000) && fits n ds
  | n + 1, .tuple ds => decide (ds.length ≤ 1000000) && fits n ds
  | _, .dict _ => false
  | _, .str x => PyData.strOk x
  | _, _ => true
def fits : Nat → List D → Bool
  | _, [] => true
  | n, d :: ds => fit n d && fits n ds
end
theorem fits_mem {n : Nat} : ∀ {ds : List D}, fits n ds = true ↔ ∀ d ∈ ds, fit n d = true
  | [] => ⟨fun _ d h => (by cases h), fun _ => rfl⟩
  | x :: xs => by
    simp only [fits, Bool.and_eq_true, List.mem_cons, fits_mem (ds := xs)]
    exact ⟨fun h d hd => hd.elim (fun e => e ▸ h.1) (h.2 d), fun h => ⟨h x (.inl rfl), fun d hd => h d (.inr hd)⟩⟩
theorem fit_str {n : Nat} {x : Str} : fit n (.str x) = PyData.strOk x := by cases n <;> rfl
/-! ### _law_equal -/
def S_isint (F : Fns) : Prop := ∀ (a : D) (M : Mem), F "_law_is_integer" [.p a] M = .ok (.p (.bool (isTy .int a && !isTy .bool a))) M
theorem ok_isint {defs : List Df} (h : findD defs "_law_is_integer" = some d_law_is_integer) : At defs 1 S_isint := At.succ fun m _ a M => by
  rw [callF_at h rfl, d_law_is_integer]
  cases e : isTy .int a <;> simp [startG, List.replicate, run_mk, e, look]
theorem eq_b (a b : Bool) : cmpop .eq (.bool a) (.bool b) = some (decide (a = b)) := by cases a <;> cases b <;> decide +kernel
def S_equal (k : Nat) (F : Fns) : Prop := ∀ (a d : D) (M : Mem), fit k d = true → Ok a → F "_law_equal" [.p a, .p d] M = .ok (.p (.bool (decide (a = d)))) M
theorem getIx_l (es : List D) (j : Nat) : (place es.length (j : Int)).bind (fun k => es[k]?) = es[j]? := by
  by_cases hj : j < es.length
  · rw [place_nat hj]
    rfl
  · rw [List.getElem?_eq_none (by omega)]
    unfold place
    rw [if_pos (by omega), if_neg (by omega)]
    rfl
/-- the items, one by one -/
theorem equal_items {F : Fns} {k : Nat} (hr : S_equal k F) {es ds : List D} {x y : D} {M : Mem} (hf : fits k ds = true) (he : ∀ e ∈ es, Ok e) (hl : es.length = ds.length) (hz : ds.length ≤ 1000000)
    (gx : ∀ (j : Nat), getIx x (.int j) = es[j]?) (gy : ∀ (j : Nat), getIx y (.int j) = ds[j]?) :
    lcR F [2] (.nm 2) .nil (.call "_law_equal" (.cons (.ix (.var 0) (.var 2)) (.cons (.ix (.var 1) (.var 2)) .nil))) ⟨rangeD 0 ds.length, none⟩ [some (.p x), some (.p y), none] M = .ok (((List.range ds.length).map fun j => decide (es[j]? = ds[j]?)).map .bool) M := by
  have hlen : (rangeD 0 (ds.length : Int)).length ≤ line := by
    rw [len_rangeD]
    have : line = 16777216 := rfl
    omega
  rw [lcR_map (fun d => match d with
    | .int j => .bool (decide (es[j.toNat]? = ds[j.toNat]?))
    | _ => .none) hlen (fun d hd => ?_)]
  · rw [rangeD_map, List.map_map]
    rfl
  · obtain ⟨j, hj, rfl⟩ := mem_rangeD hd
    have e1 : es[j]? = some es[j] := List.getElem?_eq_getElem (by omega)
    have e2 : ds[j]? = some ds[j] := List.getElem?_eq_getElem hj
    have hh := hr es[j] ds[j] M (fits_mem.mp hf _ (List.getElem_mem _)) (he _ (List.getElem_mem _))
    have gx := gx j
    have gy := gy j
    rw [e1] at gx
    rw [e2] at gy
    simp [wipe, run_mk, gx, gy, hh, e1, e2]
theorem ok_equal_step {defs : List Df} (h : findD defs "_law_equal" = some d_law_equal) (h2 : findD defs "_law_is_integer" = some d_law_is_integer) (k : Nat) (ih : ∀ k', k = k' + 1 → At defs (k' + 2) (S_equal k')) : At defs (k + 2) (S_equal k) :=
  At.succ fun m hm a d M hd ha => by
    have hi := ok_isint h2 m (by omega)
    unfold S_isint at hi
    rw [callF_at h rfl, d_law_equal]
    cases d with
    | none => cases a <;> simp [startG, List.replicate, run_mk, look]
    | bool b =>
      cases a with
      | bool c => simp [startG, List.replicate, run_mk, look, isTy, eq_b]
      | _ => simp [startG, List.replicate, run_mk, look, isTy]
    | int b =>
      cases a with
      | int c => simp [startG, List.replicate, run_mk, look, isTy, hi]
      | _ => simp [startG, List.replicate, run_mk, look, isTy, hi]
    | str b =>
      rw [fit_str] at hd
      cases a with
      | str c => simp [startG, List.replicate, run_mk, look, isTy, eq_s ha.str hd]
      | _ => simp [startG, List.replicate, run_mk, look, isTy]
    | dict b => cases k <;> cases hd
    | list ds =>
      cases a with
      | list es =>
        cases k with
        | zero => cases hd
        | succ k =>
          simp only [fit, Bool.and_eq_true, decide_eq_true_eq] at hd
          by_cases hl : es.length = ds.length
          · have e0 := fRw1 (ds.length : Int) M (big_of hd.1)
            have e1 := equal_items (M := M) (x := .list es) (y := .list ds) (ih k rfl m (by omega)) hd.2 (fun e he => by
              obtain ⟨n, hn⟩ := ha
              cases n with
              | zero => cases hn
              | succ n => exact ⟨n, flats_mem.mp (by simpa [flat] using hn) e he⟩) hl hd.1 (fun j => getIx_l es j) (fun j => getIx_l ds j)
            show fin false M.length (execs (callF whC defs m) whC _ [some (.p (.list es)), some (.p (.list ds)), none] M) = _
            rw [pass (M1 := M) (by simp [run_mk, look]), pass (M1 := M) (by simp [run_mk, look, isTy]), pass (M1 := M) (by simp [run_mk, look, isTy]), pass (M1 := M) (by simp [run_mk, look, isTy]), pass (M1 := M) (by simp [run_mk, look, isTy]), pass (M1 := M) (by simp [run_mk, look, isTy]), pass (M1 := M) (by simp [run_mk, look, hl])]
            rw [retn (v := .p (.bool (decide (es = ds)))) (M2 := M) (by
              rw [ev_bi, ev_lc, evIt_rng, evs_cons, ev_bi, ev_var]
              simp only [List.getElem?_cons_succ, List.getElem?_cons_zero, vr_some, th_ok, run_mk, len_l, len_t, evs_nil, e0, e1, all_b, all_range hl rfl])]
            simp
          · have hl' : ¬ ((es.length : Int) = ds.length) := by omega
            have hne : es ≠ ds := fun z => hl (by rw [z])
            simp [startG, List.replicate, run_mk, look, isTy, hl', hne]
      | _ => simp [startG, List.replicate, run_mk, look, isTy]
    | tuple ds =>
      cases a with
      | tuple es =>
        cases k with
        | zero => cases hd
        | succ k =>
          simp only [fit, Bool.and_eq_true, decide_eq_true_eq] at hd
          by_cases hl : es.length = ds.length
          · have e0 := fRw1 (ds.length : Int) M (big_of hd.1)
            have e1 := equal_items (M := M) (x := .tuple es) (y := .tuple ds) (ih k rfl m (by omega)) hd.2 (fun e he => ha.tup he) hl hd.1 (fun j => getIx_l es j) (fun j => getIx_l ds j)
            show fin false M.length (execs (callF whC defs m) whC _ [some (.p (.tuple es)), some (.p (.tuple ds)), none] M) = _
            rw [pass (M1 := M) (by simp [run_mk, look]), pass (M1 := M) (by simp [run_mk, look, isTy]), pass (M1 := M) (by simp [run_mk, look, isTy]), pass (M1 := M) (by simp [run_mk, look, isTy]), pass (M1 := M) (by simp [run_mk, look, isTy]), pass (M1 := M) (by simp [run_mk, look, isTy]), pass (M1 := M) (by simp [run_mk, look, hl])]
            rw [retn (v := .p (.bool (decide (es = ds)))) (M2 := M) (by
              rw [ev_bi, ev_lc, evIt_rng, evs_cons, ev_bi, ev_var]
              simp only [List.getElem?_cons_succ, List.getElem?_cons_zero, vr_some, th_ok, run_mk, len_l, len_t, evs_nil, e0, e1, all_b, all_range hl rfl])]
            simp
          · have hl' : ¬ ((es.length : Int) = ds.length) := by omega
            have hne : es ≠ ds := fun z => hl (by rw [z])
            simp [startG, List.replicate, run_mk, look, isTy, hl', hne]
      | _ => simp [startG, List.replicate, run_mk, look, isTy]
theorem ok_equal {defs : List Df} (h : findD defs "_law_equal" = some d_law_equal) (h2 : findD defs "_law_is_integer" = some d_law_is_integer) : ∀ k : Nat, At defs (k + 2) (S_equal k)
  | 0 => ok_equal_step h h2 0 fun k' e => by cases e
  | k + 1 => ok_equal_step h h2 (k + 1) fun k' e => by
    cases e
    exact ok_equal h h2 k
/-! ### a row picked -/
end Eg

/-! Plain part E: constraints and problems as they are drawn; shuffled. By an AI agent. -/
namespace Eg
open PySem
/-- a constraint -/
inductive Con where
  | within (i lo hi : Nat)
  | ahead (a b : Nat)
  deriving DecidableEq
def Con.enc : Con → D
  | .within i lo hi => .tuple [.str "within", .int i, .int lo, .int hi]
  | .ahead a b => .tuple [.str "ahead", .int a, .int b]
def Con.ok (n : Nat) : Con → Prop
  | .within i lo hi => i < n ∧ 1 ≤ lo ∧ lo ≤ hi ∧ hi ≤ n
  | .ahead a b => a < n ∧ b < n ∧ a ≠ b
theorem isCon_enc {n : Nat} {c : Con} (h : c.ok n) : isCon n c.enc = true := by
  cases c with
  | within i lo hi =>
    obtain ⟨h1, h2, h3, h4⟩ := h
    simp [Con.enc, isCon, whole_i]
    omega
  | ahead a b =>
    obtain ⟨h1, h2, h3⟩ := h
    have e : (("ahead" : Str) = "within") ↔ False := by decide
    simp [Con.enc, isCon, whole_i, e]
    omega
theorem flat_enc (c : Con) : flat 1 c.enc = true := by
  cases c with
  | within i lo hi =>
    show (flat 0 (.str "within") && (flat 0 (.int i) && (flat 0 (.int lo) && (flat 0 (.int hi) && true)))) = true
    rw [flat_str, sok_within]
    rfl
  | ahead a b =>
    show (flat 0 (.str "ahead") && (flat 0 (.int a) && (flat 0 (.int b) && true))) = true
    rw [flat_str, sok_ahead]
    rfl
theorem Ok_enc (c : Con) : Ok c.enc := ⟨1, flat_enc c⟩
def d_law_constraint : Df := ⟨"_law_constraint", 2, 5, false,
  (.cons (.ite (.and (.cons (.cmp .gt (.var 1) (.con (.int 1))) (.cons (.cmp .eq (.call "_law_next" (.cons (.var 0) (.cons (.con (.int 2)) .nil))) (.con (.int 0))) .nil))) (.cons (.set (.nm 3) (.call "_law_next" (.cons (.var 0) (.cons (.var 1) .nil)))) (.cons (.set (.nm 4) (.call "_law_next" (.cons (.var 0) (.cons (.bin .sub (.var 1) (.con (.int 1))) .nil)))) (.cons (.ret (.tup (.cons (.con (.str "ahead")) (.cons (.var 3) (.cons (.bin .add (.var 4) (.bi .int (.cmp .ge (.var 4) (.var 3)))) .nil))))) .nil))) .nil) (.cons (.set (.nm 2) (.bin .add (.con (.int 1)) (.call "_law_next" (.cons (.var 0) (.cons (.var 1) .nil))))) (.cons (.ret (.tup (.cons (.con (.str "within")) (.cons (.call "_law_next" (.cons (.var 0) (.cons (.var 1) .nil))) (.cons (.var 2) (.cons (.bin .add (.var 2) (.call "_law_next" (.cons (.var 0) (.cons (.bin .add (.bin .sub (.var 1) (.var 2)) (.con (.int 1))) .nil)))) .nil)))))) .nil)))⟩
/-- a drawn number, as a natural one -/
theorem S_next.nat {F : Fns} (h : S_next F) {M : Mem} {i : Nat} {s : S} {many : Nat} (hM : M[i]? = some s.mo) (h1 : 1 ≤ many) (h2 : many < 1073741824) :
    ∃ (d : Nat) (s' : S), d < many ∧ F "_law_next" [.r i, .p (.int many)] M = .ok (.p (.int d)) (M.set i s'.mo) := by
  obtain ⟨d, s', d1, d2, e⟩ := h M i s many hM (by omega) (by omega)
  refine ⟨d.toNat, s', by omega, ?_⟩
  rw [e]
  have : d = (d.toNat : Int) := by omega
  rw [← this]
theorem set_at {M : Mem} {i : Nat} {s : MO} {o : MO} (h : M[i]? = some s) : (M.set i o)[i]? = some o := List.getElem?_set_self (List.getElem?_eq_some_iff.mp h).1
def S_lcon (F : Fns) : Prop := ∀ (M : Mem) (i : Nat) (s : S) (n : Nat), M[i]? = some s.mo → 1 ≤ n → n < 1000 → ∃ (c : Con) (s' : S), c.ok n ∧ F "_law_constraint" [.r i, .p (.int n)] M = .ok (.p c.enc) (M.set i s'.mo)
/-! ### a problem -/
def encP (n : Nat) (cs : List Con) : D := .tuple [.int n, .tuple (cs.map Con.enc)]
/-! ### shuffled -/
end Eg

/-! Plain law: windows, the ranking by deadlines. By an AI agent. -/
namespace Eg
open PySem
/-! ### small things about lists -/
theorem foldl_max_ge (l : List Int) (a : Int) : a ≤ l.foldl max a ∧ ∀ x ∈ l, x ≤ l.foldl max a := by
  induction l generalizing a with
  | nil => exact ⟨Int.le_refl _, fun x h => by cases h⟩
  | cons y l ih =>
    obtain ⟨h1, h2⟩ := ih (max a y)
    refine ⟨by rw [List.foldl_cons]; omega, fun x hx => ?_⟩
    rw [List.foldl_cons]
    rcases List.mem_cons.mp hx with rfl | hx
    · omega
    · exact h2 x hx
theorem foldl_max_le' {l : List Int} {a b : Int} (h0 : a ≤ b) (h : ∀ x ∈ l, x ≤ b) : l.foldl max a ≤ b := by
  induction l generalizing a with
  | nil => exact h0
  | cons y l ih =>
    rw [List.foldl_cons]
    have := h y List.mem_cons_self
    exact ih (by omega) fun x hx => h x (List.mem_cons_of_mem _ hx)
theorem foldl_min_neg (l : List Int) (a : Int) : l.foldl min a = -((l.map fun x => -x).foldl max (-a)) := by
  induction l generalizing a with
  | nil => simp
  | cons y l ih =>
    rw [List.foldl_cons, ih, List.map_cons, List.foldl_cons]
    congr 2
    omega
/-! ### the problem -/
def bef (n : Nat) (cs : List Con) (i : Nat) : List Nat := (List.range n).filter fun a => decide (Con.ahead a i ∈ cs)
def beh (n : Nat) (cs : List Con) (i : Nat) : List Nat := (List.range n).filter fun b => decide (Con.ahead i b ∈ cs)
def lowF (i : Nat) : Con → Option Int
  | .within j lo _ => if j = i then some (lo : Int) else none
  | _ => none
def lowsOf (cs : List Con) (i : Nat) : List Int := cs.filterMap (lowF i)
def highF (i : Nat) : Con → Option Int
  | .within j _ hi => if j = i then some (hi : Int) else none
  | _ => none
def highsOf (cs : List Con) (i : Nat) : List Int := cs.filterMap (highF i)
def gLow (cs : List Con) (i : Nat) : Int := (lowsOf cs i).foldl max 1
def gHigh (n : Nat) (cs : List Con) (i : Nat) : Int := (highsOf cs i).foldl min n
theorem mem_bef {n : Nat} {cs : List Con} {a b : Nat} : a ∈ bef n cs b ↔ a < n ∧ Con.ahead a b ∈ cs := by simp [bef]
theorem mem_beh {n : Nat} {cs : List Con} {a b : Nat} : b ∈ beh n cs a ↔ b < n ∧ Con.ahead a b ∈ cs := by simp [beh]
/-! ### rankings -/
def IsRk (n : Nat) (r : List Nat) : Prop := r.Perm (List.range n)
theorem IsRk.mem {n : Nat} {r : List Nat} (h : IsRk n r) {i : Nat} : i ∈ r ↔ i < n := by rw [h.mem_iff]; exact List.mem_range
theorem IsRk.nodup {n : Nat} {r : List Nat} (h : IsRk n r) : r.Nodup := h.nodup_iff.mpr List.nodup_range
theorem IsRk.length {n : Nat} {r : List Nat} (h : IsRk n r) : r.length = n := by rw [h.length_eq, List.length_range]
theorem nodup_le : ∀ (l m : List Nat), l.Nodup → (∀ x ∈ l, x ∈ m) → l.length ≤ m.length
  | [], _, _, _ => Nat.zero_le _
  | x :: l, m, nd, h => by
    have h1 := List.nodup_cons.mp nd
    have hx := h x List.mem_cons_self
    have := nodup_le l (m.erase x) h1.2 fun y hy => (List.mem_erase_of_ne (show y ≠ x from fun e => h1.1 (by rw [← e]; exact hy))).mpr (h y (List.mem_cons_of_mem _ hy))
    rw [List.length_erase_of_mem hx] at this
    have := List.length_pos_of_mem hx
    rw [List.length_cons]
    omega
def holdsC (r : List Nat) : Con → Bool
  | .within i lo hi => decide (lo ≤ r.idxOf i + 1) && decide (r.idxOf i + 1 ≤ hi)
  | .ahead a b => decide (r.idxOf a < r.idxOf b)
def goodB (cs : List Con) (r : List Nat) : Bool := cs.all (holdsC r)
/-! ### the sequence -/
def freeOf (n : Nat) (cs : List Con) (left : List Nat) : List Nat := left.filter fun i => !(bef n cs i).any fun o => decide (o ∈ left)
def ordL (n : Nat) (cs : List Con) : Nat → List Nat → List Nat → List Nat
  | 0, found, _ => found
  | k + 1, found, left => if left = [] then found else if freeOf n cs left = [] then found else ordL n cs k (found ++ freeOf n cs left) (left.filter fun i => !decide (i ∈ freeOf n cs left))
def ordd (n : Nat) (cs : List Con) : List Nat := ordL n cs (n + 1) [] (List.range n)
/-- what is true of the sequence found so far and of the items left -/
structure OrdI (n : Nat) (cs : List Con) (found left : List Nat) : Prop where
  nd : (found ++ left).Nodup
  mem : ∀ i, i ∈ found ∨ i ∈ left ↔ i < n
  dep : ∀ l1 i l2, found = l1 ++ i :: l2 → ∀ o ∈ bef n cs i, o ∈ l1
theorem mem_free {n : Nat} {cs : List Con} {left : List Nat} {i : Nat} : i ∈ freeOf n cs left ↔ i ∈ left ∧ ∀ o ∈ bef n cs i, o ∉ left := by
  unfold freeOf
  rw [List.mem_filter]
  simp
theorem split_app {α : Type} {a b l1 l2 : List α} {x : α} (h : a ++ b = l1 ++ x :: l2) : (∃ l3, a = l1 ++ x :: l3) ∨ ∃ l3, l1 = a ++ l3 ∧ b = l3 ++ x :: l2 := by
  rcases List.append_eq_append_iff.mp h with ⟨c, h1, h2⟩ | ⟨c, h1, h2⟩
  · exact .inr ⟨c, h1, h2⟩
  · cases c with
    | nil => exact .inr ⟨[], by simpa using h1.symm, by simpa using h2.symm⟩
    | cons y c =>
      rw [List.cons_append] at h2
      obtain ⟨rfl, h3⟩ := List.cons.inj h2
      exact .inl ⟨c, h1⟩
theorem OrdI.step {n : Nat} {cs : List Con} {found left : List Nat} (h : OrdI n cs found left) : OrdI n cs (found ++ freeOf n cs left) (left.filter fun i => !decide (i ∈ freeOf n cs left)) := by
  refine ⟨?_, fun i => ?_, fun l1 i l2 e o ho => ?_⟩
  · have nd := List.nodup_append.mp h.nd
    rw [List.append_assoc, List.nodup_append]
    refine ⟨nd.1, ?_, fun a ha b hb => ?_⟩
    · rw [List.nodup_append]
      refine ⟨nd.2.1.filter _, nd.2.1.filter _, fun a ha b hb e => ?_⟩
      subst e
      have := (List.mem_filter.mp hb).2
      simp [ha] at this
    · rcases List.mem_append.mp hb with hb | hb
      · exact nd.2.2 a ha b (mem_free.mp hb).1
      · exact nd.2.2 a ha b (List.mem_filter.mp hb).1
  · rw [← h.mem i, List.mem_append, List.mem_filter]
    constructor
    · rintro ((h | h) | h)
      · exact .inl h
      · exact .inr (mem_free.mp h).1
      · exact .inr h.1
    · rintro (h | h)
      · exact .inl (.inl h)
      · by_cases hf : i ∈ freeOf n cs left
        · exact .inl (.inr hf)
        · exact .inr ⟨h, by simpa using hf⟩
  · rcases split_app e with ⟨l3, e1⟩ | ⟨l3, e1, e2⟩
    · exact h.dep l1 i l3 e1 o ho
    · have hi : i ∈ freeOf n cs left := by rw [e2]; simp
      have h1 := (mem_free.mp hi).2 o ho
      have h2 := (h.mem o).mpr (mem_bef.mp ho).1
      rw [e1]
      exact List.mem_append_left _ (h2.resolve_right h1)
theorem ordL_ok {n : Nat} {cs : List Con} : ∀ (k : Nat) (found left : List Nat), left.length < k → OrdI n cs found left → ∃ left', OrdI n cs (ordL n cs k found left) left' ∧ (left' = [] ∨ (left' ≠ [] ∧ freeOf n cs left' = []))
  | 0, _, left, h, _ => by omega
  | k + 1, found, left, h, I => by
    unfold ordL
    by_cases h1 : left = []
    · rw [if_pos h1]; exact ⟨left, I, .inl h1⟩
    · rw [if_neg h1]
      by_cases h2 : freeOf n cs left = []
      · rw [if_pos h2]; exact ⟨left, I, .inr ⟨h1, h2⟩⟩
      · rw [if_neg h2]
        refine ordL_ok k _ _ ?_ I.step
        have : (left.filter fun i => !decide (i ∈ freeOf n cs left)).length < left.length := by
          obtain ⟨x, hx⟩ := List.exists_mem_of_ne_nil _ h2
          refine List.length_filter_lt_length_iff_exists.mpr ⟨x, (mem_free.mp hx).1, by simp [hx]⟩
        omega
theorem ordd_ok (n : Nat) (cs : List Con) : ∃ left, OrdI n cs (ordd n cs) left ∧ (left = [] ∨ (left ≠ [] ∧ freeOf n cs left = [])) := by
  refine ordL_ok (n + 1) [] (List.range n) (by simp) ⟨by simpa using List.nodup_range, fun i => by simp, fun l1 i l2 e => by simp at e⟩
def cyclic (n : Nat) (cs : List Con) : Bool := decide ((ordd n cs).length < n)
/-- not cyclic: the sequence has all items, each behind those ahead of it -/
structure Ord (n : Nat) (cs : List Con) : Prop where
  rk : IsRk n (ordd n cs)
  dep : ∀ l1 i l2, ordd n cs = l1 ++ i :: l2 → ∀ o ∈ bef n cs i, o ∈ l1
theorem ord_of {n : Nat} {cs : List Con} (h : cyclic n cs = false) : Ord n cs := by
  obtain ⟨left, I, _⟩ := ordd_ok n cs
  have h1 : ¬ (ordd n cs).length < n := by simpa [cyclic] using h
  have h2 : IsRk n (ordd n cs ++ left) := by
    refine (List.perm_ext_iff_of_nodup I.nd List.nodup_range).mpr fun i => ?_
    rw [List.mem_append, I.mem, List.mem_range]
  have h3 := h2.length
  rw [List.length_append] at h3
  have h4 : left = [] := List.length_eq_zero_iff.mp (by omega)
  rw [h4, List.append_nil] at h2
  exact ⟨h2, I.dep⟩
/-! ### earliest, latest -/
def stepE (dep : Nat → List Nat) (f : Nat → Int) (i : Nat) : Nat → Int := fun j => if j = i then ((dep i).map fun o => f o + 1).foldl max (f i) else f j
def stepL (dep : Nat → List Nat) (f : Nat → Int) (i : Nat) : Nat → Int := fun j => if j = i then ((dep i).map fun o => f o - 1).foldl min (f i) else f j
def earl (n : Nat) (cs : List Con) : Nat → Int := (ordd n cs).foldl (stepE (bef n cs)) (gLow cs)
def late (n : Nat) (cs : List Con) : Nat → Int := (ordd n cs).reverse.foldl (stepL (beh n cs)) (gHigh n cs)
theorem stepL_neg (dep : Nat → List Nat) (f : Nat → Int) (i : Nat) : (fun j => -(stepL dep f i j)) = stepE dep (fun j => -(f j)) i := by
  funext j
  unfold stepL stepE
  by_cases h : j = i
  · rw [if_pos h, if_pos h, foldl_min_neg, Int.neg_neg, List.map_map]
    congr 1
    refine List.map_congr_left fun o _ => ?_
    simp only [Function.comp]
    omega
  · rw [if_neg h, if_neg h]
theorem foldL_neg (dep : Nat → List Nat) : ∀ (os : List Nat) (f : Nat → Int), (fun j => -(os.foldl (stepL dep) f j)) = os.foldl (stepE dep) (fun j => -(f j))
  | [], f => rfl
  | o :: os, f => by
    rw [List.foldl_cons, List.foldl_cons, foldL_neg dep os, stepL_neg]
section
variable {dep : Nat → List Nat} {P : Nat → Prop}
theorem foldE_ge : ∀ (os : List Nat) (f : Nat → Int) (j : Nat), f j ≤ os.foldl (stepE dep) f j
  | [], f, j => Int.le_refl _
  | o :: os, f, j => by
    rw [List.foldl_cons]
    refine Int.le_trans ?_ (foldE_ge os _ j)
    unfold stepE
    by_cases h : j = o
    · rw [if_pos h, h]; exact (foldl_max_ge _ _).1
    · rw [if_neg h]; exact Int.le_refl _
theorem foldE_le {p : Nat → Int} : ∀ (os : List Nat) (f : Nat → Int), (∀ j, P j → f j ≤ p j) → (∀ i ∈ os, P i ∧ ∀ o ∈ dep i, P o ∧ p o + 1 ≤ p i) → ∀ j, P j → os.foldl (stepE dep) f j ≤ p j
  | [], f, h, _, j, hj => h j hj
  | o :: os, f, h, hd, j, hj => by
    rw [List.foldl_cons]
    refine foldE_le os _ (fun i hi => ?_) (fun i hi => hd i (List.mem_cons_of_mem _ hi)) j hj
    unfold stepE
    by_cases e : i = o
    · subst e
      rw [if_pos rfl]
      obtain ⟨_, h2⟩ := hd i List.mem_cons_self
      refine foldl_max_le' (h i hi) fun x hx => ?_
      obtain ⟨y, hy, rfl⟩ := List.mem_map.mp hx
      have := h y (h2 y hy).1
      have := (h2 y hy).2
      omega
    · rw [if_neg e]; exact h i hi
theorem foldE_out : ∀ (os : List Nat) (f : Nat → Int) (j : Nat), j ∉ os → os.foldl (stepE dep) f j = f j
  | [], _, _, _ => rfl
  | o :: os, f, j, h => by
    rw [List.foldl_cons, foldE_out os _ j fun z => h (List.mem_cons_of_mem _ z)]
    unfold stepE
    exact if_neg fun z => h (by rw [z]; exact List.mem_cons_self)
theorem foldE_dep {os : List Nat} (nd : os.Nodup) (hd : ∀ l1 i l2, os = l1 ++ i :: l2 → ∀ o ∈ dep i, o ∈ l1) (f : Nat → Int) {i o : Nat} (hi : i ∈ os) (ho : o ∈ dep i) : os.foldl (stepE dep) f o + 1 ≤ os.foldl (stepE dep) f i := by
  obtain ⟨l1, l2, e⟩ := List.append_of_mem hi
  have h1 := hd l1 i l2 e o ho
  subst e
  have nd2 := List.nodup_append.mp nd
  have nd3 := List.nodup_cons.mp nd2.2.1
  have o2 : o ∉ l2 := fun z => nd2.2.2 o h1 o (List.mem_cons_of_mem _ z) rfl
  have oi : o ≠ i := fun z => nd2.2.2 o h1 i List.mem_cons_self z
  rw [List.foldl_append, List.foldl_cons, foldE_out l2 _ o o2, foldE_out l2 _ i nd3.1]
  generalize l1.foldl (stepE dep) f = g
  have e1 : stepE dep g i o = g o := by unfold stepE; rw [if_neg oi]
  have e2 : stepE dep g i i = ((dep i).map fun o => g o + 1).foldl max (g i) := by unfold stepE; rw [if_pos rfl]
  rw [e1, e2]
  exact (foldl_max_ge _ _).2 _ (List.mem_map.mpr ⟨o, ho, rfl⟩)
end
section
variable {n : Nat} {cs : List Con}
theorem earl_low (i : Nat) : gLow cs i ≤ earl n cs i := foldE_ge _ _ _
theorem late_high (i : Nat) : late n cs i ≤ gHigh n cs i := by
  have e := congrFun (foldL_neg (beh n cs) (ordd n cs).reverse (gHigh n cs)) i
  have h := foldE_ge (dep := beh n cs) (ordd n cs).reverse (fun j => -(gHigh n cs j)) i
  rw [← e] at h
  unfold late
  omega
theorem earl_ahead (h : Ord n cs) {a b : Nat} (ha : a < n) (hb : b < n) (hc : Con.ahead a b ∈ cs) : earl n cs a + 1 ≤ earl n cs b :=
  foldE_dep h.rk.nodup h.dep _ (h.rk.mem.mpr hb) (mem_bef.mpr ⟨ha, hc⟩)
theorem ord_rev (h : Ord n cs) : ∀ l1 i l2, (ordd n cs).reverse = l1 ++ i :: l2 → ∀ o ∈ beh n cs i, o ∈ l1 := by
  intro l1 i l2 e o ho
  obtain ⟨h1, h2⟩ := mem_beh.mp ho
  have e' : ordd n cs = l2.reverse ++ i :: l1.reverse := by
    have := congrArg List.reverse e
    rw [List.reverse_reverse] at this
    rw [this]
    simp
  have hm : o ∈ ordd n cs := h.rk.mem.mpr h1
  rw [e'] at hm
  have hi : i < n := h.rk.mem.mp (by rw [e']; simp)
  rcases List.mem_append.mp hm with hm | hm
  · exfalso
    obtain ⟨m1, m2, e2⟩ := List.append_of_mem hm
    have h3 := h.dep m1 o (m2 ++ i :: l1.reverse) (by rw [e', e2]; simp) i (mem_bef.mpr ⟨hi, h2⟩)
    have nd := h.rk.nodup
    rw [e', e2] at nd
    have nd2 := List.nodup_append.mp nd
    exact nd2.2.2 i (List.mem_append_left _ h3) i List.mem_cons_self rfl
  · rcases List.mem_cons.mp hm with rfl | hm
    · exfalso
      have h3 := h.dep _ o _ e' o (mem_bef.mpr ⟨hi, h2⟩)
      have nd := h.rk.nodup
      rw [e'] at nd
      exact (List.nodup_append.mp nd).2.2 o h3 o List.mem_cons_self rfl
    · exact List.mem_reverse.mp hm
theorem nodup_rev {l : List Nat} (h : l.Nodup) : l.reverse.Nodup := (List.reverse_perm l).nodup_iff.mpr h
theorem late_ahead (h : Ord n cs) {a b : Nat} (ha : a < n) (hb : b < n) (hc : Con.ahead a b ∈ cs) : late n cs a + 1 ≤ late n cs b := by
  have k := foldE_dep (dep := beh n cs) (nodup_rev h.rk.nodup) (ord_rev h) (fun j => -(gHigh n cs j)) (List.mem_reverse.mpr (h.rk.mem.mpr ha)) (mem_beh.mpr ⟨hb, hc⟩)
  have e1 := congrFun (foldL_neg (beh n cs) (ordd n cs).reverse (gHigh n cs)) a
  have e2 := congrFun (foldL_neg (beh n cs) (ordd n cs).reverse (gHigh n cs)) b
  rw [← e1, ← e2] at k
  unfold late
  omega
theorem earl_least (h : Ord n cs) (hok : ∀ c ∈ cs, c.ok n) {p : Nat → Int} (h1 : ∀ i, i < n → gLow cs i ≤ p i) (h2 : ∀ a b, Con.ahead a b ∈ cs → p a + 1 ≤ p b) {i : Nat} (hi : i < n) : earl n cs i ≤ p i :=
  foldE_le (P := fun i => i < n) _ _ h1 (fun i hi => ⟨h.rk.mem.mp hi, fun o ho => ⟨(mem_bef.mp ho).1, h2 _ _ (mem_bef.mp ho).2⟩⟩) i hi
theorem late_most (h : Ord n cs) (hok : ∀ c ∈ cs, c.ok n) {p : Nat → Int} (h1 : ∀ i, i < n → p i ≤ gHigh n cs i) (h2 : ∀ a b, Con.ahead a b ∈ cs → p a + 1 ≤ p b) {i : Nat} (hi : i < n) : p i ≤ late n cs i := by
  have k := foldE_le (dep := beh n cs) (P := fun i => i < n) (p := fun j => -(p j)) (ordd n cs).reverse (fun j => -(gHigh n cs j)) (fun j hj => by have := h1 j hj; omega)
    (fun i hi => ⟨h.rk.mem.mp (List.mem_reverse.mp hi), fun o ho => ⟨(mem_beh.mp ho).1, by have := h2 _ _ (mem_beh.mp ho).2; omega⟩⟩) i hi
  have e := congrFun (foldL_neg (beh n cs) (ordd n cs).reverse (gHigh n cs)) i
  rw [← e] at k
  unfold late
  omega
end
/-! ### by deadlines -/
def lexB (a b : Int × Nat) : Bool := decide (a.1 < b.1) || (decide (a.1 = b.1) && decide (a.2 < b.2))
def leastP (a : Int × Nat) (l : List (Int × Nat)) : Int × Nat := l.foldl (fun a y => if lexB y a then y else a) a
theorem leastP_ok : ∀ (l : List (Int × Nat)) (a : Int × Nat), leastP a l ∈ a :: l ∧ ∀ y ∈ a :: l, (leastP a l).1 < y.1 ∨ ((leastP a l).1 = y.1 ∧ (leastP a l).2 ≤ y.2)
  | [], a => ⟨by simp [leastP], fun y hy => by rw [List.mem_singleton.mp hy]; exact .inr ⟨rfl, Nat.le_refl _⟩⟩
  | b :: l, a => by
    have hstep : leastP a (b :: l) = leastP (if lexB b a then b else a) l := rfl
    rw [hstep]
    obtain ⟨h1, h2⟩ := leastP_ok l (if lexB b a then b else a)
    have hm : ∀ y, y ∈ (if lexB b a then b else a) :: l → y ∈ a :: b :: l := by
      intro y hy
      rcases List.mem_cons.mp hy with rfl | hy
      · by_cases hc : lexB b a = true
        · rw [if_pos hc]; simp
        · rw [if_neg hc]; simp
      · exact List.mem_cons_of_mem _ (List.mem_cons_of_mem _ hy)
    refine ⟨hm _ h1, fun y hy => ?_⟩
    have h0 := h2 _ List.mem_cons_self
    have key : ∀ y, y = a ∨ y = b → (leastP (if lexB b a then b else a) l).1 < y.1 ∨ ((leastP (if lexB b a then b else a) l).1 = y.1 ∧ (leastP (if lexB b a then b else a) l).2 ≤ y.2) := by
      intro y hy
      by_cases hc : lexB b a = true
      · rw [if_pos hc] at h0 ⊢
        simp only [lexB, Bool.or_eq_true, Bool.and_eq_true, decide_eq_true_eq] at hc
        rcases hy with rfl | rfl
        · omega
        · exact h0
      · rw [if_neg hc] at h0 ⊢
        simp only [lexB, Bool.or_eq_true, Bool.and_eq_true, decide_eq_true_eq] at hc
        rcases hy with rfl | rfl
        · exact h0
        · omega
    rcases List.mem_cons.mp hy with rfl | hy
    · exact key _ (.inl rfl)
    · rcases List.mem_cons.mp hy with rfl | hy
      · exact key _ (.inr rfl)
      · exact h2 y (List.mem_cons_of_mem _ hy)
def ready (n : Nat) (e l : Nat → Int) (found : List Nat) (place : Int) : List (Int × Nat) := ((List.range n).filter fun i => !decide (i ∈ found) && decide (e i ≤ place)).map fun i => (l i, i)
theorem mem_ready {n : Nat} {e l : Nat → Int} {found : List Nat} {place : Int} {y : Int × Nat} : y ∈ ready n e l found place ↔ y.2 < n ∧ y.2 ∉ found ∧ e y.2 ≤ place ∧ y.1 = l y.2 := by
  unfold ready
  rw [List.mem_map]
  constructor
  · rintro ⟨i, hi, rfl⟩
    rw [List.mem_filter] at hi
    simp at hi
    exact ⟨hi.1, hi.2.1, hi.2.2, rfl⟩
  · rintro ⟨h1, h2, h3, h4⟩
    exact ⟨y.2, by rw [List.mem_filter]; simp [h1, h2, h3], by rw [← h4]⟩
/-- k more places, from a place on -/
def edf (n : Nat) (e l : Nat → Int) : Nat → List Nat → Option (List Nat)
  | 0, found => some found
  | k + 1, found => match ready n e l found ((found.length : Int) + 1) with
    | [] => none
    | a :: rest => edf n e l k (found ++ [(leastP a rest).2])
structure EdfI (n : Nat) (e l : Nat → Int) (found : List Nat) : Prop where
  nd : found.Nodup
  mem : ∀ i ∈ found, i < n
  low : ∀ (k i : Nat), found[k]? = some i → e i ≤ (k : Int) + 1
  pick : ∀ (k i : Nat), found[k]? = some i → ∀ z, z < n → z ∉ found.take k → e z ≤ (k : Int) + 1 → l i ≤ l z
theorem EdfI.step {n : Nat} {e l : Nat → Int} {found : List Nat} {a : Int × Nat} {rest : List (Int × Nat)} (I : EdfI n e l found) (h : ready n e l found ((found.length : Int) + 1) = a :: rest) : EdfI n e l (found ++ [(leastP a rest).2]) := by
  obtain ⟨h1, h2⟩ := leastP_ok rest a
  rw [← h] at h1 h2
  obtain ⟨m1, m2, m3, m4⟩ := mem_ready.mp h1
  refine ⟨?_, fun i hi => ?_, fun k i hk => ?_, fun k i hk z hz hzn hze => ?_⟩
  · rw [List.nodup_append]
    exact ⟨I.nd, by simp, fun x hx y hy e => m2 (by rw [List.mem_singleton.mp hy] at e; exact e ▸ hx)⟩
  · rcases List.mem_append.mp hi with hi | hi
    · exact I.mem i hi
    · rw [List.mem_singleton.mp hi]; exact m1
  · by_cases hl : k < found.length
    · rw [List.getElem?_append_left hl] at hk
      exact I.low k i hk
    · rw [List.getElem?_append_right (by omega)] at hk
      by_cases h0 : k - found.length = 0
      · rw [h0] at hk
        simp at hk
        subst hk
        have : k = found.length := by omega
        subst this
        exact m3
      · rw [List.getElem?_eq_none (by simp; omega)] at hk
        cases hk
  · by_cases hl : k < found.length
    · rw [List.getElem?_append_left hl] at hk
      rw [List.take_append_of_le_length (by omega)] at hzn
      exact I.pick k i hk z hz hzn hze
    · rw [List.getElem?_append_right (by omega)] at hk
      by_cases h0 : k - found.length = 0
      · rw [h0] at hk
        simp at hk
        subst hk
        have : k = found.length := by omega
        subst this
        rw [List.take_left'] at hzn
        · have := h2 (l z, z) (mem_ready.mpr ⟨hz, hzn, hze, rfl⟩)
          dsimp only at this
          rw [m4] at this
          omega
        · rfl
      · rw [List.getElem?_eq_none (by simp; omega)] at hk
        cases hk
theorem idxOf_of_get {r : List Nat} (nd : r.Nodup) {k x : Nat} (h : r[k]? = some x) : r.idxOf x = k := by
  obtain ⟨hk, e⟩ := List.getElem?_eq_some_iff.mp h
  subst e
  have hm : r[k] ∈ r := List.getElem_mem hk
  have hl := List.idxOf_lt_length_iff.mpr hm
  exact (List.getElem_inj nd).mp (List.getElem_idxOf hl)
def fbd (n : Nat) (cs : List Con) : Option (List Nat) := if cyclic n cs then none else match edf n (earl n cs) (late n cs) n [] with
  | some r => if goodB cs r then some r else none
  | none => none
end Eg

/-! Plain part: rules for reading loops, comprehensions over typed lists; operations on numbers. By an AI agent. -/
namespace Eg
open PySem
abbrev nI (k : Nat) : D := .int (k : Nat)
theorem line_big : line = 16777216 := rfl
/-! ### loops -/
theorem frR_stop {F : Fns} {wh : Wh} {t : Tg} {b : Sms} {w : Wk} (P : Nat → Sg → Mem → Prop) (R : Vl → Mem → Prop) {xs : List D}
    (hs : ∀ (k : Nat) (g : Sg) (M : Mem) (x : D), xs[k]? = some x → P k g M → ∃ g', store t x g = some g' ∧ ((∃ g2 M2, execs F wh b g' M = some (.nx g2, M2) ∧ w.ok M2 = true ∧ P (k + 1) g2 M2) ∨ ∃ v M2, execs F wh b g' M = some (.rt v, M2) ∧ R v M2))
    {g : Sg} {M : Mem} (h0 : P 0 g M) : (∃ g' M', frR F wh t b w xs g M = some (.nx g', M') ∧ P xs.length g' M') ∨ ∃ v M', frR F wh t b w xs g M = some (.rt v, M') ∧ R v M' := by
  have go : ∀ (ys : List D) (k : Nat) (g : Sg) (M : Mem), xs.drop k = ys → k ≤ xs.length → P k g M → (∃ g' M', frLoop w t (fun g M => execs F wh b g M) ys g M = some (.nx g', M') ∧ P xs.length g' M') ∨ ∃ v M', frLoop w t (fun g M => execs F wh b g M) ys g M = some (.rt v, M') ∧ R v M' := by
    intro ys
    induction ys with
    | nil =>
      intro k g M e hk h
      have : xs.length ≤ k := List.drop_eq_nil_iff.mp e
      have ek : k = xs.length := by omega
      subst ek
      exact .inl ⟨g, M, rfl, h⟩
    | cons x ys ih =>
      intro k g M e hk h
      have hlt : k < xs.length := by
        by_cases z : k < xs.length
        · exact z
        · rw [List.drop_of_length_le (by omega)] at e
          cases e
      rw [List.drop_eq_getElem_cons hlt] at e
      obtain ⟨e1, e2⟩ := List.cons.inj e
      obtain ⟨g', es, h⟩ := hs k g M x (by rw [← e1]; exact List.getElem?_eq_getElem hlt) h
      unfold frLoop
      rw [es]
      rcases h with ⟨g2, M2, ee, ok, hp⟩ | ⟨v, M2, ee, hr⟩
      · simp only [ee, ok, if_true]
        exact ih (k + 1) g2 M2 e2 hlt hp
      · simp only [ee]
        exact .inr ⟨v, M2, rfl, hr⟩
  exact go xs 0 g M rfl (Nat.zero_le _) h0
theorem frR_all {F : Fns} {wh : Wh} {t : Tg} {b : Sms} {w : Wk} (P : Nat → Sg → Mem → Prop) {xs : List D}
    (hs : ∀ (k : Nat) (g : Sg) (M : Mem) (x : D), xs[k]? = some x → P k g M → ∃ g' g2 M2, store t x g = some g' ∧ execs F wh b g' M = some (.nx g2, M2) ∧ w.ok M2 = true ∧ P (k + 1) g2 M2)
    {g : Sg} {M : Mem} (h0 : P 0 g M) : ∃ g' M', frR F wh t b w xs g M = some (.nx g', M') ∧ P xs.length g' M' := by
  rcases frR_stop (F := F) (wh := wh) (t := t) (b := b) (w := w) P (fun _ _ => False) (fun k g M x hx hp => by
    obtain ⟨g', g2, M2, h1, h2, h3, h4⟩ := hs k g M x hx hp
    exact ⟨g', h1, .inl ⟨g2, M2, h2, h3, h4⟩⟩) h0 with h | ⟨_, _, _, h⟩
  · exact h
  · exact h.elim
/-! ### comprehensions over typed lists -/
theorem lcR_ty {α : Type} {F : Fns} {own : List Nat} {tg : Tg} {ifs : Exs} {elt : Ex} {g : Sg} {M : Mem} {xs : List α} (enc : α → D) (r : α → List D) (hl : xs.length ≤ line) (hs : ∀ x ∈ xs, stp F own tg ifs elt g (enc x) M = .ok (r x) M) :
    lcR F own tg ifs elt ⟨xs.map enc, none⟩ g M = .ok (xs.flatMap r) M := by
  have go : ∀ (ys : List α) (acc : List D), (∀ x ∈ ys, x ∈ xs) → lcLoop ⟨xs.map enc, none⟩ (fStep own tg (fun g M => evTs F ifs g M) (fun g M => ev F elt g M) g) (ys.map enc) M acc = .ok (acc ++ ys.flatMap r) M := by
    intro ys
    induction ys with
    | nil => intro acc _; simp [lcLoop]
    | cons y ys ih =>
      intro acc h
      have e : fStep own tg (fun g M => evTs F ifs g M) (fun g M => ev F elt g M) g (enc y) M = .ok (r y) M := hs y (h y List.mem_cons_self)
      rw [List.map_cons]
      unfold lcLoop
      rw [e]
      show (if Wk.ok ⟨xs.map enc, none⟩ M then _ else Rs.bad) = _
      rw [if_pos (show Wk.ok ⟨xs.map enc, none⟩ M = true from rfl), ih _ fun d hd => h d (List.mem_cons_of_mem _ hd), List.flatMap_cons, List.append_assoc]
  show (if (xs.map enc).length ≤ line then _ else Rs.bad) = _
  rw [if_pos (by rw [List.length_map]; exact hl), go xs [] fun _ h => h, List.nil_append]
theorem lcR_flt {α : Type} {F : Fns} {own : List Nat} {tg : Tg} {ifs : Exs} {elt : Ex} {g : Sg} {M : Mem} {xs : List α} (enc : α → D) (p : α → Bool) (f : α → D) (hl : xs.length ≤ line) (hs : ∀ x ∈ xs, stp F own tg ifs elt g (enc x) M = .ok (if p x then [f x] else []) M) :
    lcR F own tg ifs elt ⟨xs.map enc, none⟩ g M = .ok ((xs.filter p).map f) M := by
  rw [lcR_ty enc (fun x => if p x then [f x] else []) hl hs]
  congr 1
  clear hs hl
  induction xs with
  | nil => rfl
  | cons x xs ih =>
    rw [List.flatMap_cons, ih, List.filter_cons]
    cases p x <;> rfl
theorem lcR_mp {α : Type} {F : Fns} {own : List Nat} {tg : Tg} {ifs : Exs} {elt : Ex} {g : Sg} {M : Mem} {xs : List α} (enc : α → D) (f : α → D) (hl : xs.length ≤ line) (hs : ∀ x ∈ xs, stp F own tg ifs elt g (enc x) M = .ok [f x] M) :
    lcR F own tg ifs elt ⟨xs.map enc, none⟩ g M = .ok (xs.map f) M := by
  rw [lcR_ty enc (fun x => [f x]) hl hs]
  congr 1
  clear hs hl
  induction xs with
  | nil => rfl
  | cons x xs ih => rw [List.flatMap_cons, ih]; rfl
theorem rangeN (n : Nat) : rangeD 0 (n : Int) = (List.range n).map nI := by
  unfold rangeD
  simp
theorem fRwN {n : Nat} (M : Mem) (h : n ≤ 1000000) : fRw [.p (.int (n : Int))] M = .ok ⟨(List.range n).map nI, none⟩ M := by
  rw [fRw1 _ _ (big_of h), rangeN]
/-! ### numbers -/
theorem flat_int (n : Nat) (i : Int) : flat n (.int i) = true := by cases n <;> rfl
theorem flats_nI (n : Nat) (r : List Nat) : flats n (r.map nI) = true := by
  induction r with
  | nil => cases n <;> rfl
  | cons x r ih => rw [List.map_cons]; unfold flats; rw [flat_int, ih]; rfl
theorem eqv_int (i j : Int) : PyData.eqv (.int i) (.int j) = decide (i = j) := by
  unfold PyData.eqv
  by_cases h : i = j <;> simp [h]
theorem any_nI (r : List Nat) (i : Nat) : ((r.map nI).any fun z => PyData.eqv z (nI i)) = decide (i ∈ r) := by
  induction r with
  | nil => rfl
  | cons x r ih =>
    rw [List.map_cons, List.any_cons, ih, eqv_int]
    by_cases h : x = i
    · subst h; simp
    · have h2 : ¬ ((x : Int) = i) := by omega
      have h3 : ¬ i = x := fun e => h e.symm
      simp [h2, h3]
@[simp] theorem in_lN (r : List Nat) (i : Nat) : cmpop .isin (nI i) (.list (r.map nI)) = some (decide (i ∈ r)) := by
  show (if flat 60 (nI i) && flats 60 (r.map nI) then _ else none) = _
  rw [flat_int, flats_nI, any_nI]
  rfl
@[simp] theorem in_tN (r : List Nat) (i : Nat) : cmpop .isin (nI i) (.tuple (r.map nI)) = some (decide (i ∈ r)) := by
  show (if flat 60 (nI i) && flats 60 (r.map nI) then _ else none) = _
  rw [flat_int, flats_nI, any_nI]
  rfl
@[simp] theorem notin_lN (r : List Nat) (i : Nat) : cmpop .notin (nI i) (.list (r.map nI)) = some (!decide (i ∈ r)) := by
  show (if flat 60 (nI i) && flats 60 (r.map nI) then _ else none) = _
  rw [flat_int, flats_nI, any_nI]
  rfl
@[simp] theorem notin_tN (r : List Nat) (i : Nat) : cmpop .notin (nI i) (.tuple (r.map nI)) = some (!decide (i ∈ r)) := by
  show (if flat 60 (nI i) && flats 60 (r.map nI) then _ else none) = _
  rw [flat_int, flats_nI, any_nI]
  rfl
@[simp] theorem eq_aa : cmpop .eq (.str "ahead") (.str "ahead") = some true := eq_s sok_ahead sok_ahead
@[simp] theorem eq_ww : cmpop .eq (.str "within") (.str "within") = some true := eq_s sok_within sok_within
@[simp] theorem eq_wa : cmpop .eq (.str "within") (.str "ahead") = some false := (eq_s sok_within sok_ahead).trans (by decide)
@[simp] theorem eq_aw : cmpop .eq (.str "ahead") (.str "within") = some false := (eq_s sok_ahead sok_within).trans (by decide)
theorem max_i (M : Mem) (a : Int) (l : List Int) : fBi .max M (.p (.list (.int a :: l.map .int))) = .ok (.p (.int (l.foldl max a))) M := by
  rw [fBi_p]
  show Rs.of M ((mmL true (.int a :: l.map .int)).map Vl.p) = _
  unfold mmL
  rw [show PyData.int a :: l.map PyData.int = (a :: l).map PyData.int from rfl, intsOf_map]
  rfl
/-! ### the least of pairs -/
def encQ (p : Int × Nat) : D := .tuple [.int p.1, nI p.2]
/-! ### loops at the end of a reading -/
theorem use_fa {F : Fns} {wh : Wh} {t : Tg} {b : Sms} {w : Wk} {xs : List D} {g : Sg} {M : Mem} {keep : Bool} {L : Nat} {res : Rs Vl} {kk : Kc Sg Ro} (P : Nat → Sg → Mem → Prop) (h0 : P 0 g M)
    (hs : ∀ (k : Nat) (g : Sg) (M : Mem) (x : D), xs[k]? = some x → P k g M → ∃ g' g2 M2, store t x g = some g' ∧ execs F wh b g' M = some (.nx g2, M2) ∧ w.ok M2 = true ∧ P (k + 1) g2 M2)
    (hE : ∀ g' M', P xs.length g' M' → fin keep L (kk.run g' M') = res) : fin keep L (@sq (frR F wh t b w xs g M) kk) = res := by
  obtain ⟨g', M', e, h⟩ := frR_all P hs h0
  rw [e, sq_nx]
  exact hE g' M' h
theorem get_map {α : Type} {xs : List α} {f : α → D} {k : Nat} {d : D} (h : (xs.map f)[k]? = some d) : ∃ x, xs[k]? = some x ∧ d = f x := by
  rw [List.getElem?_map] at h
  obtain ⟨x, h1, h2⟩ := Option.map_eq_some_iff.mp h
  exact ⟨x, h1, h2.symm⟩
theorem get_range {n k x : Nat} (h : (List.range n)[k]? = some x) : x = k ∧ k < n := by
  obtain ⟨h1, h2⟩ := List.getElem?_eq_some_iff.mp h
  rw [List.getElem_range] at h2
  exact ⟨h2.symm, by simpa using h1⟩

@[simp] theorem getP0 (n : Nat) (cs : List Con) : getIx (encP n cs) (.int 0) = some (nI n) := by simp [encP, place]
@[simp] theorem getP1 (n : Nat) (cs : List Con) : getIx (encP n cs) (.int 1) = some (.tuple (cs.map Con.enc)) := by simp [encP, place]
@[simp] theorem getQ1 (p : Int × Nat) : getIx (encQ p) (.int 1) = some (nI p.2) := by simp [encQ, place]
theorem get_last {M : Mem} {o : MO} : (M ++ [o])[M.length]? = some o := by simp

/-- for, to its end, at the end of a reading -/
theorem use_fx {F : Fns} {wh : Wh} {t : Tg} {b : Sms} {w : Wk} {xs : List D} {g : Sg} {M : Mem} {keep : Bool} {L : Nat} {res : Rs Vl} {kk : Kc Sg Ro} (P : Nat → Sg → Mem → Prop) (h0 : P 0 g M)
    (hs : ∀ (k : Nat) (g : Sg) (M : Mem) (x : D), xs[k]? = some x → P k g M → ∃ g', store t x g = some g' ∧ ∃ g2 M2, execs F wh b g' M = some (.nx g2, M2) ∧ w.ok M2 = true ∧ P (k + 1) g2 M2)
    (hE : ∀ g' M', P xs.length g' M' → fin keep L (kk.run g' M') = res) : fin keep L (@sq (frR F wh t b w xs g M) kk) = res :=
  use_fa P h0 (fun k g M x hx hp => let ⟨g', h1, g2, M2, h2, h3, h4⟩ := hs k g M x hx hp; ⟨g', g2, M2, h1, h2, h3, h4⟩) hE
/-- for, to its end, the memory left open -/
theorem use_fz {F : Fns} {wh : Wh} {t : Tg} {b : Sms} {w : Wk} {xs : List D} {g : Sg} {M : Mem} {keep : Bool} {L : Nat} {v : Vl} {kk : Kc Sg Ro} (P : Nat → Sg → Mem → Prop) (h0 : P 0 g M)
    (hs : ∀ (k : Nat) (g : Sg) (M : Mem) (x : D), xs[k]? = some x → P k g M → ∃ g', store t x g = some g' ∧ ∃ g2 M2, execs F wh b g' M = some (.nx g2, M2) ∧ w.ok M2 = true ∧ P (k + 1) g2 M2)
    (hE : ∀ g' M', P xs.length g' M' → ∃ M2, fin keep L (kk.run g' M') = .ok v M2) : ∃ M2, fin keep L (@sq (frR F wh t b w xs g M) kk) = .ok v M2 := by
  obtain ⟨g', M', e, h⟩ := frR_all P (fun k g M x hx hp => let ⟨g', h1, g2, M2, h2, h3, h4⟩ := hs k g M x hx hp; ⟨g', g2, M2, h1, h2, h3, h4⟩) h0
  rw [e, sq_nx]
  exact hE g' M' h

end Eg

/-! Plain part: the program's functions read (problems, windows). By an AI agent. -/
namespace Eg
open PySem
def d_behind : Df := ⟨"behind", 2, 4, false,
  (.cons (.newd 2 (.ix (.var 3) (.con (.int 2))) (.con (.bool true)) (.nm 3) (.sq (.ix (.var 0) (.con (.int 1)))) (.cons (.and (.cons (.cmp .eq (.ix (.var 3) (.con (.int 0))) (.con (.str "ahead"))) (.cons (.cmp .eq (.ix (.var 3) (.con (.int 1))) (.var 1)) .nil))) .nil) [3]) (.cons (.ret (.srt (.var 2))) .nil))⟩
def encR (r : List Nat) : D := .tuple (r.map nI)
@[simp] theorem notin_R (r : List Nat) (i : Nat) : cmpop .notin (nI i) (encR r) = some (!decide (i ∈ r)) := notin_tN r i
@[simp] theorem isin_R (r : List Nat) (i : Nat) : cmpop .isin (nI i) (encR r) = some (decide (i ∈ r)) := in_tN r i
theorem add_R {r : List Nat} {x : Nat} (h : r.length + 1 ≤ line) : binop .add (encR r) (.tuple [nI x]) = some (encR (r ++ [x])) := by
  show (if (r.map nI).length + [nI x].length ≤ line then some (PyData.tuple (r.map nI ++ [nI x])) else none) = _
  rw [if_pos (by simpa using h)]
  simp [encR]
@[simp] theorem len_R (r : List Nat) (M : Mem) : fBi .len M (.p (encR r)) = .ok (.p (nI r.length)) M := by
  have := len_t (r.map nI) M
  rw [List.length_map] at this
  exact this
@[simp] theorem isT_R (r : List Nat) : isTy .tuple (encR r) = true := rfl
@[simp] theorem sqV_R (r : List Nat) (M : Mem) (k : Lz (Rs Vl)) : @sqV (.p (encR r)) M k = k.get () := Eq.trans rfl rfl
@[simp] theorem walk_R (r : List Nat) (M : Mem) : walkOf M (.p (encR r)) = some ⟨r.map nI, none⟩ := Eq.trans rfl rfl
def S_holds (F : Fns) : Prop := ∀ (n : Nat) (c : Con) (r : List Nat) (M : Mem), c.ok n → IsRk n r → F "holds" [.p c.enc, .p (encR r)] M = .ok (.p (.bool (holdsC r c))) M
/-! ### dict comprehensions -/
def prV (x y : Vl) (M : Mem) : Rs (List D) := Rs.of M ((pairOf x y).bind fun v => (plain v).map fun d => [d])
@[simp] theorem prV_i (k : Nat) (d : D) (M : Mem) : prV (.p (nI k)) (.p d) M = .ok [.tuple [nI k, d]] M := Eq.trans rfl rfl
theorem fStepD_nm {F : Fns} {own : List Nat} {i : Nat} {ifs : Exs} {k v : Ex} {g : Sg} {d : D} {M : Mem} : fStep own (.nm i) (evTs F ifs) (fPair (ev F k) (ev F v)) g d M =
    @Rs.th _ _ (evTs F ifs ((wipe g own).set i (some (.p d))) M) ⟨fun c M' => @cnd _ c ⟨fun _ => @Rs.th _ _ (ev F k ((wipe g own).set i (some (.p d))) M') ⟨fun x M1 => @Rs.th _ _ (ev F v ((wipe g own).set i (some (.p d))) M1) ⟨fun y M2 => prV x y M2⟩⟩⟩ ⟨fun _ => .ok [] M'⟩⟩ := by
  show (evTs F ifs ((wipe g own).set i (some (.p d))) M).bind _ = (evTs F ifs ((wipe g own).set i (some (.p d))) M).bind _
  cases evTs F ifs ((wipe g own).set i (some (.p d))) M with
  | bad => rfl
  | exc => rfl
  | ok c M' =>
    cases c with
    | false => rfl
    | true =>
      show ((fPair (ev F k) (ev F v) ((wipe g own).set i (some (.p d))) M').bind _) = ((ev F k ((wipe g own).set i (some (.p d))) M').bind _)
      unfold fPair
      cases ev F k ((wipe g own).set i (some (.p d))) M' with
      | bad => rfl
      | exc => rfl
      | ok x M1 =>
        show (Rs.bind ((ev F v ((wipe g own).set i (some (.p d))) M1).bind _) _) = ((ev F v ((wipe g own).set i (some (.p d))) M1).bind _)
        cases ev F v ((wipe g own).set i (some (.p d))) M1 with
        | bad => rfl
        | exc => rfl
        | ok y M2 =>
          show Rs.bind (Rs.of M2 (pairOf x y)) _ = prV x y M2
          unfold prV
          cases pairOf x y <;> rfl
/-- the keys, one behind another, each once -/
def dk (acc : List Nat) (l : List Nat) : List Nat := l.foldl (fun acc a => if a ∈ acc then acc else acc ++ [a]) acc
theorem nI_inj {a b : Nat} (h : nI a = nI b) : a = b := by
  injection h with h
  omega
end Eg

/-! Plain part: the program's functions read (the sequence, earliest, latest, by deadlines). By an AI agent. -/
namespace Eg
open PySem
theorem OrdI.len {n : Nat} {cs : List Con} {found left : List Nat} (h : OrdI n cs found left) : found.length + left.length ≤ n := by
  have := nodup_le _ (List.range n) h.nd fun x hx => List.mem_range.mpr ((h.mem x).mp (List.mem_append.mp hx))
  rw [List.length_append, List.length_range] at this
  exact this
theorem any_dec {α : Type} (l : List α) (p : α → Bool) (M : Mem) : fBi .any M (.p (.list (l.map fun x => .bool (p x)))) = .ok (.p (.bool (l.any p))) M := by
  have := any_b (M := M) (l.map p)
  rw [List.map_map, List.any_map] at this
  exact this
@[simp] theorem set_last {M : Mem} {o o' : MO} : (M ++ [o]).set M.length o' = M ++ [o'] := by
  rw [List.set_append_right _ _ (Nat.le_refl _), Nat.sub_self]
  rfl
def encO (r : Option (List Nat)) : D := match r with
  | some r => encR r
  | none => .none
@[simp] theorem encO_none : encO none = .none := rfl
@[simp] theorem encO_some (r : List Nat) : encO (some r) = encR r := rfl
def S_fbd (F : Fns) : Prop := ∀ (n : Nat) (cs : List Con) (M : Mem), (∀ c ∈ cs, c.ok n) → cs.length < 64 → n ≤ 1000 → F "found_by_deadlines" [.p (encP n cs)] M = .ok (.p (encO (fbd n cs))) M
end Eg

/-! Plain part: verdicts read. By an AI agent. -/
namespace Eg
open PySem
/-! ### negation -/
/-! ### verdicts -/
def canH (n : Nat) (cs : List Con) (c : Con) : Bool := (fbd n (cs ++ [c])).isSome
@[simp] theorem encR_ne (r : List Nat) : encR r = .none ↔ False := ⟨fun h => (by cases h), False.elim⟩
@[simp] theorem encO_eq (o : Option (List Nat)) : encO o = .none ↔ o = none := by cases o <;> simp
def S_canh (F : Fns) : Prop := ∀ (n : Nat) (cs : List Con) (c : Con) (M : Mem), (∀ c ∈ cs, c.ok n) → c.ok n → cs.length < 63 → n ≤ 1000 → F "can_hold" [.p (encP n cs), .p c.enc] M = .ok (.p (.bool (canH n cs c))) M
/-! what the words mean -/
end Eg

/-! Plain part: the program's functions read (items, windows asked for, ranges, beginnings). By an AI agent. -/
namespace Eg
open PySem
theorem whole_item {n i : Nat} (h : i < n) : whole (nI i) 0 ((n : Int) - 1) = true := by
  rw [whole_i]
  simp
  omega
/-! ### the places of an item in good rankings -/
end Eg

/-! Plain part: what the laws draw and go through (verdicts and later). By an AI agent. -/
namespace Eg
open PySem
/-- the law's answer -/
def S_lawT (F : Fns) : Prop := ∀ ns : List Int, ns.length ≤ 63 → ∃ M', F "law" [.s (ns.map .int)] [] = .ok (.p (.bool true)) M'
/-! ### a drawn constraint -/
/-! ### all rankings -/
def extR (n : Nat) (row : List Nat) : List (List Nat) := ((List.range n).filter fun i => !decide (i ∈ row)).map fun i => row ++ [i]
def rowsK (n : Nat) : Nat → List (List Nat)
  | 0 => [[]]
  | k + 1 => (rowsK n k).flatMap (extR n)
def goods (n : Nat) (cs : List Con) : List (List Nat) := (rowsK n n).filter (goodB cs)
end Eg

/-! Plain part: what the laws draw (windows, contradictions, rankings). By an AI agent. -/
namespace Eg
open PySem
/-! ### a drawn constraint -/
/-! ### one that a ranking satisfies -/
/-! ### a drawn problem -/
end Eg

/-! Plain part: ranges, and law k31 answers True. By an AI agent. -/
namespace Eg
open PySem
/-! ### the least and the greatest -/
theorem ix_last (l : List D) (d : D) : getIx (.list (l ++ [d])) (.int (-1)) = some d := by
  simp [place]
  have e : (-1 + ((l.length : Int) + 1)).toNat = l.length := by omega
  simp [e]
  rw [if_pos (by omega)]
  simp
/-! ### ranges -/
/-! ### the law -/
end Eg

/-! Plain part: data without truth values; rankings that begin so. By an AI agent. -/
namespace Eg
open PySem
/-! ### data without truth values: equality is equality -/
mutual
def nb : D → Bool
  | .bool _ => false
  | .dict _ => false
  | .list ds => nbs ds
  | .tuple ds => nbs ds
  | _ => true
def nbs : List D → Bool
  | [] => true
  | d :: ds => nb d && nbs ds
end
mutual
theorem eqv_nb : ∀ (a b : D), nb a = true → nb b = true → PyData.eqv a b = decide (a = b)
  | .none, b, h1, h2 => by cases b <;> first | rfl | cases h2
  | .bool _, _, h1, _ => by cases h1
  | .dict _, _, h1, _ => by cases h1
  | .int i, b, h1, h2 => by
    cases b <;> first | (rw [eqv_int]; simp) | rfl | cases h2
  | .str i, b, h1, h2 => by
    cases b <;> first | (rw [eqv_str]; simp) | rfl | cases h2
  | .list xs, b, h1, h2 => by
    cases b with
    | list ys =>
      show PyData.eqvAll xs ys = _
      rw [eqvs_nb xs ys h1 h2]
      simp
    | _ => first | rfl | cases h2
  | .tuple xs, b, h1, h2 => by
    cases b with
    | tuple ys =>
      show PyData.eqvAll xs ys = _
      rw [eqvs_nb xs ys h1 h2]
      simp
    | _ => first | rfl | cases h2
theorem eqvs_nb : ∀ (a b : List D), nbs a = true → nbs b = true → PyData.eqvAll a b = decide (a = b)
  | [], [], _, _ => rfl
  | [], _ :: _, _, _ => rfl
  | _ :: _, [], _, _ => rfl
  | x :: xs, y :: ys, h1, h2 => by
    unfold nbs at h1 h2
    rw [Bool.and_eq_true] at h1 h2
    unfold PyData.eqvAll
    rw [eqv_nb x y h1.1 h2.1, eqvs_nb xs ys h1.2 h2.2]
    by_cases e : x = y
    · by_cases e2 : xs = ys
      · simp [e, e2]
      · simp [e, e2]
    · simp [e]
end
theorem eq_nb {a b : D} (f1 : flat 60 a = true) (f2 : flat 60 b = true) (h1 : nb a = true) (h2 : nb b = true) : cmpop .eq a b = some (decide (a = b)) := by
  have : cmpop .eq a b = (if flat 60 a && flat 60 b then some (PyData.eqv a b) else none) := by cases a <;> rfl
  rw [this, f1, f2, eqv_nb a b h1 h2]
  rfl
theorem ne_nb {a b : D} (f1 : flat 60 a = true) (f2 : flat 60 b = true) (h1 : nb a = true) (h2 : nb b = true) : cmpop .ne a b = some (!decide (a = b)) := by
  have : cmpop .ne a b = (if flat 60 a && flat 60 b then some (!PyData.eqv a b) else none) := by cases a <;> rfl
  rw [this, f1, f2, eqv_nb a b h1 h2]
  rfl
/-! ### rankings that begin so -/
/-! ### the program's functions -/
end Eg

/-! Plain part: first and last rankings. By an AI agent. -/
namespace Eg
open PySem
/-! ### rankings in order -/
/-! ### one by one -/
def ends (n : Nat) (cs : List Con) (w : Bool) : Option (List Nat) := if w then (goods n cs).head? else (goods n cs).getLast?
end Eg

/-! Plain part: the program's first, last and following. By an AI agent. -/
namespace Eg
open PySem
def whichW (w : Bool) : Int := if w then 0 else -1
@[simp] theorem truth_R (r : List Nat) : truth (encR r) = some (!r.isEmpty) := by cases r <;> rfl
def S_extreme (F : Fns) : Prop := ∀ (n : Nat) (cs : List Con) (w : Bool) (M : Mem), (∀ c ∈ cs, c.ok n) → cs.length ≤ 12 → 1 ≤ n → n ≤ 7 → F "extreme" [.p (encP n cs), .p (.int (whichW w))] M = .ok (.p (encO (ends n cs w))) M
end Eg

/-! Plain part: law k30 answers True. By an AI agent. -/
namespace Eg
open PySem
end Eg

/-! Plain: the drawn problems of k44-k53. By an AI agent. -/
namespace Eg
open PySem
def d_law_con44 : Df := ⟨"_law_constraint", 2, 4, false,
  (.cons (.set (.nm 2) (.call "_law_next" (.cons (.var 0) (.cons (.var 1) .nil)))) (.cons (.ite (.and (.cons (.cmp .gt (.var 1) (.con (.int 1))) (.cons (.cmp .eq (.call "_law_next" (.cons (.var 0) (.cons (.con (.int 2)) .nil))) (.con (.int 1))) .nil))) (.cons (.ret (.tup (.cons (.con (.str "ahead")) (.cons (.var 2) (.cons (.bin .mod (.bi .int (.bin .add (.bin .add (.var 2) (.con (.int 1))) (.call "_law_next" (.cons (.var 0) (.cons (.bin .sub (.var 1) (.con (.int 1))) .nil))))) (.var 1)) .nil))))) .nil) .nil) (.cons (.set (.nm 3) (.bin .add (.con (.int 1)) (.call "_law_next" (.cons (.var 0) (.cons (.var 1) .nil))))) (.cons (.ret (.tup (.cons (.con (.str "within")) (.cons (.var 2) (.cons (.var 3) (.cons (.bin .add (.var 3) (.call "_law_next" (.cons (.var 0) (.cons (.bin .sub (.bin .add (.var 1) (.con (.int 1))) (.var 3)) .nil)))) .nil)))))) .nil))))⟩
theorem ok_lcon44 {defs : List Df} {a : Nat} (h : findD defs "_law_constraint" = some d_law_con44) (hn : At defs a S_next) : At defs (a + 1) S_lcon := At.succ fun m hm M i s n hM h1 h2 => by
  have hn := hn m hm
  rw [callF_at h rfl, d_law_con44]
  obtain ⟨d1, s1, b1, e1⟩ := hn.nat hM h1 (by omega)
  have hM1 := set_at hM (o := s1.mo)
  have W : ∀ (s2 : S), ∃ (c : Con) (s' : S), c.ok n ∧ fin false M.length (execs (callF whC defs m) whC (.cons (.set (.nm 3) (.bin .add (.con (.int 1)) (.call "_law_next" (.cons (.var 0) (.cons (.var 1) .nil))))) (.cons (.ret (.tup (.cons (.con (.str "within")) (.cons (.var 2) (.cons (.var 3) (.cons (.bin .add (.var 3) (.call "_law_next" (.cons (.var 0) (.cons (.bin .sub (.bin .add (.var 1) (.con (.int 1))) (.var 3)) .nil)))) .nil)))))) .nil)) [some (.r i), some (.p (.int n)), some (.p (.int d1)), none] (M.set i s2.mo)) = .ok (.p c.enc) (M.set i s'.mo) := by
    intro s2
    obtain ⟨d2, s3, b2, e2⟩ := hn.nat (set_at hM (o := s2.mo)) h1 (by omega)
    obtain ⟨d3, s4, b3, e3⟩ := hn.nat (many := n + 1 - (1 + d2)) (set_at (set_at hM (o := s2.mo)) (o := s3.mo)) (by omega) (by omega)
    have hc : ((n + 1 - (1 + d2) : Nat) : Int) = (n : Int) + 1 - (1 + d2) := by omega
    rw [hc] at e3
    rw [List.set_set] at e2 e3
    rw [List.set_set] at e3
    refine ⟨.within d1 (1 + d2) (1 + d2 + d3), s4, ⟨b1, by omega, by omega, by omega⟩, ?_⟩
    simp [run_mk, e2, e3, look, Con.enc]
  show ∃ c s', _ ∧ fin false M.length (execs (callF whC defs m) whC (.cons _ _) [some (.r i), some (.p (.int n)), none, none] M) = _
  rw [step (g1 := [some (.r i), some (.p (.int n)), some (.p (.int d1)), none]) (M1 := M.set i s1.mo) (by simp [run_mk, e1])]
  by_cases hb : 1 < n
  · have hb' : (1 : Int) < n := by omega
    obtain ⟨d0, s2, b0, e0⟩ := hn.nat (many := 2) hM1 (by omega) (by omega)
    have e0 : callF whC defs m "_law_next" [.r i, .p (.int 2)] (M.set i s1.mo) = .ok (.p (.int d0)) ((M.set i s1.mo).set i s2.mo) := e0
    rw [List.set_set] at e0
    have hM2 := set_at hM (o := s2.mo)
    by_cases hz : d0 = 1
    · subst hz
      obtain ⟨d2, s3, b2, e2⟩ := hn.nat (many := n - 1) hM2 (by omega) (by omega)
      have hc : ((n - 1 : Nat) : Int) = (n : Int) - 1 := by omega
      rw [hc, List.set_set] at e2
      have hne : (d1 + 1 + d2) % n < n := Nat.mod_lt _ (by omega)
      have hne2 : d1 ≠ (d1 + 1 + d2) % n := by
        by_cases z : d1 + 1 + d2 < n
        · rw [Nat.mod_eq_of_lt z]; omega
        · rw [Nat.mod_eq_sub_mod (by omega), Nat.mod_eq_of_lt (by omega)]; omega
      refine ⟨.ahead d1 ((d1 + 1 + d2) % n), s3, ⟨b1, hne, hne2⟩, ?_⟩
      have hn0 : ¬ (n = 0) := by omega
      have ei : ∀ (x : Int) (M : Mem), fBi .int M (.p (.int x)) = .ok (.p (.int x)) M := fun _ _ => rfl
      have e0 : callF whC defs m "_law_next" [.r i, .p (.int 2)] (M.set i s1.mo) = .ok (.p (.int 1)) (M.set i s2.mo) := e0
      simp [run_mk, e0, e2, look, hb', Con.enc, mod_i, hn0, ei, Int.fmod_eq_emod_of_nonneg]
    · have hz' : ¬ ((d0 : Int) = 1) := by omega
      rw [pass (M1 := M.set i s2.mo) (by simp [run_mk, e0, look, hb', hz', hz])]
      exact W s2
  · have hb' : ¬ (1 : Int) < n := by omega
    rw [pass (M1 := M.set i s1.mo) (by simp [run_mk, look, hb'])]
    exact W s1
end Eg

/-! Plain part: rankings sorted; what marks the one by deadlines; problems turned around. By an AI agent. -/
namespace Eg
open PySem
/-! ### sorting -/
/-! ### what marks the one by deadlines -/
/-! ### turned around -/
end Eg

/-! Plain part: problems as drawn (laws of windows). By an AI agent. -/
namespace Eg
open PySem
/-! ### problems, straight ones renamed -/
end Eg

/-! Plain part: steps, chains, cycles (laws of windows). By an AI agent. -/
namespace Eg
open PySem
/-! ### steps -/
/-! ### chains -/
def lastN (l : List Nat) : Nat := l.getLast?.getD 0
def adjC (cs : List Con) : List Nat → Prop
  | a :: b :: l => Con.ahead a b ∈ cs ∧ adjC cs (b :: l)
  | _ => True
theorem adj_snoc {cs : List Con} : ∀ {l : List Nat} {a b : Nat}, adjC cs (l ++ [a] ++ [b]) ↔ adjC cs (l ++ [a]) ∧ Con.ahead a b ∈ cs
  | [], a, b => by simp [adjC]
  | [x], a, b => by simp [adjC, and_assoc]
  | x :: y :: l, a, b => by
    have ih := adj_snoc (cs := cs) (l := y :: l) (a := a) (b := b)
    simp only [List.cons_append] at ih ⊢
    simp only [adjC, ih, and_assoc]
structure IsCh (n : Nat) (cs : List Con) (ch : List Nat) : Prop where
  ne : ch ≠ []
  nd : ch.Nodup
  lt : ∀ x ∈ ch, x < n
  ad : adjC cs ch
theorem lastN_snoc (l : List Nat) (a : Nat) : lastN (l ++ [a]) = a := by simp [lastN]
end Eg

/-! Plain part: cycles, rankings made by putting in (laws of windows). By an AI agent. -/
namespace Eg
open PySem
/-! ### cycles -/
theorem idx_app {l1 l2 : List Nat} {a b : Nat} (nd : (l1 ++ b :: l2).Nodup) (ha : a ∈ l1) : (l1 ++ b :: l2).idxOf a < (l1 ++ b :: l2).idxOf b := by
  obtain ⟨k, hk, e⟩ := List.getElem_of_mem ha
  have h1 : (l1 ++ b :: l2)[k]? = some a := by rw [List.getElem?_append_left hk, List.getElem?_eq_getElem hk, e]
  have h2 : (l1 ++ b :: l2)[l1.length]? = some b := by rw [List.getElem?_append_right (Nat.le_refl _)]; simp
  rw [idxOf_of_get nd h1, idxOf_of_get nd h2]
  exact hk
theorem cyc_pot {n : Nat} {cs : List Con} (hok : ∀ c ∈ cs, c.ok n) (h : cyclic n cs = false) : ∃ p : Nat → Nat, ∀ a b, Con.ahead a b ∈ cs → p a < p b := by
  have O := ord_of h
  refine ⟨fun x => (ordd n cs).idxOf x, fun a b hab => ?_⟩
  have hb := hok _ hab
  have hm : b ∈ ordd n cs := O.rk.mem.mpr hb.2.1
  obtain ⟨l1, l2, e⟩ := List.append_of_mem hm
  have := O.dep l1 b l2 e a (mem_bef.mpr ⟨hb.1, hab⟩)
  have nd := O.rk.nodup
  show (ordd n cs).idxOf a < (ordd n cs).idxOf b
  rw [e] at nd ⊢
  exact idx_app nd this
def headN (l : List Nat) : Nat := l.head?.getD 0
theorem lastN_cons (a b : Nat) (l : List Nat) : lastN (a :: b :: l) = lastN (b :: l) := by simp [lastN]
theorem adj_app_left {cs : List Con} : ∀ {l m : List Nat}, adjC cs (l ++ m) → adjC cs l
  | [], _, _ => trivial
  | [a], _, _ => trivial
  | a :: b :: l, m, h => ⟨h.1, adj_app_left (l := b :: l) h.2⟩
theorem grow {n : Nat} {cs : List Con} {left : List Nat} (h2 : ∀ i ∈ left, i < n) (h3 : ∀ i ∈ left, ∃ o ∈ left, Con.ahead o i ∈ cs) : ∀ (k : Nat) (ch : List Nat), n - ch.length = k → IsCh n cs ch → (∀ x ∈ ch, x ∈ left) → ∃ ch', IsCh n cs ch' ∧ Con.ahead (lastN ch') (headN ch') ∈ cs := by
  intro k
  induction k with
  | zero =>
    intro ch hk I hl
    obtain ⟨a, t, rfl⟩ := List.exists_cons_of_ne_nil I.ne
    obtain ⟨o, ho, hc⟩ := h3 a (hl a (by simp))
    by_cases hin : o ∈ a :: t
    · obtain ⟨l1, l2, e⟩ := List.append_of_mem hin
      refine ⟨l1 ++ [o], ⟨by simp, ?_, fun x hx => I.lt x ?_, ?_⟩, ?_⟩
      · have := I.nd
        rw [e, show l1 ++ o :: l2 = (l1 ++ [o]) ++ l2 by simp] at this
        exact (List.nodup_append.mp this).1
      · rw [e]
        rcases List.mem_append.mp hx with h | h
        · exact List.mem_append_left _ h
        · rw [List.mem_singleton.mp h]; simp
      · have := I.ad
        rw [e, show l1 ++ o :: l2 = (l1 ++ [o]) ++ l2 by simp] at this
        exact adj_app_left this
      · rw [lastN_snoc]
        have : headN (l1 ++ [o]) = a := by
          cases l1 with
          | nil => cases e; rfl
          | cons x l => cases e; rfl
        rw [this]
        exact hc
    · exfalso
      have h1 := nodup_le (o :: a :: t) (List.range n) (List.nodup_cons.mpr ⟨hin, I.nd⟩) fun x hx => List.mem_range.mpr (by
        rcases List.mem_cons.mp hx with rfl | hx
        · exact h2 _ ho
        · exact I.lt x hx)
      rw [List.length_range] at h1
      simp at h1 hk
      omega
  | succ k ih =>
    intro ch hk I hl
    obtain ⟨a, t, rfl⟩ := List.exists_cons_of_ne_nil I.ne
    obtain ⟨o, ho, hc⟩ := h3 a (hl a (by simp))
    by_cases hin : o ∈ a :: t
    · obtain ⟨l1, l2, e⟩ := List.append_of_mem hin
      refine ⟨l1 ++ [o], ⟨by simp, ?_, fun x hx => I.lt x ?_, ?_⟩, ?_⟩
      · have := I.nd
        rw [e, show l1 ++ o :: l2 = (l1 ++ [o]) ++ l2 by simp] at this
        exact (List.nodup_append.mp this).1
      · rw [e]
        rcases List.mem_append.mp hx with h | h
        · exact List.mem_append_left _ h
        · rw [List.mem_singleton.mp h]; simp
      · have := I.ad
        rw [e, show l1 ++ o :: l2 = (l1 ++ [o]) ++ l2 by simp] at this
        exact adj_app_left this
      · rw [lastN_snoc]
        have : headN (l1 ++ [o]) = a := by
          cases l1 with
          | nil => cases e; rfl
          | cons x l => cases e; rfl
        rw [this]
        exact hc
    · refine ih (o :: a :: t) (by simp at hk ⊢; omega) ⟨by simp, List.nodup_cons.mpr ⟨hin, I.nd⟩, fun x hx => ?_, ⟨hc, I.ad⟩⟩ fun x hx => ?_
      · rcases List.mem_cons.mp hx with rfl | hx
        · exact h2 _ ho
        · exact I.lt x hx
      · rcases List.mem_cons.mp hx with rfl | hx
        · exact ho
        · exact hl x hx
/-! ### is it a chain -/
/-! ### rankings, put together -/
end Eg

/-! Plain part: law k20 answers True. By an AI agent. -/
namespace Eg
open PySem
end Eg

/-! Plain part: lower and upper chains; law k15 answers True. By an AI agent. -/
namespace Eg
open PySem
theorem earl_att {n : Nat} {cs : List Con} (hok : ∀ c ∈ cs, c.ok n) (O : Ord n cs) {i : Nat} (hi : i < n) : gLow cs i = earl n cs i ∨ ∃ o ∈ bef n cs i, earl n cs o + 1 = earl n cs i := by
  by_cases h1 : gLow cs i = earl n cs i
  · exact .inl h1
  · by_cases h2 : ∃ o ∈ bef n cs i, earl n cs o + 1 = earl n cs i
    · exact .inr h2
    · exfalso
      have h0 := earl_low (n := n) (cs := cs) i
      have := earl_least O hok (p := fun j => if j = i then earl n cs i - 1 else earl n cs j) (fun j hj => by
        have := earl_low (n := n) (cs := cs) j
        by_cases z : j = i
        · subst z; rw [if_pos rfl]; omega
        · rw [if_neg z]; exact this) (fun a b hab => by
        have hc := hok _ hab
        have := earl_ahead O hc.1 hc.2.1 hab
        by_cases za : a = i
        · have zb : ¬ b = i := fun e => hc.2.2 (za.trans e.symm)
          subst za
          rw [if_pos rfl, if_neg zb]
          omega
        · rw [if_neg za]
          by_cases zb : b = i
          · subst zb
            rw [if_pos rfl]
            have : earl n cs a + 1 ≠ earl n cs b := fun e => h2 ⟨a, mem_bef.mpr ⟨hc.1, hab⟩, e⟩
            omega
          · rw [if_neg zb]; exact this) hi
      rw [if_pos rfl] at this
      omega
theorem late_att {n : Nat} {cs : List Con} (hok : ∀ c ∈ cs, c.ok n) (O : Ord n cs) {i : Nat} (hi : i < n) : gHigh n cs i = late n cs i ∨ ∃ o ∈ beh n cs i, late n cs o - 1 = late n cs i := by
  by_cases h1 : gHigh n cs i = late n cs i
  · exact .inl h1
  · by_cases h2 : ∃ o ∈ beh n cs i, late n cs o - 1 = late n cs i
    · exact .inr h2
    · exfalso
      have h0 := late_high (n := n) (cs := cs) i
      have := late_most O hok (p := fun j => if j = i then late n cs i + 1 else late n cs j) (fun j hj => by
        have := late_high (n := n) (cs := cs) j
        by_cases z : j = i
        · subst z; rw [if_pos rfl]; omega
        · rw [if_neg z]; exact this) (fun a b hab => by
        have hc := hok _ hab
        have := late_ahead O hc.1 hc.2.1 hab
        by_cases zb : b = i
        · have za : ¬ a = i := fun e => hc.2.2 (e.trans zb.symm)
          subst zb
          rw [if_pos rfl, if_neg za]
          omega
        · rw [if_neg zb]
          by_cases za : a = i
          · subst za
            rw [if_pos rfl]
            have : late n cs b - 1 ≠ late n cs a := fun e => h2 ⟨b, mem_beh.mpr ⟨hc.2.1, hab⟩, e⟩
            omega
          · rw [if_neg za]; exact this) hi
      rw [if_pos rfl] at this
      omega
/-! ### the lower chain -/
def nearL (n : Nat) (cs : List Con) (i : Nat) : List Nat := (bef n cs i).filter fun o => decide (earl n cs o + 1 = earl n cs i)
def nearU (n : Nat) (cs : List Con) (i : Nat) : List Nat := (beh n cs i).filter fun o => decide (late n cs o - 1 = late n cs i)
theorem headN_mem {l : List Nat} (h : l ≠ []) : headN l ∈ l := by
  cases l with
  | nil => exact absurd rfl h
  | cons a t => exact List.mem_cons_self
theorem lastN_mem {l : List Nat} (h : l ≠ []) : lastN l ∈ l := by
  unfold lastN
  rw [List.getLast?_eq_some_getLast h]
  exact List.getLast_mem h
theorem nearL_ok {n : Nat} {cs : List Con} (hok : ∀ c ∈ cs, c.ok n) (O : Ord n cs) {i : Nat} (hi : i < n) (h : gLow cs i ≠ earl n cs i) : nearL n cs i ≠ [] ∧ ∀ o ∈ nearL n cs i, o < n ∧ Con.ahead o i ∈ cs ∧ earl n cs o + 1 = earl n cs i := by
  constructor
  · rcases earl_att hok O hi with h1 | ⟨o, ho, e⟩
    · exact absurd h1 h
    · intro z
      have : o ∈ nearL n cs i := List.mem_filter.mpr ⟨ho, decide_eq_true e⟩
      rw [z] at this
      cases this
  · intro o ho
    obtain ⟨h1, h2⟩ := List.mem_filter.mp ho
    obtain ⟨h3, h4⟩ := mem_bef.mp h1
    exact ⟨h3, h4, of_decide_eq_true h2⟩
theorem nearU_ok {n : Nat} {cs : List Con} (hok : ∀ c ∈ cs, c.ok n) (O : Ord n cs) {i : Nat} (hi : i < n) (h : gHigh n cs i ≠ late n cs i) : nearU n cs i ≠ [] ∧ ∀ o ∈ nearU n cs i, o < n ∧ Con.ahead i o ∈ cs ∧ late n cs o - 1 = late n cs i := by
  constructor
  · rcases late_att hok O hi with h1 | ⟨o, ho, e⟩
    · exact absurd h1 h
    · intro z
      have : o ∈ nearU n cs i := List.mem_filter.mpr ⟨ho, decide_eq_true e⟩
      rw [z] at this
      cases this
  · intro o ho
    obtain ⟨h1, h2⟩ := List.mem_filter.mp ho
    obtain ⟨h3, h4⟩ := mem_beh.mp h1
    exact ⟨h3, h4, of_decide_eq_true h2⟩
/-- the last of a chain stays, the first one has its number -/
structure LoI (n : Nat) (cs : List Con) (i : Nat) (ch : List Nat) : Prop where
  ne : ch ≠ []
  lt : ∀ x ∈ ch, x < n
  ad : adjC cs ch
  la : lastN ch = i
  nu : earl n cs (headN ch) + ch.length - 1 = earl n cs i
structure UpI (n : Nat) (cs : List Con) (i : Nat) (ch : List Nat) : Prop where
  ne : ch ≠ []
  lt : ∀ x ∈ ch, x < n
  ad : adjC cs ch
  he : headN ch = i
  nu : late n cs (lastN ch) - ch.length + 1 = late n cs i
theorem adj_cons {cs : List Con} {o : Nat} {ch : List Nat} (h : ch ≠ []) : adjC cs (o :: ch) ↔ Con.ahead o (headN ch) ∈ cs ∧ adjC cs ch := by
  cases ch with
  | nil => exact absurd rfl h
  | cons a t => exact Iff.rfl
theorem adj_end {cs : List Con} {o : Nat} {ch : List Nat} (h : ch ≠ []) : adjC cs (ch ++ [o]) ↔ adjC cs ch ∧ Con.ahead (lastN ch) o ∈ cs := by
  have e := List.dropLast_concat_getLast h
  rw [← e, adj_snoc, lastN_snoc]
theorem LoI.step {n : Nat} {cs : List Con} (hok : ∀ c ∈ cs, c.ok n) (O : Ord n cs) {i : Nat} {ch : List Nat} (I : LoI n cs i ch) (h : gLow cs (headN ch) ≠ earl n cs (headN ch)) : LoI n cs i (headN (nearL n cs (headN ch)) :: ch) := by
  obtain ⟨h1, h2⟩ := nearL_ok hok O (I.lt _ (headN_mem I.ne)) h
  obtain ⟨h3, h4, h5⟩ := h2 _ (headN_mem h1)
  refine ⟨by simp, fun x hx => ?_, (adj_cons I.ne).mpr ⟨h4, I.ad⟩, ?_, ?_⟩
  · rcases List.mem_cons.mp hx with rfl | hx
    · exact h3
    · exact I.lt x hx
  · obtain ⟨a, t, rfl⟩ := List.exists_cons_of_ne_nil I.ne
    rw [lastN_cons]; exact I.la
  · have := I.nu
    show earl n cs (headN (nearL n cs (headN ch))) + ((ch.length + 1 : Nat) : Int) - 1 = _
    omega
theorem UpI.step {n : Nat} {cs : List Con} (hok : ∀ c ∈ cs, c.ok n) (O : Ord n cs) {i : Nat} {ch : List Nat} (I : UpI n cs i ch) (h : gHigh n cs (lastN ch) ≠ late n cs (lastN ch)) : UpI n cs i (ch ++ [headN (nearU n cs (lastN ch))]) := by
  obtain ⟨h1, h2⟩ := nearU_ok hok O (I.lt _ (lastN_mem I.ne)) h
  obtain ⟨h3, h4, h5⟩ := h2 _ (headN_mem h1)
  refine ⟨by simp, fun x hx => ?_, (adj_end I.ne).mpr ⟨I.ad, h4⟩, ?_, ?_⟩
  · rcases List.mem_append.mp hx with hx | hx
    · exact I.lt x hx
    · rw [List.mem_singleton.mp hx]; exact h3
  · obtain ⟨a, t, rfl⟩ := List.exists_cons_of_ne_nil I.ne
    exact I.he
  · have := I.nu
    rw [lastN_snoc, List.length_append, List.length_singleton]
    omega
theorem adj_nodup {cs : List Con} {p : Nat → Nat} (h : ∀ a b, Con.ahead a b ∈ cs → p a < p b) : ∀ {l : List Nat}, adjC cs l → l.Pairwise fun a b => p a < p b
  | [], _ => List.Pairwise.nil
  | [a], _ => List.pairwise_singleton _ _
  | a :: b :: l, ha => by
    have ih := adj_nodup h (l := b :: l) ha.2
    refine List.Pairwise.cons (fun x hx => ?_) ih
    have h1 := h a b ha.1
    rcases List.mem_cons.mp hx with rfl | hx
    · exact h1
    · have := (List.pairwise_cons.mp ih).1 x hx
      omega
theorem adj_isCh {n : Nat} {cs : List Con} (hok : ∀ c ∈ cs, c.ok n) (hcy : cyclic n cs = false) {l : List Nat} (h1 : l ≠ []) (h2 : ∀ x ∈ l, x < n) (h3 : adjC cs l) : IsCh n cs l := by
  obtain ⟨p, hp⟩ := cyc_pot hok hcy
  exact ⟨h1, (adj_nodup hp h3).imp fun h e => by rw [e] at h; exact absurd h (Nat.lt_irrefl _), h2, h3⟩
/-! ### the law's bounds -/
end Eg

/-! Plain part: lower and upper chains read; law k15 answers True. By an AI agent. -/
namespace Eg
open PySem
theorem LoI.len {n : Nat} {cs : List Con} (hok : ∀ c ∈ cs, c.ok n) (hcy : cyclic n cs = false) {i : Nat} {ch : List Nat} (J : LoI n cs i ch) : ch.length ≤ n := by
  have C := adj_isCh hok hcy J.ne J.lt J.ad
  have := nodup_le _ (List.range n) C.nd fun x hx => List.mem_range.mpr (C.lt x hx)
  rwa [List.length_range] at this
theorem UpI.len {n : Nat} {cs : List Con} (hok : ∀ c ∈ cs, c.ok n) (hcy : cyclic n cs = false) {i : Nat} {ch : List Nat} (J : UpI n cs i ch) : ch.length ≤ n := by
  have C := adj_isCh hok hcy J.ne J.lt J.ad
  have := nodup_le _ (List.range n) C.nd fun x hx => List.mem_range.mpr (C.lt x hx)
  rwa [List.length_range] at this
/-! ### the law's chains of bounds -/
/-! ### law k15 -/
end Eg

/-! Plain part: cycles told. By an AI agent. -/
namespace Eg
open PySem
/-! ### a list, as data or as an object -/
def LisV (M : Mem) (v : Vl) (L : List D) : Prop := v = .p (.list L) ∨ ∃ i, v = .r i ∧ M[i]? = some (.lst L)
theorem LisV.use {M : Mem} {v : Vl} {L : List D} (h : LisV M v L) : ∃ w : Wk, w.items = L ∧ (∀ X, walkOf (M ++ X) v = some w ∧ w.ok (M ++ X) = true) ∧ ∀ X, truV v (M ++ X) = .ok (!L.isEmpty) (M ++ X) := by
  rcases h with rfl | ⟨i, rfl, h⟩
  · exact ⟨⟨L, none⟩, rfl, fun X => ⟨rfl, rfl⟩, fun X => rfl⟩
  · have hX : ∀ X, (M ++ X)[i]? = some (.lst L) := fun X => by
      have hl := (List.getElem?_eq_some_iff.mp h).1
      rw [List.getElem?_append_left hl, h]
    refine ⟨⟨L, some i⟩, rfl, fun X => ⟨?_, ?_⟩, fun X => ?_⟩
    · unfold walkOf
      simp only [hX X]
    · show decide ((M ++ X)[i]? = some (.lst L)) = true
      exact decide_eq_true (hX X)
    · unfold truV
      rw [look_r _ _ _ (hX X)]
      rfl
/-! ### cycles from an item -/
/-- a chain of least item i, and the first -/
structure IsLf (n : Nat) (cs : List Con) (i : Nat) (r : List Nat) : Prop where
  ch : IsCh n cs r
  hd : headN r = i
  ge : ∀ x ∈ r, i ≤ x
end Eg

/-! Plain part: the least cycle; chains accepted. By an AI agent. -/
namespace Eg
open PySem
/-! ### least of pairs of a number and a ranking -/
/-! ### the told cycle -/
end Eg

/-! Plain part: rankings put together, chains of the program; law k16 answers True. By an AI agent. -/
namespace Eg
open PySem
/-! ### rankings put together -/
def LisB (b : Nat) (M : Mem) (v : Vl) (L : List D) : Prop := v = .p (.list L) ∨ ∃ i, b ≤ i ∧ v = .r i ∧ M[i]? = some (.lst L)
theorem LisB.lis {b : Nat} {M : Mem} {v : Vl} {L : List D} (h : LisB b M v L) : LisV M v L := h.imp id fun ⟨i, _, h1, h2⟩ => ⟨i, h1, h2⟩
end Eg

/-! Plain part: chains of the program; law k16 answers True. By an AI agent. -/
namespace Eg
open PySem
/-! ### law k16 -/
end Eg

/-! Plain part: chains of anything; law k19 answers True. By an AI agent. -/
namespace Eg
open PySem
/-! ### what is no tuple of items -/
/-! ### slices -/
end Eg

/-! Plain part: bounds accepted; law k18 answers True. By an AI agent. -/
namespace Eg
open PySem
end Eg

/-! Plain: refusals (windows); law k21. By an AI agent. -/
namespace Eg
open PySem
/-! ### expressions that are only looked up -/
mutual
def cex (σ : Sg) : Ex → Option D
  | .con d => some d
  | .var i => match σ[i]? with
    | some (some (.p d)) => some d
    | _ => none
  | .tup es => (cexs σ es).map .tuple
  | .lst es => (cexs σ es).map .list
  | .neg a => match cex σ a with
    | some (.int i) => some (.int (-i))
    | _ => none
  | .bin o a b => (cex σ a).bind fun x => (cex σ b).bind fun y => binop o x y
  | .ix a i => (cex σ a).bind fun x => (cex σ i).bind fun y => getIx x y
  | _ => none
def cexs (σ : Sg) : Exs → Option (List D)
  | .nil => some []
  | .cons e es => (cex σ e).bind fun d => (cexs σ es).map (d :: ·)
end
mutual
theorem cex_ok {F : Fns} {σ : Sg} {M : Mem} : ∀ {e : Ex} {d : D}, cex σ e = some d → ev F e σ M = .ok (.p d) M
  | .con d, d', h => by
    simp only [cex, Option.some.injEq] at h
    rw [ev_con, h]
  | .var i, d, h => by
    simp only [cex] at h
    split at h
    · rename_i d' e
      cases h
      rw [ev_var, e, vr_some]
    · cases h
  | .tup es, d, h => by
    simp only [cex] at h
    obtain ⟨ds, e, rfl⟩ := Option.map_eq_some_iff.mp h
    rw [ev_tup, cexs_ok e, th_ok, run_mk, plains_map]
    rfl
  | .lst es, d, h => by
    simp only [cex] at h
    obtain ⟨ds, e, rfl⟩ := Option.map_eq_some_iff.mp h
    rw [ev_lst, cexs_ok e, th_ok, run_mk, plains_map]
    rfl
  | .neg a, d, h => by
    simp only [cex] at h
    split at h
    · rename_i i e
      cases h
      rw [ev_neg, cex_ok e, th_ok, run_mk, negV_i]
    · cases h
  | .bin o a b, d, h => by
    simp only [cex] at h
    obtain ⟨x, e1, h⟩ := Option.bind_eq_some_iff.mp h
    obtain ⟨y, e2, h⟩ := Option.bind_eq_some_iff.mp h
    rw [ev_bin, cex_ok e1, th_ok, run_mk, cex_ok e2, th_ok, run_mk]
    simp only [look_p, Option.bind_some, h]
    rfl
  | .ix a b, d, h => by
    simp only [cex] at h
    obtain ⟨x, e1, h⟩ := Option.bind_eq_some_iff.mp h
    obtain ⟨y, e2, h⟩ := Option.bind_eq_some_iff.mp h
    rw [ev_ix, cex_ok e1, th_ok, run_mk, cex_ok e2, th_ok, run_mk]
    simp only [look_p, Option.bind_some, plain_p, h]
    rfl
  | .gcon _ _, _, h => by simp [cex] at h
  | .not _, _, h => by simp [cex] at h
  | .cmp _ _ _, _, h => by simp [cex] at h
  | .cmp2 _ _ _ _ _, _, h => by simp [cex] at h
  | .cmp3 _ _ _ _ _ _ _, _, h => by simp [cex] at h
  | .and _, _, h => by simp [cex] at h
  | .or _, _, h => by simp [cex] at h
  | .ite _ _ _, _, h => by simp [cex] at h
  | .sl _ _ _, _, h => by simp [cex] at h
  | .rev _, _, h => by simp [cex] at h
  | .bi _ _, _, h => by simp [cex] at h
  | .isi _ _, _, h => by simp [cex] at h
  | .rngl _ _, _, h => by simp [cex] at h
  | .lc _ _ _ _ _, _, h => by simp [cex] at h
  | .call _ _, _, h => by simp [cex] at h
  | .pop _ _, _, h => by simp [cex] at h
  | .srt _, _, h => by simp [cex] at h
  | .mm2 _ _ _, _, h => by simp [cex] at h
  | .idx _ _, _, h => by simp [cex] at h
  | .srs _, _, h => by simp [cex] at h
  | .dgi _ _, _, h => by simp [cex] at h
  | .dgt _ _ _, _, h => by simp [cex] at h
  | .dx _ _, _, h => by simp [cex] at h
  | .dg _ _ _, _, h => by simp [cex] at h
  | .srk _, _, h => by simp [cex] at h
  | .cnt _ _, _, h => by simp [cex] at h
  | .ldc _ _ _ _ _ _, _, h => by simp [cex] at h
theorem cexs_ok {F : Fns} {σ : Sg} {M : Mem} : ∀ {es : Exs} {ds : List D}, cexs σ es = some ds → evs F es σ M = .ok (ds.map .p) M
  | .nil, ds, h => by
    simp only [cexs, Option.some.injEq] at h
    rw [evs_nil, ← h]
    rfl
  | .cons e es, ds, h => by
    simp only [cexs] at h
    obtain ⟨d, e1, h⟩ := Option.bind_eq_some_iff.mp h
    obtain ⟨ds', e2, rfl⟩ := Option.map_eq_some_iff.mp h
    rw [evs_cons, cex_ok e1, th_ok, run_mk, cexs_ok e2, th_ok, run_mk]
    rfl
end
/-! ### refusals: the problem -/
abbrev exB1 (nm : Str) (M : Mem) : Rs Vl := .exc "BadValue" [("name", .str nm)] M
/-! ### the item -/
/-! ### a cyclic problem -/
/-! ### a number -/
/-! ### a try -/
theorem try_xc {F : Fns} {wh : Wh} {kn : List String} {b ss : Sms} {hs : List Hd} {g : Sg} {M : Mem} {c : String} {fs : List (String × D)} {d : D} (h : execs F wh b g M = some (.xc g c fs, M)) (hk : kn.contains c = true) (hc : catchX c fs hs g M = some (.rt (.p d), M)) : execs F wh (.cons (.tr kn b hs) ss) g M = some (.rt (.p d), M) := by
  rw [execs_cons, exec_tr, tr_xc h hk, hc]
  rfl
theorem try_rt {F : Fns} {wh : Wh} {kn : List String} {b ss : Sms} {hs : List Hd} {g : Sg} {M M1 : Mem} {v : Vl} (h : execs F wh b g M = some (.rt v, M1)) : execs F wh (.cons (.tr kn b hs) ss) g M = some (.rt v, M1) := by
  rw [execs_cons, exec_tr, tr_rt h]
  rfl
/-! ### law k21: what is asked -/
structure Ask21 (F : Fns) : Prop where
  bad : ∀ (k : Nat) (v w u : D) (M : Mem), k < 7 → Ok v → isProb v = false → F "_law_asked" [.p (nI k), .p v, .p w, .p u] M = .ok (.p (.tuple [.str "bad", .str "problem"])) M
  itm : ∀ (k n : Nat) (cs : List Con) (w u : D) (M : Mem), 2 ≤ k → k < 7 → 1 ≤ n → n ≤ 7 → cs.length ≤ 12 → (∀ c ∈ cs, c.ok n) → whole w 0 ((n : Int) - 1) = false → F "_law_asked" [.p (nI k), .p (encP n cs), .p w, .p u] M = .ok (.p (.tuple [.str "bad", .str "item"])) M
  low : ∀ (n : Nat) (cs : List Con) (i : Nat) (u : D) (M : Mem), 1 ≤ n → n ≤ 7 → cs.length ≤ 12 → (∀ c ∈ cs, c.ok n) → i < n → whole u (-20) 20 = false → F "_law_asked" [.p (nI 5), .p (encP n cs), .p (nI i), .p u] M = .ok (.p (.tuple [.str "bad", .str "low"])) M
  high : ∀ (n : Nat) (cs : List Con) (i : Nat) (u : D) (M : Mem), 1 ≤ n → n ≤ 7 → cs.length ≤ 12 → (∀ c ∈ cs, c.ok n) → i < n → whole u (-20) 20 = false → F "_law_asked" [.p (nI 6), .p (encP n cs), .p (nI i), .p u] M = .ok (.p (.tuple [.str "bad", .str "high"])) M
  cyc : ∀ (k n : Nat) (cs : List Con) (i : Nat) (u : D) (M : Mem), 2 ≤ k → k < 5 → 1 ≤ n → n ≤ 7 → cs.length ≤ 12 → (∀ c ∈ cs, c.ok n) → i < n → cyclic n cs = true → F "_law_asked" [.p (nI k), .p (encP n cs), .p (nI i), .p u] M = .ok (.p (.tuple [.str "not", .str "cyclic"])) M
  fls : ∀ (k n : Nat) (cs : List Con) (i : Nat) (u : Int) (M : Mem), 5 ≤ k → k < 7 → 1 ≤ n → n ≤ 7 → cs.length ≤ 12 → (∀ c ∈ cs, c.ok n) → i < n → -20 ≤ u → u ≤ 20 → F "_law_asked" [.p (nI k), .p (encP n cs), .p (nI i), .p (.int u)] M = .ok (.p (.bool false)) M
end Eg

/-! Plain: notebooks (k72), what the program does. By an AI agent. -/
namespace Eg
open PySem
def d_check_items72 : Df := ⟨"check_items", 1, 1, false,
  (.cons (.ite (.not (.call "is_whole" (.cons (.var 0) (.cons (.con (.int 1)) (.cons (.gcon "MOST_ITEMS" (.int 7)) .nil))))) (.cons (.rse "BadValue" ["name"] (.cons (.con (.str "items")) .nil)) .nil) .nil) .nil)⟩
def d_is_command72 : Df := ⟨"is_command", 2, 2, false,
  (.cons (.ite (.or (.cons (.not (.isi (.var 0) .tuple)) (.cons (.cmp .notin (.bi .len (.var 0)) (.tup (.cons (.con (.int 2)) (.cons (.con (.int 3)) .nil)))) (.cons (.not (.isi (.ix (.var 0) (.con (.int 0))) .str)) .nil)))) (.cons (.ret (.con (.bool false))) .nil) .nil) (.cons (.ite (.cmp .eq (.ix (.var 0) (.con (.int 0))) (.con (.str "report"))) (.cons (.ret (.and (.cons (.cmp .eq (.bi .len (.var 0)) (.con (.int 3))) (.cons (.call "is_whole" (.cons (.ix (.var 0) (.con (.int 1))) (.cons (.con (.int 0)) (.cons (.gcon "MOST_SOURCE" (.int 5)) .nil)))) (.cons (.call "is_constraint" (.cons (.var 1) (.cons (.ix (.var 0) (.con (.int 2))) .nil))) .nil))))) .nil) .nil) (.cons (.ite (.cmp .eq (.ix (.var 0) (.con (.int 0))) (.con (.str "see"))) (.cons (.ret (.and (.cons (.cmp .eq (.bi .len (.var 0)) (.con (.int 3))) (.cons (.call "is_whole" (.cons (.ix (.var 0) (.con (.int 1))) (.cons (.con (.int 0)) (.cons (.bin .sub (.var 1) (.con (.int 1))) .nil)))) (.cons (.call "is_whole" (.cons (.ix (.var 0) (.con (.int 2))) (.cons (.con (.int 1)) (.cons (.var 1) .nil)))) .nil))))) .nil) .nil) (.cons (.ite (.cmp .ne (.bi .len (.var 0)) (.con (.int 2))) (.cons (.ret (.con (.bool false))) .nil) .nil) (.cons (.ite (.cmp .eq (.ix (.var 0) (.con (.int 0))) (.con (.str "withdraw"))) (.cons (.ret (.call "is_whole" (.cons (.ix (.var 0) (.con (.int 1))) (.cons (.con (.int 0)) (.cons (.bin .sub (.gcon "MOST_CONSTRAINTS" (.int 12)) (.con (.int 1))) .nil))))) .nil) .nil) (.cons (.ite (.cmp .eq (.ix (.var 0) (.con (.int 0))) (.con (.str "discredit"))) (.cons (.ret (.call "is_whole" (.cons (.ix (.var 0) (.con (.int 1))) (.cons (.con (.int 0)) (.cons (.gcon "MOST_SOURCE" (.int 5)) .nil))))) .nil) .nil) (.cons (.ret (.and (.cons (.cmp .eq (.ix (.var 0) (.con (.int 0))) (.con (.str "watch"))) (.cons (.call "is_constraint" (.cons (.var 1) (.cons (.ix (.var 0) (.con (.int 1))) .nil))) .nil)))) .nil)))))))⟩
def d_with_entry72 : Df := ⟨"with_entry", 3, 5, false,
  (.cons (.set (.tp [3, 4]) (.var 0)) (.cons (.ite (.cmp .ge (.bi .len (.var 3)) (.gcon "MOST_CONSTRAINTS" (.int 12))) (.cons (.rse "NotPossible" ["why"] (.cons (.con (.str "full")) .nil)) .nil) .nil) (.cons (.ret (.tup (.cons (.bin .add (.var 3) (.tup (.cons (.tup (.cons (.var 1) (.cons (.var 2) (.cons (.con (.bool true)) .nil)))) .nil))) (.cons (.var 4) .nil)))) .nil)))⟩
def d_withdrawn72 : Df := ⟨"withdrawn", 2, 7, false,
  (.cons (.set (.tp [2, 3]) (.var 0)) (.cons (.ite (.cmp .ge (.var 1) (.bi .len (.var 2))) (.cons (.rse "NotPossible" ["why"] (.cons (.con (.str "missing")) .nil)) .nil) .nil) (.cons (.set (.tp [4, 5, 6]) (.ix (.var 2) (.var 1))) (.cons (.ite (.cmp .is_ (.var 4) (.con .none)) (.cons (.rse "NotPossible" ["why"] (.cons (.con (.str "seen")) .nil)) .nil) .nil) (.cons (.ite (.not (.var 6)) (.cons (.rse "NotPossible" ["why"] (.cons (.con (.str "inactive")) .nil)) .nil) .nil) (.cons (.ret (.tup (.cons (.bin .add (.bin .add (.sl (.var 2) .non (.som (.var 1))) (.tup (.cons (.tup (.cons (.var 4) (.cons (.var 5) (.cons (.con (.bool false)) .nil)))) .nil))) (.sl (.var 2) (.som (.bin .add (.var 1) (.con (.int 1)))) .non)) (.cons (.var 3) .nil)))) .nil))))))⟩
def d_discredited72 : Df := ⟨"discredited", 2, 8, false,
  (.cons (.set (.tp [3, 4]) (.var 0)) (.cons (.set (.nm 2) (.bi .tuple (.lc (.tup (.cons (.var 5) (.cons (.var 6) (.cons (.and (.cons (.var 7) (.cons (.cmp .ne (.var 5) (.var 1)) .nil))) .nil)))) (.tp [5, 6, 7]) (.sq (.var 3)) .nil [5, 6, 7]))) (.cons (.ite (.cmp .eq (.var 2) (.var 3)) (.cons (.rse "NotPossible" ["why"] (.cons (.con (.str "silent")) .nil)) .nil) .nil) (.cons (.ret (.tup (.cons (.var 2) (.cons (.var 4) .nil)))) .nil))))⟩
def d_behind72 : Df := ⟨"behind", 2, 3, false,
  (.cons (.set (.nm 2) (.ix (.var 1) (.con (.int 0)))) (.cons (.ite (.cmp .eq (.var 2) (.con (.str "report"))) (.cons (.ret (.call "with_entry" (.cons (.var 0) (.cons (.ix (.var 1) (.con (.int 1))) (.cons (.ix (.var 1) (.con (.int 2))) .nil))))) .nil) .nil) (.cons (.ite (.cmp .eq (.var 2) (.con (.str "see"))) (.cons (.ret (.call "with_entry" (.cons (.var 0) (.cons (.con .none) (.cons (.tup (.cons (.con (.str "within")) (.cons (.ix (.var 1) (.con (.int 1))) (.cons (.ix (.var 1) (.con (.int 2))) (.cons (.ix (.var 1) (.con (.int 2))) .nil))))) .nil))))) .nil) .nil) (.cons (.ite (.cmp .eq (.var 2) (.con (.str "withdraw"))) (.cons (.ret (.call "withdrawn" (.cons (.var 0) (.cons (.ix (.var 1) (.con (.int 1))) .nil)))) .nil) .nil) (.cons (.ite (.cmp .eq (.var 2) (.con (.str "discredit"))) (.cons (.ret (.call "discredited" (.cons (.var 0) (.cons (.ix (.var 1) (.con (.int 1))) .nil)))) .nil) .nil) (.cons (.ite (.cmp .ge (.bi .len (.ix (.var 0) (.con (.int 1)))) (.gcon "MOST_WATCHES" (.int 4))) (.cons (.rse "NotPossible" ["why"] (.cons (.con (.str "watches")) .nil)) .nil) .nil) (.cons (.ret (.tup (.cons (.ix (.var 0) (.con (.int 0))) (.cons (.bin .add (.ix (.var 0) (.con (.int 1))) (.tup (.cons (.ix (.var 1) (.con (.int 1))) .nil))) .nil)))) .nil)))))))⟩
def d_active_of72 : Df := ⟨"active_of", 1, 3, false,
  (.cons (.ret (.bi .tuple (.lc (.var 1) (.tp [1, 2]) (.enm (.ix (.var 0) (.con (.int 0)))) (.cons (.ix (.var 2) (.con (.int 2))) .nil) [1, 2]))) .nil)⟩
def d_problem_of72 : Df := ⟨"problem_of", 2, 5, false,
  (.cons (.ret (.tup (.cons (.var 0) (.cons (.bi .tuple (.lc (.var 3) (.tp [2, 3, 4]) (.sq (.ix (.var 1) (.con (.int 0)))) (.cons (.var 4) .nil) [2, 3, 4])) .nil)))) .nil)⟩

/-! ### notebooks -/
structure Ent where
  src : Option Nat
  con : Con
  act : Bool
  deriving DecidableEq
def encN : Option Nat → D
  | none => .none
  | some k => nI k
def Ent.enc (e : Ent) : D := .tuple [encN e.src, e.con.enc, .bool e.act]
structure NSt where
  es : List Ent
  ws : List Con
def NSt.enc (s : NSt) : D := .tuple [.tuple (s.es.map Ent.enc), .tuple (s.ws.map Con.enc)]
inductive Cmd where
  | report (s : Nat) (c : Con)
  | see (i p : Nat)
  | discredit (s : Nat)
  | watch (c : Con)
  | withdraw (k : Nat)
def Cmd.enc : Cmd → D
  | .report s c => .tuple [.str "report", nI s, c.enc]
  | .see i p => .tuple [.str "see", nI i, nI p]
  | .discredit s => .tuple [.str "discredit", nI s]
  | .watch c => .tuple [.str "watch", c.enc]
  | .withdraw k => .tuple [.str "withdraw", nI k]
def Cmd.ok (n : Nat) : Cmd → Prop
  | .report s c => s ≤ 5 ∧ c.ok n
  | .see i p => i < n ∧ 1 ≤ p ∧ p ≤ n
  | .discredit s => s ≤ 5
  | .watch c => c.ok n
  | .withdraw k => k ≤ 11
def discS (es : List Ent) (s : Nat) : List Ent := es.map fun e => { e with act := e.act && !decide (e.src = some s) }
def goneS (es : List Ent) (k : Nat) : List Ent := es.take k ++ ((es.drop k).take 1).map (fun e => { e with act := false }) ++ es.drop (k + 1)
def behS (s : NSt) : Cmd → NSt
  | .report k c => ⟨s.es ++ [⟨some k, c, true⟩], s.ws⟩
  | .see i p => ⟨s.es ++ [⟨none, .within i p p, true⟩], s.ws⟩
  | .discredit k => ⟨discS s.es k, s.ws⟩
  | .watch c => ⟨s.es, s.ws ++ [c]⟩
  | .withdraw k => ⟨goneS s.es k, s.ws⟩
def whyS (s : NSt) : Cmd → Option Str
  | .report _ _ => if s.es.length < 12 then none else some "full"
  | .see _ _ => if s.es.length < 12 then none else some "full"
  | .discredit k => if s.es.any (fun e => decide (e.src = some k) && e.act) then none else some "silent"
  | .watch _ => if s.ws.length < 4 then none else some "watches"
  | .withdraw k => match s.es[k]? with
    | none => some "missing"
    | some e => if e.src = none then some "seen" else if e.act then none else some "inactive"
/-! ### as data -/
theorem con_true72 {F : Fns} {n : Nat} {c : Con} (h : S_con F) (hc : c.ok n) (M : Mem) : F "is_constraint" [.p (nI n), .p c.enc] M = .ok (.p (.bool true)) M := by
  have := h n c.enc M (Ok_enc c)
  rwa [isCon_enc hc] at this
theorem con_inj72 {c d : Con} : c.enc = d.enc ↔ c = d := by
  refine ⟨fun h => ?_, fun h => by rw [h]⟩
  cases c with
  | ahead a b => cases d with
    | ahead a2 b2 =>
      injection h with h
      simp only [List.cons.injEq] at h
      rw [nI_inj h.2.1, nI_inj h.2.2.1]
    | within _ _ _ => injection h with h; simp at h
  | within a b e => cases d with
    | ahead _ _ => injection h with h; simp at h
    | within a2 b2 e2 =>
      injection h with h
      simp only [List.cons.injEq] at h
      rw [nI_inj h.2.1, nI_inj h.2.2.1, nI_inj h.2.2.2.1]
theorem encN_inj {a b : Option Nat} : encN a = encN b ↔ a = b := by
  cases a with
  | none => cases b with
    | none => exact ⟨fun _ => rfl, fun _ => rfl⟩
    | some y => exact ⟨fun h => (by cases h), fun h => (by cases h)⟩
  | some x => cases b with
    | none => exact ⟨fun h => (by cases h), fun h => (by cases h)⟩
    | some y => exact ⟨fun h => by rw [nI_inj (show nI x = nI y from h)], fun h => by rw [h]⟩
theorem flat_N (k : Nat) (o : Option Nat) : flat k (encN o) = true := by
  cases o with
  | none => cases k <;> rfl
  | some x => exact flat_int k x
theorem nb_N (o : Option Nat) : nb (encN o) = true := by cases o <;> rfl
theorem ne_N (o : Option Nat) (k : Nat) : cmpop .ne (encN o) (nI k) = some (!decide (o = some k)) := by
  rw [ne_nb (flat_N 60 o) (flat_int 60 k) (nb_N o) rfl]
  have : encN o = nI k ↔ o = some k := encN_inj (b := some k)
  rw [decide_eq_decide.mpr this]
theorem eq_N (o : Option Nat) (k : Nat) : cmpop .eq (encN o) (nI k) = some (decide (o = some k)) := by
  rw [eq_nb (flat_N 60 o) (flat_int 60 k) (nb_N o) rfl]
  have : encN o = nI k ↔ o = some k := encN_inj (b := some k)
  rw [decide_eq_decide.mpr this]
theorem nb_con72 (c : Con) : nb c.enc = true := by cases c <;> rfl
theorem eqv_Ent (a b : Ent) : PyData.eqv a.enc b.enc = decide (a = b) := by
  have h : PyData.eqv a.enc b.enc = (PyData.eqv (encN a.src) (encN b.src) && (PyData.eqv a.con.enc b.con.enc && (PyData.eqv (.bool a.act) (.bool b.act) && true))) := rfl
  rw [h, eqv_nb _ _ (nb_N _) (nb_N _), eqv_nb _ _ (nb_con72 _) (nb_con72 _)]
  obtain ⟨s, c, x⟩ := a
  obtain ⟨s2, c2, x2⟩ := b
  have hb : PyData.eqv (.bool x) (.bool x2) = decide (x = x2) := by cases x <;> cases x2 <;> rfl
  dsimp only
  rw [hb, show decide (encN s = encN s2) = decide (s = s2) from decide_eq_decide.mpr encN_inj, show decide (c.enc = c2.enc) = decide (c = c2) from decide_eq_decide.mpr con_inj72]
  by_cases h1 : s = s2 <;> by_cases h2 : c = c2 <;> by_cases h3 : x = x2 <;> simp [h1, h2, h3]
theorem eqvs_Ent : ∀ a b : List Ent, PyData.eqvAll (a.map Ent.enc) (b.map Ent.enc) = decide (a = b)
  | [], [] => rfl
  | [], _ :: _ => rfl
  | _ :: _, [] => rfl
  | x :: xs, y :: ys => by
    show (PyData.eqv x.enc y.enc && PyData.eqvAll (xs.map Ent.enc) (ys.map Ent.enc)) = _
    rw [eqv_Ent, eqvs_Ent xs ys]
    by_cases h1 : x = y <;> by_cases h2 : xs = ys <;> simp [h1, h2]
theorem flat_Ent (k : Nat) (e : Ent) : flat (k + 2) e.enc = true := by
  show (flat (k + 1) (encN e.src) && (flat (k + 1) e.con.enc && (flat (k + 1) (.bool e.act) && true))) = true
  rw [flat_N, flat_up _ (flat_enc e.con) (by omega : 1 ≤ k + 1)]
  rfl
theorem eq_Ents (a b : List Ent) : cmpop .eq (.tuple (a.map Ent.enc)) (.tuple (b.map Ent.enc)) = some (decide (a = b)) := by
  have f : ∀ l : List Ent, flat 60 (.tuple (l.map Ent.enc)) = true := fun l => by
    show flats 59 (l.map Ent.enc) = true
    refine flats_mem.mpr fun d hd => ?_
    obtain ⟨e, _, rfl⟩ := List.mem_map.mp hd
    exact flat_Ent 57 e
  show (if flat 60 _ && flat 60 _ then some (PyData.eqvAll _ _) else none) = _
  rw [f, f, eqvs_Ent]
  rfl
theorem sok72 : PyData.strOk "report" = true ∧ PyData.strOk "see" = true ∧ PyData.strOk "withdraw" = true ∧ PyData.strOk "discredit" = true ∧ PyData.strOk "watch" = true := by decide +kernel
/-! ### commands -/
def S_iscmd72 (F : Fns) : Prop := ∀ (n : Nat) (c : Cmd) (M : Mem), c.ok n → n ≤ 7 → F "is_command" [.p c.enc, .p (nI n)] M = .ok (.p (.bool true)) M
theorem ok_iscmd72 {defs : List Df} {a : Nat} (h : findD defs "is_command" = some d_is_command72) (h1 : At defs a S_whole) (h2 : At defs a S_con) : At defs (a + 1) S_iscmd72 := At.succ fun m hm n c M hc hn => by
  have h1 := h1 m hm
  have h2 := h2 m hm
  obtain ⟨k1, k2, k3, k4, k5⟩ := sok72
  have n2 : cmpop .notin (.int 2) (.tuple [.int 2, .int 3]) = some false := by decide +kernel
  have n3 : cmpop .notin (.int 3) (.tuple [.int 2, .int 3]) = some false := by decide +kernel
  have ts : ∀ w : Str, isTy .str (.str w) = true := fun _ => rfl
  rw [callF_at h rfl, d_is_command72]
  cases c with
  | report s c =>
    have g0 : getIx (Cmd.enc (.report s c)) (.int 0) = some (.str "report") := rfl
    have g1 : getIx (Cmd.enc (.report s c)) (.int 1) = some (nI s) := rfl
    have g2 : getIx (Cmd.enc (.report s c)) (.int 2) = some c.enc := rfl
    have t0 : isTy .tuple (Cmd.enc (.report s c)) = true := rfl
    have ln : fBi .len M (.p (Cmd.enc (.report s c))) = .ok (.p (.int 3)) M := rfl
    have e0 : cmpop .eq (.str "report") (.str "report") = some true := by decide +kernel
    have q1 := h1 (nI s) 0 5 M
    rw [show whole (nI s) 0 5 = true by have := hc.1; simp [whole]; omega] at q1
    have q2 := con_true72 h2 hc.2 M
    generalize c.enc = CE at *
    generalize Cmd.enc (.report s _) = E at *
    generalize nI s = S at *
    generalize nI n = N at *
    simp [startG, List.replicate, run_mk, look, ts, g0, g1, g2, t0, ln, e0, q1, q2, n3]
  | see i p =>
    have g0 : getIx (Cmd.enc (.see i p)) (.int 0) = some (.str "see") := rfl
    have g1 : getIx (Cmd.enc (.see i p)) (.int 1) = some (nI i) := rfl
    have g2 : getIx (Cmd.enc (.see i p)) (.int 2) = some (nI p) := rfl
    have t0 : isTy .tuple (Cmd.enc (.see i p)) = true := rfl
    have ln : fBi .len M (.p (Cmd.enc (.see i p))) = .ok (.p (.int 3)) M := rfl
    have e0 : cmpop .eq (.str "see") (.str "report") = some false := by decide +kernel
    have e1 : cmpop .eq (.str "see") (.str "see") = some true := by decide +kernel
    have q1 := h1 (nI i) 0 ((n : Int) - 1) M
    rw [whole_item hc.1] at q1
    have q2 := h1 (nI p) 1 (n : Int) M
    rw [show whole (nI p) 1 (n : Int) = true by have := hc.2; simp [whole]; omega] at q2
    have sb : binop .sub (nI n) (.int 1) = some (.int ((n : Int) - 1)) := rfl
    have q2 : callF whC defs m "is_whole" [.p (nI p), .p (.int 1), .p (nI n)] M = _ := q2
    generalize Cmd.enc (.see i p) = E at *
    generalize nI i = S at *
    generalize nI p = P at *
    generalize nI n = N at *
    simp [startG, List.replicate, run_mk, look, ts, g0, g1, g2, t0, ln, e0, e1, q1, q2, n3, sb]
  | discredit s =>
    have g0 : getIx (Cmd.enc (.discredit s)) (.int 0) = some (.str "discredit") := rfl
    have g1 : getIx (Cmd.enc (.discredit s)) (.int 1) = some (nI s) := rfl
    have t0 : isTy .tuple (Cmd.enc (.discredit s)) = true := rfl
    have ln : fBi .len M (.p (Cmd.enc (.discredit s))) = .ok (.p (.int 2)) M := rfl
    have e0 : cmpop .eq (.str "discredit") (.str "report") = some false := by decide +kernel
    have e1 : cmpop .eq (.str "discredit") (.str "see") = some false := by decide +kernel
    have e2 : cmpop .eq (.str "discredit") (.str "withdraw") = some false := by decide +kernel
    have e3 : cmpop .eq (.str "discredit") (.str "discredit") = some true := by decide +kernel
    have q1 := h1 (nI s) 0 5 M
    rw [show whole (nI s) 0 5 = true by have : s ≤ 5 := hc; simp [whole]; omega] at q1
    generalize Cmd.enc (.discredit s) = E at *
    generalize nI s = S at *
    generalize nI n = N at *
    simp [startG, List.replicate, run_mk, look, ts, g0, g1, t0, ln, e0, e1, e2, e3, q1, n2]
  | watch c =>
    have g0 : getIx (Cmd.enc (.watch c)) (.int 0) = some (.str "watch") := rfl
    have g1 : getIx (Cmd.enc (.watch c)) (.int 1) = some c.enc := rfl
    have t0 : isTy .tuple (Cmd.enc (.watch c)) = true := rfl
    have ln : fBi .len M (.p (Cmd.enc (.watch c))) = .ok (.p (.int 2)) M := rfl
    have e0 : cmpop .eq (.str "watch") (.str "report") = some false := by decide +kernel
    have e1 : cmpop .eq (.str "watch") (.str "see") = some false := by decide +kernel
    have e2 : cmpop .eq (.str "watch") (.str "withdraw") = some false := by decide +kernel
    have e3 : cmpop .eq (.str "watch") (.str "discredit") = some false := by decide +kernel
    have e4 : cmpop .eq (.str "watch") (.str "watch") = some true := by decide +kernel
    have q2 := con_true72 h2 hc M
    generalize Cmd.enc (.watch c) = E at *
    generalize c.enc = CE at *
    generalize nI n = N at *
    simp [startG, List.replicate, run_mk, look, ts, g0, g1, t0, ln, e0, e1, e2, e3, e4, q2, n2]
  | withdraw k =>
    have g0 : getIx (Cmd.enc (.withdraw k)) (.int 0) = some (.str "withdraw") := rfl
    have g1 : getIx (Cmd.enc (.withdraw k)) (.int 1) = some (nI k) := rfl
    have t0 : isTy .tuple (Cmd.enc (.withdraw k)) = true := rfl
    have ln : fBi .len M (.p (Cmd.enc (.withdraw k))) = .ok (.p (.int 2)) M := rfl
    have e0 : cmpop .eq (.str "withdraw") (.str "report") = some false := by decide +kernel
    have e1 : cmpop .eq (.str "withdraw") (.str "see") = some false := by decide +kernel
    have e2 : cmpop .eq (.str "withdraw") (.str "withdraw") = some true := by decide +kernel
    have q1 := h1 (nI k) 0 11 M
    rw [show whole (nI k) 0 11 = true by have : k ≤ 11 := hc; simp [whole]; omega] at q1
    generalize Cmd.enc (.withdraw k) = E at *
    generalize nI k = S at *
    generalize nI n = N at *
    simp [startG, List.replicate, run_mk, look, ts, g0, g1, t0, ln, e0, e1, e2, q1, n2]
end Eg

/-! Plain: notebooks (k72), what a command leads to. By an AI agent. -/
namespace Eg
open PySem
theorem cut_take72 (ds : List D) (k : Nat) : getSl (.tuple ds) none (some (k : Int)) = some (.tuple (ds.take k)) := by
  show some (PyData.tuple (cut ds none (some (k : Int)))) = _
  unfold cut clip
  have e : ¬ ((k : Int) < 0) := by omega
  simp [e]
theorem cut_drop72 (ds : List D) (k : Nat) : getSl (.tuple ds) (some (k : Int)) none = some (.tuple (ds.drop k)) := by
  show some (PyData.tuple (cut ds (some (k : Int)) none)) = _
  unfold cut clip
  have e : ¬ ((k : Int) < 0) := by omega
  simp only [e, if_false, Int.toNat_natCast]
  congr 2
  rw [List.take_of_length_le (by rw [List.length_drop]; simp)]
  by_cases h : k ≤ ds.length
  · rw [Nat.min_eq_left h]
  · rw [Nat.min_eq_right (by omega), List.drop_eq_nil_of_le (Nat.le_refl _), List.drop_eq_nil_of_le (by omega)]
theorem ix_t72 {α : Type} {f : α → D} {l : List α} {k : Nat} {x : α} (h : l[k]? = some x) : getIx (.tuple (l.map f)) (nI k) = some (f x) := by
  have hk := (List.getElem?_eq_some_iff.mp h).1
  show ((place (l.map f).length (k : Int)).bind fun k => (l.map f)[k]?) = _
  rw [place_nat (by simpa using hk)]
  simp [h]
def outB (s : NSt) (c : Cmd) (M : Mem) : Rs Vl := match whyS s c with
  | none => .ok (.p (behS s c).enc) M
  | some w => .exc "NotPossible" [("why", .str w)] M
def S_wentry72 (F : Fns) : Prop := ∀ (s : NSt) (o : Option Nat) (c : Con) (M : Mem), s.es.length ≤ 100 → F "with_entry" [.p s.enc, .p (encN o), .p c.enc] M = if s.es.length < 12 then .ok (.p (NSt.enc ⟨s.es ++ [⟨o, c, true⟩], s.ws⟩)) M else .exc "NotPossible" [("why", .str "full")] M
theorem ok_wentry72 {defs : List Df} (h : findD defs "with_entry" = some d_with_entry72) : At defs 1 S_wentry72 := At.succ fun m hm s o c M hl => by
  rw [callF_at h rfl, d_with_entry72]
  have eS : s.enc = .tuple [.tuple (s.es.map Ent.enc), .tuple (s.ws.map Con.enc)] := rfl
  have ln := len_t (ds := s.es.map Ent.enc) (M := M)
  rw [List.length_map] at ln
  have hadd : binop .add (.tuple (s.es.map Ent.enc)) (.tuple [.tuple [encN o, c.enc, .bool true]]) = some (.tuple ((s.es ++ [(⟨o, c, true⟩ : Ent)]).map Ent.enc)) := by
    rw [add_t, if_pos (by rw [line_big, List.length_map]; simp; omega), List.map_append]
    rfl
  have eR : NSt.enc ⟨s.es ++ [⟨o, c, true⟩], s.ws⟩ = .tuple [.tuple ((s.es ++ [(⟨o, c, true⟩ : Ent)]).map Ent.enc), .tuple (s.ws.map Con.enc)] := rfl
  rw [eR, eS]
  generalize PyData.tuple ((s.es ++ [(⟨o, c, true⟩ : Ent)]).map Ent.enc) = E2 at *
  generalize PyData.tuple (s.es.map Ent.enc) = E1 at *
  generalize PyData.tuple (s.ws.map Con.enc) = W1 at *
  generalize c.enc = CE at *
  generalize encN o = ON at *
  by_cases z : s.es.length < 12
  · rw [if_pos z]
    have z2 : ¬ (12 : Int) ≤ s.es.length := by omega
    simp [startG, List.replicate, run_mk, look, putAll, ln, z2, hadd]
  · rw [if_neg z]
    have z2 : (12 : Int) ≤ s.es.length := by omega
    simp [startG, List.replicate, run_mk, look, putAll, ln, z2]
def S_wdrawn72 (F : Fns) : Prop := ∀ (s : NSt) (k : Nat) (M : Mem), s.es.length ≤ 100 → F "withdrawn" [.p s.enc, .p (nI k)] M = outB s (.withdraw k) M
theorem ok_wdrawn72 {defs : List Df} (h : findD defs "withdrawn" = some d_withdrawn72) : At defs 1 S_wdrawn72 := At.succ fun m hm s k M hl => by
  rw [callF_at h rfl, d_withdrawn72]
  have eS : s.enc = .tuple [.tuple (s.es.map Ent.enc), .tuple (s.ws.map Con.enc)] := rfl
  have ln := len_t (ds := s.es.map Ent.enc) (M := M)
  rw [List.length_map] at ln
  have eR : (behS s (.withdraw k)).enc = .tuple [.tuple ((goneS s.es k).map Ent.enc), .tuple (s.ws.map Con.enc)] := rfl
  unfold outB
  rw [eR, eS]
  show fin false M.length (execs (callF whC defs m) whC (.cons _ _) [some (.p (.tuple [.tuple (s.es.map Ent.enc), .tuple (s.ws.map Con.enc)])), some (.p (nI k)), none, none, none, none, none] M) = _
  cases e : s.es[k]? with
  | none =>
    have z2 : (s.es.length : Int) ≤ k := by have := List.getElem?_eq_none_iff.mp e; omega
    rw [show whyS s (.withdraw k) = some ("missing" : Str) by simp only [whyS, e]]
    generalize PyData.tuple (s.es.map Ent.enc) = E1 at *
    generalize PyData.tuple (s.ws.map Con.enc) = W1 at *
    simp [run_mk, look, putAll, ln, z2]
  | some x =>
    obtain ⟨hk, hx⟩ := List.getElem?_eq_some_iff.mp e
    have z2 : ¬ (s.es.length : Int) ≤ k := by omega
    have q0 := ix_t72 (f := Ent.enc) e
    have q1 : getSl (.tuple (s.es.map Ent.enc)) none (some (k : Int)) = some (.tuple ((s.es.take k).map Ent.enc)) := by rw [cut_take72, List.map_take]
    have q2 : getSl (.tuple (s.es.map Ent.enc)) (some ((k : Int) + 1)) none = some (.tuple ((s.es.drop (k + 1)).map Ent.enc)) := by
      rw [show ((k : Int) + 1) = ((k + 1 : Nat) : Int) by omega, cut_drop72, List.map_drop]
    have eg : goneS s.es k = s.es.take k ++ [({ x with act := false } : Ent)] ++ s.es.drop (k + 1) := by
      unfold goneS
      rw [List.drop_eq_getElem_cons hk, hx]
      rfl
    have b1 : (s.es.take k).length ≤ 100 := by rw [List.length_take]; omega
    have b2 : (s.es.drop (k + 1)).length ≤ 100 := by rw [List.length_drop]; omega
    have q3 : binop .add (.tuple ((s.es.take k).map Ent.enc)) (.tuple [.tuple [encN x.src, x.con.enc, .bool false]]) = some (.tuple ((s.es.take k ++ [({ x with act := false } : Ent)]).map Ent.enc)) := by
      rw [add_t, if_pos (by rw [line_big, List.length_map]; simp only [List.length_singleton]; omega), List.map_append]
      rfl
    have q4 : binop .add (.tuple ((s.es.take k ++ [({ x with act := false } : Ent)]).map Ent.enc)) (.tuple ((s.es.drop (k + 1)).map Ent.enc)) = some (.tuple ((goneS s.es k).map Ent.enc)) := by
      rw [eg, add_t, if_pos (by rw [line_big, List.length_map, List.length_map, List.length_append, List.length_singleton]; omega), ← List.map_append]
    have eE : x.enc = .tuple [encN x.src, x.con.enc, .bool x.act] := rfl
    rw [eE] at q0
    have q0 : getIx (.tuple (s.es.map Ent.enc)) (.int (k : Int)) = some (.tuple [encN x.src, x.con.enc, .bool x.act]) := q0
    generalize PyData.tuple ((goneS s.es k).map Ent.enc) = G1 at *
    generalize PyData.tuple ((s.es.take k ++ [({ x with act := false } : Ent)]).map Ent.enc) = A1 at *
    generalize PyData.tuple ((s.es.take k).map Ent.enc) = T1 at *
    generalize PyData.tuple ((s.es.drop (k + 1)).map Ent.enc) = D1 at *
    generalize PyData.tuple (s.es.map Ent.enc) = E1 at *
    generalize PyData.tuple (s.ws.map Con.enc) = W1 at *
    generalize x.con.enc = CE at *
    by_cases z3 : x.src = none
    · rw [show whyS s (.withdraw k) = some ("seen" : Str) by simp only [whyS, e, if_pos z3]]
      have q5 : encN x.src = .none := by rw [z3]; rfl
      generalize encN x.src = ON at *
      simp [run_mk, look, putAll, ln, z2, q0, q5]
    · have q5 : ¬ encN x.src = .none := fun w => z3 ((encN_inj (b := none)).mp w)
      generalize encN x.src = ON at *
      cases z4 : x.act with
      | true =>
        rw [z4] at q0
        rw [show whyS s (.withdraw k) = none by simp only [whyS, e, if_neg z3, z4, if_true]]
        simp [run_mk, look, putAll, ln, z2, q0, q5, q1, q2, q3, q4]
      | false =>
        rw [z4] at q0
        rw [show whyS s (.withdraw k) = some ("inactive" : Str) by simp [whyS, e, z3, z4]]
        simp [run_mk, look, putAll, ln, z2, q0, q5]
theorem disc_same (es : List Ent) (k : Nat) : discS es k = es ↔ es.any (fun e => decide (e.src = some k) && e.act) = false := by
  unfold discS
  induction es with
  | nil => simp
  | cons e es ih =>
    rw [List.map_cons, List.any_cons, Bool.or_eq_false_iff, ← ih]
    rw [List.cons.injEq]
    refine and_congr_left fun _ => ?_
    obtain ⟨s, c, x⟩ := e
    by_cases h : s = some k <;> cases x <;> simp [h]
def S_discr72 (F : Fns) : Prop := ∀ (s : NSt) (k : Nat) (M : Mem), s.es.length ≤ 100 → F "discredited" [.p s.enc, .p (nI k)] M = outB s (.discredit k) M
theorem ok_discr72 {defs : List Df} (h : findD defs "discredited" = some d_discredited72) : At defs 1 S_discr72 := At.succ fun m hm s k M hl => by
  rw [callF_at h rfl, d_discredited72]
  have eS : s.enc = .tuple [.tuple (s.es.map Ent.enc), .tuple (s.ws.map Con.enc)] := rfl
  have eR : (behS s (.discredit k)).enc = .tuple [.tuple ((discS s.es k).map Ent.enc), .tuple (s.ws.map Con.enc)] := rfl
  unfold outB
  rw [eR, eS]
  show fin false M.length (execs (callF whC defs m) whC (.cons _ _) [some (.p (.tuple [.tuple (s.es.map Ent.enc), .tuple (s.ws.map Con.enc)])), some (.p (nI k)), none, none, none, none, none, none] M) = _
  have l1 : lcR (callF whC defs m) [5, 6, 7] (.tp [5, 6, 7]) .nil (.tup (.cons (.var 5) (.cons (.var 6) (.cons (.and (.cons (.var 7) (.cons (.cmp .ne (.var 5) (.var 1)) .nil))) .nil)))) ⟨s.es.map Ent.enc, none⟩ [some (.p (.tuple [.tuple (s.es.map Ent.enc), .tuple (s.ws.map Con.enc)])), some (.p (nI k)), none, some (.p (.tuple (s.es.map Ent.enc))), some (.p (.tuple (s.ws.map Con.enc))), none, none, none] M = .ok ((discS s.es k).map Ent.enc) M := by
    unfold discS
    rw [List.map_map]
    refine lcR_mp Ent.enc (Ent.enc ∘ fun e => { e with act := e.act && !decide (e.src = some k) }) (by rw [line_big]; omega) fun e _ => ?_
    have q := ne_N e.src k
    have eE : e.enc = .tuple [encN e.src, e.con.enc, .bool e.act] := rfl
    show stp _ _ _ _ _ _ e.enc _ = Rs.ok [.tuple [encN e.src, e.con.enc, .bool (e.act && !decide (e.src = some k))]] M
    rw [eE]
    generalize PyData.tuple (s.es.map Ent.enc) = E1 at *
    generalize PyData.tuple (s.ws.map Con.enc) = W1 at *
    generalize e.con.enc = CE at *
    generalize encN e.src = ON at *
    generalize nI k = NK at *
    cases z : e.act with
    | true => simp [stp, fStep, store, putAll, wipe, run_mk, look, q]
    | false => simp [stp, fStep, store, putAll, wipe, run_mk, look]
  have wk : walkOf M (.p (.tuple (s.es.map Ent.enc))) = some ⟨s.es.map Ent.enc, none⟩ := rfl
  have tb : ∀ (ds : List D) (M : Mem), fBi .tuple M (.p (.list ds)) = .ok (.p (.tuple ds)) M := fun _ _ => rfl
  have q1 := eq_Ents (discS s.es k) s.es
  cases z : s.es.any (fun e => decide (e.src = some k) && e.act) with
  | false =>
    rw [decide_eq_true ((disc_same s.es k).mpr z)] at q1
    rw [show whyS s (.discredit k) = some ("silent" : Str) by simp only [whyS, z]; rfl]
    generalize (discS s.es k).map Ent.enc = D1 at *
    generalize s.es.map Ent.enc = E1 at *
    generalize PyData.tuple (s.ws.map Con.enc) = W1 at *
    simp [run_mk, look, putAll, wk, l1, tb, q1]
  | true =>
    rw [decide_eq_false (fun w => by rw [(disc_same s.es k).mp w] at z; cases z)] at q1
    rw [show whyS s (.discredit k) = none by simp only [whyS, z, if_true]]
    generalize (discS s.es k).map Ent.enc = D1 at *
    generalize s.es.map Ent.enc = E1 at *
    generalize PyData.tuple (s.ws.map Con.enc) = W1 at *
    simp [run_mk, look, putAll, wk, l1, tb, q1]
def S_beh72 (F : Fns) : Prop := ∀ (s : NSt) (c : Cmd) (M : Mem), s.es.length ≤ 100 → s.ws.length ≤ 100 → F "behind" [.p s.enc, .p c.enc] M = outB s c M
theorem ok_beh72 {defs : List Df} {a0 : Nat} (h : findD defs "behind" = some d_behind72) (h1 : At defs a0 S_wentry72) (h2 : At defs a0 S_wdrawn72) (h3 : At defs a0 S_discr72) : At defs (a0 + 1) S_beh72 := At.succ fun m hm s c M hl hw => by
  have h1 := h1 m hm s
  have h2 := h2 m hm s
  have h3 := h3 m hm s
  rw [callF_at h rfl, d_behind72]
  have e0 : ∀ (x y : Str) (b : Bool), PyData.strOk x = true → PyData.strOk y = true → decide (x = y) = b → cmpop .eq (.str x) (.str y) = some b := fun x y b hx hy e => by rw [eq_s hx hy, e]
  cases c with
  | report k c =>
    have g0 : getIx (Cmd.enc (.report k c)) (.int 0) = some (.str "report") := rfl
    have g1 : getIx (Cmd.enc (.report k c)) (.int 1) = some (nI k) := rfl
    have g2 : getIx (Cmd.enc (.report k c)) (.int 2) = some c.enc := rfl
    have e0 : cmpop .eq (.str "report") (.str "report") = some true := by decide +kernel
    have q := h1 (some k) c M hl
    have q : callF whC defs m "with_entry" [.p s.enc, .p (nI k), .p c.enc] M = outB s (.report k c) M := by
      show callF whC defs m "with_entry" [.p s.enc, .p (encN (some k)), .p c.enc] M = _
      rw [q]
      unfold outB whyS
      split <;> rfl
    unfold outB at q ⊢
    generalize (behS s (.report k c)).enc = BE at *
    generalize Cmd.enc (.report k c) = E at *
    generalize s.enc = SE at *
    generalize nI k = NK at *
    generalize c.enc = CE at *
    cases w : whyS s (.report k c) with
    | none => rw [w] at q; simp [startG, List.replicate, run_mk, look, g0, g1, g2, e0, q]
    | some x => rw [w] at q; simp [startG, List.replicate, run_mk, look, g0, g1, g2, e0, q]
  | see i p =>
    have g0 : getIx (Cmd.enc (.see i p)) (.int 0) = some (.str "see") := rfl
    have g1 : getIx (Cmd.enc (.see i p)) (.int 1) = some (nI i) := rfl
    have g2 : getIx (Cmd.enc (.see i p)) (.int 2) = some (nI p) := rfl
    have e0 : cmpop .eq (.str "see") (.str "report") = some false := by decide +kernel
    have e1 : cmpop .eq (.str "see") (.str "see") = some true := by decide +kernel
    have q := h1 none (.within i p p) M hl
    have q : callF whC defs m "with_entry" [.p s.enc, .p .none, .p (.tuple [.str "within", nI i, nI p, nI p])] M = outB s (.see i p) M := by
      show callF whC defs m "with_entry" [.p s.enc, .p (encN none), .p (Con.enc (.within i p p))] M = _
      rw [q]
      unfold outB whyS
      split <;> rfl
    unfold outB at q ⊢
    generalize (behS s (.see i p)).enc = BE at *
    generalize Cmd.enc (.see i p) = E at *
    generalize s.enc = SE at *
    generalize nI i = NK at *
    generalize nI p = NP at *
    cases w : whyS s (.see i p) with
    | none => rw [w] at q; simp [startG, List.replicate, run_mk, look, g0, g1, g2, e0, e1, q]
    | some x => rw [w] at q; simp [startG, List.replicate, run_mk, look, g0, g1, g2, e0, e1, q]
  | discredit k =>
    have g0 : getIx (Cmd.enc (.discredit k)) (.int 0) = some (.str "discredit") := rfl
    have g1 : getIx (Cmd.enc (.discredit k)) (.int 1) = some (nI k) := rfl
    have e0 : cmpop .eq (.str "discredit") (.str "report") = some false := by decide +kernel
    have e1 : cmpop .eq (.str "discredit") (.str "see") = some false := by decide +kernel
    have e2 : cmpop .eq (.str "discredit") (.str "withdraw") = some false := by decide +kernel
    have e3 : cmpop .eq (.str "discredit") (.str "discredit") = some true := by decide +kernel
    have q := h3 k M hl
    unfold outB at q ⊢
    generalize (behS s (.discredit k)).enc = BE at *
    generalize Cmd.enc (.discredit k) = E at *
    generalize s.enc = SE at *
    generalize nI k = NK at *
    cases w : whyS s (.discredit k) with
    | none => rw [w] at q; simp [startG, List.replicate, run_mk, look, g0, g1, e0, e1, e2, e3, q]
    | some x => rw [w] at q; simp [startG, List.replicate, run_mk, look, g0, g1, e0, e1, e2, e3, q]
  | withdraw k =>
    have g0 : getIx (Cmd.enc (.withdraw k)) (.int 0) = some (.str "withdraw") := rfl
    have g1 : getIx (Cmd.enc (.withdraw k)) (.int 1) = some (nI k) := rfl
    have e0 : cmpop .eq (.str "withdraw") (.str "report") = some false := by decide +kernel
    have e1 : cmpop .eq (.str "withdraw") (.str "see") = some false := by decide +kernel
    have e2 : cmpop .eq (.str "withdraw") (.str "withdraw") = some true := by decide +kernel
    have q := h2 k M hl
    unfold outB at q ⊢
    generalize (behS s (.withdraw k)).enc = BE at *
    generalize Cmd.enc (.withdraw k) = E at *
    generalize s.enc = SE at *
    generalize nI k = NK at *
    cases w : whyS s (.withdraw k) with
    | none => rw [w] at q; simp [startG, List.replicate, run_mk, look, g0, g1, e0, e1, e2, q]
    | some x => rw [w] at q; simp [startG, List.replicate, run_mk, look, g0, g1, e0, e1, e2, q]
  | watch c =>
    have g0 : getIx (Cmd.enc (.watch c)) (.int 0) = some (.str "watch") := rfl
    have g1 : getIx (Cmd.enc (.watch c)) (.int 1) = some c.enc := rfl
    have e0 : cmpop .eq (.str "watch") (.str "report") = some false := by decide +kernel
    have e1 : cmpop .eq (.str "watch") (.str "see") = some false := by decide +kernel
    have e2 : cmpop .eq (.str "watch") (.str "withdraw") = some false := by decide +kernel
    have e3 : cmpop .eq (.str "watch") (.str "discredit") = some false := by decide +kernel
    have i0 : getIx s.enc (.int 0) = some (.tuple (s.es.map Ent.enc)) := rfl
    have i1 : getIx s.enc (.int 1) = some (.tuple (s.ws.map Con.enc)) := rfl
    have ln := len_t (ds := s.ws.map Con.enc) (M := M)
    rw [List.length_map] at ln
    have hadd : binop .add (.tuple (s.ws.map Con.enc)) (.tuple [c.enc]) = some (.tuple ((s.ws ++ [c]).map Con.enc)) := by
      rw [add_t, if_pos (by rw [line_big, List.length_map, List.length_singleton]; omega), List.map_append]
      rfl
    have eR : (behS s (.watch c)).enc = .tuple [.tuple (s.es.map Ent.enc), .tuple ((s.ws ++ [c]).map Con.enc)] := rfl
    unfold outB whyS
    rw [eR]
    generalize Cmd.enc (.watch c) = E at *
    generalize s.enc = SE at *
    generalize PyData.tuple ((s.ws ++ [c]).map Con.enc) = W2 at *
    generalize PyData.tuple (s.ws.map Con.enc) = W1 at *
    generalize PyData.tuple (s.es.map Ent.enc) = E1 at *
    generalize c.enc = CE at *
    by_cases z : s.ws.length < 4
    · rw [if_pos z]
      have z2 : ¬ (4 : Int) ≤ s.ws.length := by omega
      simp [startG, List.replicate, run_mk, look, g0, g1, e0, e1, e2, e3, i0, i1, ln, z2, hadd]
    · rw [if_neg z]
      have z2 : (4 : Int) ≤ s.ws.length := by omega
      simp [startG, List.replicate, run_mk, look, g0, g1, e0, e1, e2, e3, i0, i1, ln, z2]
def actI (es : List Ent) : List Nat := (es.zipIdx.filter fun p => p.1.act).map (·.2)
def actC (es : List Ent) : List Con := (es.filter fun e => e.act).map (·.con)
theorem enum_zip72 (es : List Ent) : enumD (es.map Ent.enc) = es.zipIdx.map fun p => .tuple [nI p.2, p.1.enc] := by
  refine List.ext_getElem? fun i => ?_
  rw [List.getElem?_map, List.getElem?_zipIdx]
  unfold enumD
  rw [List.getElem?_zipWith, List.getElem?_map]
  by_cases h : i < es.length
  · rw [List.getElem?_range (by rw [List.length_map]; exact h), List.getElem?_eq_getElem h]
    simp
  · rw [List.getElem?_eq_none (by rw [List.length_range, List.length_map]; omega), List.getElem?_eq_none (show es.length ≤ i by omega)]
    rfl
def S_actof72 (F : Fns) : Prop := ∀ (s : NSt) (M : Mem), s.es.length ≤ 100 → F "active_of" [.p s.enc] M = .ok (.p (encR (actI s.es))) M
theorem ok_actof72 {defs : List Df} (h : findD defs "active_of" = some d_active_of72) : At defs 1 S_actof72 := At.succ fun m hm s M hl => by
  rw [callF_at h rfl, d_active_of72]
  have i0 : getIx s.enc (.int 0) = some (.tuple (s.es.map Ent.enc)) := rfl
  have l1 : lcR (callF whC defs m) [1, 2] (.tp [1, 2]) (.cons (.ix (.var 2) (.con (.int 2))) .nil) (.var 1) ⟨enumD (s.es.map Ent.enc), none⟩ [some (.p s.enc), none, none] M = .ok ((actI s.es).map nI) M := by
    rw [enum_zip72]
    unfold actI
    rw [List.map_map]
    refine lcR_flt (fun p : Ent × Nat => .tuple [nI p.2, p.1.enc]) (fun p => p.1.act) (nI ∘ (·.2)) (by rw [line_big, List.length_zipIdx]; omega) fun p _ => ?_
    have g2 : getIx p.1.enc (.int 2) = some (.bool p.1.act) := rfl
    show _ = Rs.ok (if p.1.act = true then [nI p.2] else []) M
    generalize p.1.enc = EE at *
    generalize s.enc = SE at *
    generalize nI p.2 = NP at *
    cases z : p.1.act with
    | true => rw [z] at g2; simp [stp, fStep, store, putAll, wipe, run_mk, look, g2]
    | false => rw [z] at g2; simp [stp, fStep, store, putAll, wipe, run_mk, look, g2]
  have tb : ∀ (ds : List D) (M : Mem), fBi .tuple M (.p (.list ds)) = .ok (.p (.tuple ds)) M := fun _ _ => rfl
  show _ = Rs.ok (Vl.p (.tuple ((actI s.es).map nI))) M
  generalize (actI s.es).map nI = AI at *
  generalize s.enc = SE at *
  generalize s.es.map Ent.enc = EE at *
  simp [startG, List.replicate, run_mk, look, i0, l1, tb]
def S_probof72 (F : Fns) : Prop := ∀ (n : Nat) (s : NSt) (M : Mem), s.es.length ≤ 100 → F "problem_of" [.p (nI n), .p s.enc] M = .ok (.p (encP n (actC s.es))) M
theorem ok_probof72 {defs : List Df} (h : findD defs "problem_of" = some d_problem_of72) : At defs 1 S_probof72 := At.succ fun m hm n s M hl => by
  rw [callF_at h rfl, d_problem_of72]
  have i0 : getIx s.enc (.int 0) = some (.tuple (s.es.map Ent.enc)) := rfl
  have l1 : lcR (callF whC defs m) [2, 3, 4] (.tp [2, 3, 4]) (.cons (.var 4) .nil) (.var 3) ⟨s.es.map Ent.enc, none⟩ [some (.p (nI n)), some (.p s.enc), none, none, none] M = .ok ((actC s.es).map Con.enc) M := by
    unfold actC
    rw [List.map_map]
    refine lcR_flt Ent.enc (fun e => e.act) (Con.enc ∘ (·.con)) (by rw [line_big]; omega) fun e _ => ?_
    have eE : e.enc = .tuple [encN e.src, e.con.enc, .bool e.act] := rfl
    show stp _ _ _ _ _ _ e.enc _ = Rs.ok (if e.act = true then [e.con.enc] else []) M
    rw [eE]
    generalize e.con.enc = CE at *
    generalize encN e.src = ON at *
    generalize s.enc = SE at *
    generalize nI n = NN at *
    cases z : e.act with
    | true => simp [stp, fStep, store, putAll, wipe, run_mk, look]
    | false => simp [stp, fStep, store, putAll, wipe, run_mk, look]
  have tb : ∀ (ds : List D) (M : Mem), fBi .tuple M (.p (.list ds)) = .ok (.p (.tuple ds)) M := fun _ _ => rfl
  have wk : walkOf M (.p (.tuple (s.es.map Ent.enc))) = some ⟨s.es.map Ent.enc, none⟩ := rfl
  show _ = Rs.ok (Vl.p (.tuple [nI n, .tuple ((actC s.es).map Con.enc)])) M
  generalize (actC s.es).map Con.enc = AI at *
  generalize s.enc = SE at *
  generalize s.es.map Ent.enc = EE at *
  generalize nI n = NN at *
  simp [startG, List.replicate, run_mk, look, i0, wk, l1, tb]
end Eg

/-! Plain: notebooks (k72), what the law does. By an AI agent. -/
namespace Eg
open PySem
def d_law_command72 : Df := ⟨"_law_command", 3, 6, false,
  (.cons (.set (.tp [4, 5]) (.var 2)) (.cons (.set (.nm 3) (.call "_law_next" (.cons (.var 0) (.cons (.con (.int 10)) .nil)))) (.cons (.ite (.cmp .lt (.var 3) (.con (.int 4))) (.cons (.ret (.tup (.cons (.con (.str "report")) (.cons (.call "_law_next" (.cons (.var 0) (.cons (.con (.int 3)) .nil))) (.cons (.call "_law_constraint" (.cons (.var 0) (.cons (.var 1) .nil))) .nil))))) .nil) .nil) (.cons (.ite (.cmp .eq (.var 3) (.con (.int 4))) (.cons (.ret (.tup (.cons (.con (.str "see")) (.cons (.call "_law_next" (.cons (.var 0) (.cons (.var 1) .nil))) (.cons (.bin .add (.con (.int 1)) (.call "_law_next" (.cons (.var 0) (.cons (.var 1) .nil)))) .nil))))) .nil) .nil) (.cons (.ite (.cmp .eq (.var 3) (.con (.int 5))) (.cons (.ret (.tup (.cons (.con (.str "discredit")) (.cons (.call "_law_next" (.cons (.var 0) (.cons (.con (.int 4)) .nil))) .nil)))) .nil) .nil) (.cons (.ite (.cmp .lt (.var 3) (.con (.int 8))) (.cons (.ret (.tup (.cons (.con (.str "watch")) (.cons (.call "_law_constraint" (.cons (.var 0) (.cons (.var 1) .nil))) .nil)))) .nil) .nil) (.cons (.ret (.tup (.cons (.con (.str "withdraw")) (.cons (.bin .mod (.ix (.lst (.cons (.call "_law_next" (.cons (.var 0) (.cons (.con (.int 12)) .nil))) (.cons (.call "_law_next" (.cons (.var 0) (.cons (.bin .add (.bi .len (.var 4)) (.con (.int 1))) .nil))) .nil))) (.call "_law_next" (.cons (.var 0) (.cons (.con (.int 2)) .nil)))) (.con (.int 12))) .nil)))) .nil)))))))⟩
def d_law_why_not72 : Df := ⟨"_law_why_not", 2, 6, false,
  (.cons (.set (.tp [3, 4]) (.var 0)) (.cons (.set (.nm 2) (.ix (.var 1) (.con (.int 0)))) (.cons (.ite (.cmp .isin (.var 2) (.lst (.cons (.con (.str "report")) (.cons (.con (.str "see")) .nil)))) (.cons (.ret (.ix (.lst (.cons (.con (.str "")) (.cons (.con (.str "full")) .nil))) (.bi .int (.cmp .ge (.bi .len (.var 3)) (.con (.int 12)))))) .nil) .nil) (.cons (.ite (.cmp .eq (.var 2) (.con (.str "watch"))) (.cons (.ret (.ix (.lst (.cons (.con (.str "")) (.cons (.con (.str "watches")) .nil))) (.bi .int (.cmp .ge (.bi .len (.var 4)) (.con (.int 4)))))) .nil) .nil) (.cons (.ite (.cmp .eq (.var 2) (.con (.str "discredit"))) (.cons (.ret (.ix (.lst (.cons (.con (.str "silent")) (.cons (.con (.str "")) .nil))) (.bi .int (.bi .any (.lc (.and (.cons (.cmp .eq (.ix (.var 5) (.con (.int 0))) (.ix (.var 1) (.con (.int 1)))) (.cons (.ix (.var 5) (.con (.int 2))) .nil))) (.nm 5) (.sq (.var 3)) (.cons (.cmp .isn (.ix (.var 5) (.con (.int 0))) (.con .none)) .nil) [5]))))) .nil) .nil) (.cons (.ite (.cmp .ge (.ix (.var 1) (.con (.int 1))) (.bi .len (.var 3))) (.cons (.ret (.con (.str "missing"))) .nil) .nil) (.cons (.ite (.cmp .is_ (.ix (.ix (.var 3) (.ix (.var 1) (.con (.int 1)))) (.con (.int 0))) (.con .none)) (.cons (.ret (.con (.str "seen"))) .nil) .nil) (.cons (.ret (.ix (.lst (.cons (.con (.str "inactive")) (.cons (.con (.str "")) .nil))) (.bi .int (.ix (.ix (.var 3) (.ix (.var 1) (.con (.int 1)))) (.con (.int 2)))))) .nil))))))))⟩
def d_law_behind72 : Df := ⟨"_law_behind", 2, 11, false,
  (.cons (.set (.tp [5, 6]) (.var 0)) (.cons (.set (.nm 2) (.ix (.var 1) (.con (.int 0)))) (.cons (.ite (.cmp .eq (.var 2) (.con (.str "report"))) (.cons (.ret (.tup (.cons (.bin .add (.var 5) (.tup (.cons (.tup (.cons (.ix (.var 1) (.con (.int 1))) (.cons (.ix (.var 1) (.con (.int 2))) (.cons (.con (.bool true)) .nil)))) .nil))) (.cons (.var 6) .nil)))) .nil) .nil) (.cons (.ite (.cmp .eq (.var 2) (.con (.str "see"))) (.cons (.ret (.tup (.cons (.bin .add (.var 5) (.tup (.cons (.tup (.cons (.con .none) (.cons (.tup (.cons (.con (.str "within")) (.cons (.ix (.var 1) (.con (.int 1))) (.cons (.ix (.var 1) (.con (.int 2))) (.cons (.ix (.var 1) (.con (.int 2))) .nil))))) (.cons (.con (.bool true)) .nil)))) .nil))) (.cons (.var 6) .nil)))) .nil) .nil) (.cons (.ite (.cmp .eq (.var 2) (.con (.str "watch"))) (.cons (.ret (.tup (.cons (.var 5) (.cons (.bin .add (.var 6) (.tup (.cons (.ix (.var 1) (.con (.int 1))) .nil))) .nil)))) .nil) .nil) (.cons (.new 3 (.lst .nil)) (.cons (.fr (.nm 4) (.rng (.cons (.bi .len (.var 5)) .nil)) (.cons (.set (.tp [8, 9, 10]) (.ix (.var 5) (.var 4))) (.cons (.set (.nm 7) (.and (.cons (.cmp .eq (.var 2) (.con (.str "withdraw"))) (.cons (.cmp .eq (.var 4) (.ix (.var 1) (.con (.int 1)))) .nil)))) (.cons (.ite (.and (.cons (.cmp .eq (.var 2) (.con (.str "discredit"))) (.cons (.cmp .isn (.var 8) (.con .none)) (.cons (.cmp .eq (.var 8) (.ix (.var 1) (.con (.int 1)))) .nil)))) (.cons (.set (.nm 7) (.con (.bool true))) .nil) .nil) (.cons (.app (.var 3) (.tup (.cons (.var 8) (.cons (.var 9) (.cons (.and (.cons (.var 10) (.cons (.not (.var 7)) .nil))) .nil))))) .nil))))) (.cons (.ret (.tup (.cons (.bi .tuple (.var 3)) (.cons (.var 6) .nil)))) .nil))))))))⟩
def d_law_active72 : Df := ⟨"_law_active", 1, 2, false,
  (.cons (.ret (.bi .tuple (.lc (.var 1) (.nm 1) (.rng (.cons (.bi .len (.ix (.var 0) (.con (.int 0)))) .nil)) (.cons (.ix (.ix (.ix (.var 0) (.con (.int 0))) (.var 1)) (.con (.int 2))) .nil) [1]))) .nil)⟩
def d_law_present72 : Df := ⟨"_law_present", 1, 4, false,
  (.cons (.ret (.bi .tuple (.lc (.var 2) (.tp [1, 2, 3]) (.sq (.ix (.var 0) (.con (.int 0)))) (.cons (.var 3) .nil) [1, 2, 3]))) .nil)⟩

def S_lcmd72 (F : Fns) : Prop := ∀ (M : Mem) (i : Nat) (s : S) (n : Nat) (st : NSt), M[i]? = some s.mo → 1 ≤ n → n ≤ 7 → st.es.length ≤ 100 → ∃ (c : Cmd) (s' : S), c.ok n ∧ F "_law_command" [.r i, .p (nI n), .p st.enc] M = .ok (.p c.enc) (M.set i s'.mo)
theorem ok_lcmd72 {defs : List Df} {a : Nat} (h : findD defs "_law_command" = some d_law_command72) (hn : At defs a S_next) (hc : At defs a S_lcon) : At defs (a + 1) S_lcmd72 := At.succ fun m hm M i s n st hM n1 n7 hl => by
  have hn := hn m hm
  have hc := hc m hm
  rw [callF_at h rfl, d_law_command72]
  have eS : st.enc = .tuple [.tuple (st.es.map Ent.enc), .tuple (st.ws.map Con.enc)] := rfl
  obtain ⟨d1, s1, b1, e1⟩ := hn.nat (many := 10) hM (by omega) (by omega)
  have e1 : callF whC defs m "_law_next" [.r i, .p (.int 10)] M = .ok (.p (.int d1)) (M.set i s1.mo) := e1
  have hM1 := set_at hM (o := s1.mo)
  have ln : ∀ M : Mem, fBi .len M (.p (.tuple (st.es.map Ent.enc))) = .ok (.p (.int (st.es.length : Int))) M := fun M => by
    have := len_t (ds := st.es.map Ent.enc) (M := M)
    rwa [List.length_map] at this
  rw [eS]
  generalize st.es.map Ent.enc = EE at *
  generalize PyData.tuple (st.ws.map Con.enc) = W1 at *
  show ∃ c s', _ ∧ fin false M.length (execs (callF whC defs m) whC (.cons _ _) [some (.r i), some (.p (nI n)), some (.p (.tuple [.tuple EE, W1])), none, none, none] M) = _
  rw [step (g1 := [some (.r i), some (.p (nI n)), some (.p (.tuple [.tuple EE, W1])), none, some (.p (.tuple EE)), some (.p W1)]) (M1 := M) (by simp [run_mk, putAll])]
  rw [step (g1 := [some (.r i), some (.p (nI n)), some (.p (.tuple [.tuple EE, W1])), some (.p (.int d1)), some (.p (.tuple EE)), some (.p W1)]) (M1 := M.set i s1.mo) (by simp [run_mk, e1])]
  by_cases z1 : d1 < 4
  · have z1' : (d1 : Int) < 4 := by omega
    obtain ⟨d2, s2, b2, e2⟩ := hn.nat (many := 3) hM1 (by omega) (by omega)
    have e2 : callF whC defs m "_law_next" [.r i, .p (.int 3)] (M.set i s1.mo) = .ok (.p (nI d2)) ((M.set i s1.mo).set i s2.mo) := e2
    rw [List.set_set] at e2
    obtain ⟨c, s3, hco, e3⟩ := hc (M.set i s2.mo) i s2 n (set_at hM) n1 (by omega)
    rw [List.set_set] at e3
    have e3 : callF whC defs m "_law_constraint" [.r i, .p (nI n)] (M.set i s2.mo) = .ok (.p c.enc) (M.set i s3.mo) := e3
    refine ⟨.report d2 c, s3, ⟨by omega, hco⟩, ?_⟩
    show _ = Rs.ok (Vl.p (.tuple [.str "report", nI d2, c.enc])) _
    generalize c.enc = CE at *
    generalize nI d2 = N2 at *
    simp [run_mk, look, z1', e2, e3]
  · have z1' : ¬ (d1 : Int) < 4 := by omega
    rw [pass (M1 := M.set i s1.mo) (by simp [run_mk, look, z1'])]
    by_cases z2 : d1 = 4
    · subst z2
      obtain ⟨d2, s2, b2, e2⟩ := hn.nat (many := n) hM1 n1 (by omega)
      have e2 : callF whC defs m "_law_next" [.r i, .p (nI n)] (M.set i s1.mo) = .ok (.p (nI d2)) ((M.set i s1.mo).set i s2.mo) := e2
      rw [List.set_set] at e2
      obtain ⟨d3, s3, b3, e3⟩ := hn.nat (M := M.set i s2.mo) (many := n) (set_at hM) n1 (by omega)
      have e3 : callF whC defs m "_law_next" [.r i, .p (nI n)] (M.set i s2.mo) = .ok (.p (.int (d3 : Int))) ((M.set i s2.mo).set i s3.mo) := e3
      rw [List.set_set] at e3
      refine ⟨.see d2 (1 + d3), s3, ⟨b2, by omega, by omega⟩, ?_⟩
      show _ = Rs.ok (Vl.p (.tuple [.str "see", nI d2, .int ((1 + d3 : Nat) : Int)])) _
      rw [show ((1 + d3 : Nat) : Int) = 1 + (d3 : Int) by omega]
      generalize nI d2 = N2 at *
      generalize nI n = NN at *
      simp [run_mk, look, e2, e3]
    · have z2' : ¬ (d1 : Int) = 4 := by omega
      rw [pass (M1 := M.set i s1.mo) (by simp [run_mk, look, z2', z2])]
      by_cases z3 : d1 = 5
      · subst z3
        obtain ⟨d2, s2, b2, e2⟩ := hn.nat (many := 4) hM1 (by omega) (by omega)
        have e2 : callF whC defs m "_law_next" [.r i, .p (.int 4)] (M.set i s1.mo) = .ok (.p (nI d2)) ((M.set i s1.mo).set i s2.mo) := e2
        rw [List.set_set] at e2
        refine ⟨.discredit d2, s2, (by show d2 ≤ 5; omega), ?_⟩
        show _ = Rs.ok (Vl.p (.tuple [.str "discredit", nI d2])) _
        generalize nI d2 = N2 at *
        simp [run_mk, look, e2]
      · have z3' : ¬ (d1 : Int) = 5 := by omega
        rw [pass (M1 := M.set i s1.mo) (by simp [run_mk, look, z3', z3])]
        by_cases z4 : d1 < 8
        · have z4' : (d1 : Int) < 8 := by omega
          obtain ⟨c, s3, hco, e3⟩ := hc (M.set i s1.mo) i s1 n hM1 n1 (by omega)
          rw [List.set_set] at e3
          have e3 : callF whC defs m "_law_constraint" [.r i, .p (nI n)] (M.set i s1.mo) = .ok (.p c.enc) (M.set i s3.mo) := e3
          refine ⟨.watch c, s3, hco, ?_⟩
          show _ = Rs.ok (Vl.p (.tuple [.str "watch", c.enc])) _
          generalize c.enc = CE at *
          simp [run_mk, look, z4', e3]
        · have z4' : ¬ (d1 : Int) < 8 := by omega
          rw [pass (M1 := M.set i s1.mo) (by simp [run_mk, look, z4'])]
          obtain ⟨d2, s2, b2, e2⟩ := hn.nat (many := 12) hM1 (by omega) (by omega)
          have e2 : callF whC defs m "_law_next" [.r i, .p (.int 12)] (M.set i s1.mo) = .ok (.p (.int d2)) ((M.set i s1.mo).set i s2.mo) := e2
          rw [List.set_set] at e2
          obtain ⟨d3, s3, b3, e3⟩ := hn.nat (M := M.set i s2.mo) (many := st.es.length + 1) (set_at hM) (by omega) (by omega)
          have e3 : callF whC defs m "_law_next" [.r i, .p (.int ((st.es.length : Int) + 1))] (M.set i s2.mo) = .ok (.p (.int d3)) ((M.set i s2.mo).set i s3.mo) := e3
          rw [List.set_set] at e3
          obtain ⟨d4, s4, b4, e4⟩ := hn.nat (M := M.set i s3.mo) (many := 2) (set_at hM) (by omega) (by omega)
          have e4 : callF whC defs m "_law_next" [.r i, .p (.int 2)] (M.set i s3.mo) = .ok (.p (.int d4)) ((M.set i s3.mo).set i s4.mo) := e4
          rw [List.set_set] at e4
          have md : ∀ x : Nat, binop .mod (.int (x : Int)) (.int 12) = some (nI (x % 12)) := fun x => by
            rw [mod_i, if_pos (by omega), Int.fmod_eq_emod_of_nonneg _ (by omega)]
            congr 1
          by_cases z5 : d4 = 0
          · subst z5
            refine ⟨.withdraw (d2 % 12), s4, (by show d2 % 12 ≤ 11; omega), ?_⟩
            have i0 : getIx (.list [.int (d2 : Int), .int (d3 : Int)]) (.int ((0 : Nat) : Int)) = some (.int (d2 : Int)) := rfl
            have md := md d2
            show _ = Rs.ok (Vl.p (.tuple [.str "withdraw", nI (d2 % 12)])) _
            generalize ((0 : Nat) : Int) = ZZ at *
            generalize nI (d2 % 12) = NM at *
            simp [run_mk, look, ln, e2, e3, e4, i0, md]
          · have z5 : d4 = 1 := by omega
            subst z5
            refine ⟨.withdraw (d3 % 12), s4, (by show d3 % 12 ≤ 11; omega), ?_⟩
            have i0 : getIx (.list [.int (d2 : Int), .int (d3 : Int)]) (.int ((1 : Nat) : Int)) = some (.int (d3 : Int)) := rfl
            have md := md d3
            show _ = Rs.ok (Vl.p (.tuple [.str "withdraw", nI (d3 % 12)])) _
            generalize ((1 : Nat) : Int) = ZZ at *
            generalize nI (d3 % 12) = NM at *
            simp [run_mk, look, ln, e2, e3, e4, i0, md]
/-! ### why not -/
theorem any_src (es : List Ent) (k : Nat) : ((es.filter fun e => !decide (e.src = none)).any fun e => decide (e.src = some k) && e.act) = es.any fun e => decide (e.src = some k) && e.act := by
  induction es with
  | nil => rfl
  | cons e es ih =>
    rw [List.filter_cons]
    obtain ⟨s, c, x⟩ := e
    cases s with
    | none => simp [ih]
    | some y => simp [ih]
def whyT (st : NSt) (c : Cmd) : Str := (whyS st c).getD ""
def S_lwhy72 (F : Fns) : Prop := ∀ (st : NSt) (c : Cmd) (M : Mem), st.es.length ≤ 100 → st.ws.length ≤ 100 → F "_law_why_not" [.p st.enc, .p c.enc] M = .ok (.p (.str (whyT st c))) M
theorem ok_lwhy72 {defs : List Df} (h : findD defs "_law_why_not" = some d_law_why_not72) : At defs 1 S_lwhy72 := At.succ fun m hm st c M hl hw => by
  rw [callF_at h rfl, d_law_why_not72]
  have eS : st.enc = .tuple [.tuple (st.es.map Ent.enc), .tuple (st.ws.map Con.enc)] := rfl
  have ln : fBi .len M (.p (.tuple (st.es.map Ent.enc))) = .ok (.p (.int (st.es.length : Int))) M := by
    have := len_t (ds := st.es.map Ent.enc) (M := M)
    rwa [List.length_map] at this
  have lw : fBi .len M (.p (.tuple (st.ws.map Con.enc))) = .ok (.p (.int (st.ws.length : Int))) M := by
    have := len_t (ds := st.ws.map Con.enc) (M := M)
    rwa [List.length_map] at this
  have bi : ∀ b : Bool, fBi .int M (.p (.bool b)) = .ok (.p (.int (if b then 1 else 0))) M := fun b => by cases b <;> rfl
  have i0 : ∀ a b : D, getIx (.list [a, b]) (.int 0) = some a := fun _ _ => rfl
  have i1 : ∀ a b : D, getIx (.list [a, b]) (.int 1) = some b := fun _ _ => rfl
  show fin false M.length (execs (callF whC defs m) whC (.cons _ _) [some (.p st.enc), some (.p c.enc), none, none, none, none] M) = _
  rw [step (g1 := [some (.p st.enc), some (.p c.enc), none, some (.p (.tuple (st.es.map Ent.enc))), some (.p (.tuple (st.ws.map Con.enc))), none]) (M1 := M) (by
    rw [eS]
    generalize PyData.tuple (st.es.map Ent.enc) = E1 at *
    generalize PyData.tuple (st.ws.map Con.enc) = W1 at *
    generalize c.enc = CE at *
    simp [run_mk, putAll])]
  unfold whyT whyS
  cases c with
  | report k c =>
    have g0 : getIx (Cmd.enc (.report k c)) (.int 0) = some (.str "report") := rfl
    have e0 : cmpop .isin (.str "report") (.list [.str "report", .str "see"]) = some true := by decide +kernel
    generalize Cmd.enc (.report k c) = E at *
    generalize st.enc = SE at *
    generalize PyData.tuple (st.es.map Ent.enc) = E1 at *
    generalize PyData.tuple (st.ws.map Con.enc) = W1 at *
    by_cases z : st.es.length < 12
    · have z2 : ¬ (12 : Int) ≤ st.es.length := by omega
      simp [run_mk, look, g0, e0, ln, bi, i0, i1, z, z2]
    · have z2 : (12 : Int) ≤ st.es.length := by omega
      simp [run_mk, look, g0, e0, ln, bi, i0, i1, z, z2]
  | see i p =>
    have g0 : getIx (Cmd.enc (.see i p)) (.int 0) = some (.str "see") := rfl
    have e0 : cmpop .isin (.str "see") (.list [.str "report", .str "see"]) = some true := by decide +kernel
    generalize Cmd.enc (.see i p) = E at *
    generalize st.enc = SE at *
    generalize PyData.tuple (st.es.map Ent.enc) = E1 at *
    generalize PyData.tuple (st.ws.map Con.enc) = W1 at *
    by_cases z : st.es.length < 12
    · have z2 : ¬ (12 : Int) ≤ st.es.length := by omega
      simp [run_mk, look, g0, e0, ln, bi, i0, i1, z, z2]
    · have z2 : (12 : Int) ≤ st.es.length := by omega
      simp [run_mk, look, g0, e0, ln, bi, i0, i1, z, z2]
  | watch c =>
    have g0 : getIx (Cmd.enc (.watch c)) (.int 0) = some (.str "watch") := rfl
    have e0 : cmpop .isin (.str "watch") (.list [.str "report", .str "see"]) = some false := by decide +kernel
    have e1 : cmpop .eq (.str "watch") (.str "watch") = some true := by decide +kernel
    generalize Cmd.enc (.watch c) = E at *
    generalize st.enc = SE at *
    generalize PyData.tuple (st.es.map Ent.enc) = E1 at *
    generalize PyData.tuple (st.ws.map Con.enc) = W1 at *
    by_cases z : st.ws.length < 4
    · have z2 : ¬ (4 : Int) ≤ st.ws.length := by omega
      simp [run_mk, look, g0, e0, e1, lw, bi, i0, i1, z, z2]
    · have z2 : (4 : Int) ≤ st.ws.length := by omega
      simp [run_mk, look, g0, e0, e1, lw, bi, i0, i1, z, z2]
  | discredit k =>
    have g0 : getIx (Cmd.enc (.discredit k)) (.int 0) = some (.str "discredit") := rfl
    have g1 : getIx (Cmd.enc (.discredit k)) (.int 1) = some (nI k) := rfl
    have e0 : cmpop .isin (.str "discredit") (.list [.str "report", .str "see"]) = some false := by decide +kernel
    have e1 : cmpop .eq (.str "discredit") (.str "watch") = some false := by decide +kernel
    have e2 : cmpop .eq (.str "discredit") (.str "discredit") = some true := by decide +kernel
    have l1 : lcR (callF whC defs m) [5] (.nm 5) (.cons (.cmp .isn (.ix (.var 5) (.con (.int 0))) (.con .none)) .nil) (.and (.cons (.cmp .eq (.ix (.var 5) (.con (.int 0))) (.ix (.var 1) (.con (.int 1)))) (.cons (.ix (.var 5) (.con (.int 2))) .nil))) ⟨st.es.map Ent.enc, none⟩ [some (.p st.enc), some (.p (Cmd.enc (.discredit k))), some (.p (.str "discredit")), some (.p (.tuple (st.es.map Ent.enc))), some (.p (.tuple (st.ws.map Con.enc))), none] M = .ok ((st.es.filter fun e => !decide (e.src = none)).map fun e => PyData.bool (decide (e.src = some k) && e.act)) M := by
      refine lcR_flt Ent.enc (fun e => !decide (e.src = none)) (fun e => PyData.bool (decide (e.src = some k) && e.act)) (by rw [line_big]; omega) fun e _ => ?_
      have h0 : getIx e.enc (.int 0) = some (encN e.src) := rfl
      have h2 : getIx e.enc (.int 2) = some (.bool e.act) := rfl
      have q := eq_N e.src k
      have qn : encN e.src = .none ↔ e.src = none := encN_inj (b := none)
      show _ = Rs.ok (if (!decide (e.src = none)) = true then [PyData.bool (decide (e.src = some k) && e.act)] else []) M
      generalize e.enc = EN at *
      generalize Cmd.enc (.discredit k) = E at *
      generalize st.enc = SE at *
      generalize PyData.tuple (st.es.map Ent.enc) = E1 at *
      generalize PyData.tuple (st.ws.map Con.enc) = W1 at *
      generalize encN e.src = ON at *
      generalize nI k = NK at *
      by_cases z : e.src = none
      · have zo := qn.mpr z
        simp [stp, fStep, store, wipe, run_mk, look, h0, zo, z]
      · have zo : ¬ ON = .none := fun w => z (qn.mp w)
        by_cases z2 : e.src = some k
        · rw [decide_eq_true z2] at q
          simp [stp, fStep, store, wipe, run_mk, look, h0, h2, g1, zo, z2, q]
        · rw [decide_eq_false z2] at q
          simp [stp, fStep, store, wipe, run_mk, look, h0, h2, g1, zo, z, z2, q]
    have al := any_dec (st.es.filter fun e => !decide (e.src = none)) (fun e => decide (e.src = some k) && e.act) M
    rw [any_src] at al
    have wk : walkOf M (.p (.tuple (st.es.map Ent.enc))) = some ⟨st.es.map Ent.enc, none⟩ := rfl
    generalize ((st.es.filter fun e => !decide (e.src = none)).map fun e => PyData.bool (decide (e.src = some k) && e.act)) = BL at *
    generalize Cmd.enc (.discredit k) = E at *
    generalize st.enc = SE at *
    generalize st.es.map Ent.enc = E1 at *
    generalize PyData.tuple (st.ws.map Con.enc) = W1 at *
    cases z : st.es.any (fun e => decide (e.src = some k) && e.act) with
    | true =>
      rw [z] at al
      simp only [z]
      simp [run_mk, look, g0, e0, e1, e2, wk, l1, al, bi, i0, i1]
    | false =>
      rw [z] at al
      simp only [z]
      simp [run_mk, look, g0, e0, e1, e2, wk, l1, al, bi, i0, i1]
  | withdraw k =>
    have g0 : getIx (Cmd.enc (.withdraw k)) (.int 0) = some (.str "withdraw") := rfl
    have g1 : getIx (Cmd.enc (.withdraw k)) (.int 1) = some (.int (k : Int)) := rfl
    have e0 : cmpop .isin (.str "withdraw") (.list [.str "report", .str "see"]) = some false := by decide +kernel
    have e1 : cmpop .eq (.str "withdraw") (.str "watch") = some false := by decide +kernel
    have e2 : cmpop .eq (.str "withdraw") (.str "discredit") = some false := by decide +kernel
    cases e : st.es[k]? with
    | none =>
      have z2 : (st.es.length : Int) ≤ k := by have := List.getElem?_eq_none_iff.mp e; omega
      simp only [e]
      generalize Cmd.enc (.withdraw k) = E at *
      generalize st.enc = SE at *
      generalize PyData.tuple (st.es.map Ent.enc) = E1 at *
      generalize PyData.tuple (st.ws.map Con.enc) = W1 at *
      simp [run_mk, look, g0, g1, e0, e1, e2, ln, z2]
    | some x =>
      obtain ⟨hk, hx⟩ := List.getElem?_eq_some_iff.mp e
      have z2 : ¬ (st.es.length : Int) ≤ k := by omega
      have q0 : getIx (.tuple (st.es.map Ent.enc)) (.int (k : Int)) = some x.enc := ix_t72 (f := Ent.enc) e
      have h0 : getIx x.enc (.int 0) = some (encN x.src) := rfl
      have h2 : getIx x.enc (.int 2) = some (.bool x.act) := rfl
      have qn : encN x.src = .none ↔ x.src = none := encN_inj (b := none)
      simp only [e]
      generalize x.enc = EN at *
      generalize Cmd.enc (.withdraw k) = E at *
      generalize st.enc = SE at *
      generalize PyData.tuple (st.es.map Ent.enc) = E1 at *
      generalize PyData.tuple (st.ws.map Con.enc) = W1 at *
      generalize encN x.src = ON at *
      by_cases z : x.src = none
      · have zo := qn.mpr z
        simp [run_mk, look, g0, g1, e0, e1, e2, ln, z2, q0, h0, h2, zo, z]
      · have zo : ¬ ON = .none := fun w => z (qn.mp w)
        cases z3 : x.act with
        | true =>
          rw [z3] at h2
          simp [run_mk, look, g0, g1, e0, e1, e2, ln, z2, q0, h0, h2, zo, z, bi, i0, i1]
        | false =>
          rw [z3] at h2
          simp [run_mk, look, g0, g1, e0, e1, e2, ln, z2, q0, h0, h2, zo, z, bi, i0, i1]
/-! ### active, present -/
def S_lact72 (F : Fns) : Prop := ∀ (st : NSt) (M : Mem), st.es.length ≤ 100 → F "_law_active" [.p st.enc] M = .ok (.p (encR (actI st.es))) M
theorem ok_lact72 {defs : List Df} (h : findD defs "_law_active" = some d_law_active72) : At defs 1 S_lact72 := At.succ fun m hm st M hl => by
  rw [callF_at h rfl, d_law_active72]
  have i0 : getIx st.enc (.int 0) = some (.tuple (st.es.map Ent.enc)) := rfl
  have ln : fBi .len M (.p (.tuple (st.es.map Ent.enc))) = .ok (.p (.int (st.es.length : Int))) M := by
    have := len_t (ds := st.es.map Ent.enc) (M := M)
    rwa [List.length_map] at this
  have hrg := fRwN (n := st.es.length) M (by omega)
  have l1 : lcR (callF whC defs m) [1] (.nm 1) (.cons (.ix (.ix (.ix (.var 0) (.con (.int 0))) (.var 1)) (.con (.int 2))) .nil) (.var 1) ⟨(List.range st.es.length).map nI, none⟩ [some (.p st.enc), none] M = .ok ((actI st.es).map nI) M := by
    have e1 : (List.range st.es.length).map nI = st.es.zipIdx.map (fun p : Ent × Nat => nI p.2) := by
      have : st.es.zipIdx.map (fun p : Ent × Nat => nI p.2) = (st.es.zipIdx.map Prod.snd).map nI := by rw [List.map_map]; rfl
      rw [this, List.zipIdx_map_snd, List.range_eq_range']
    rw [e1]
    unfold actI
    rw [List.map_map]
    refine lcR_flt (fun p : Ent × Nat => nI p.2) (fun p => p.1.act) (nI ∘ (·.2)) (by rw [line_big, List.length_zipIdx]; omega) fun p hp => ?_
    have q0 := ix_t72 (f := Ent.enc) (List.mem_zipIdx_iff_getElem?.mp hp)
    have g2 : getIx p.1.enc (.int 2) = some (.bool p.1.act) := rfl
    show _ = Rs.ok (if p.1.act = true then [nI p.2] else []) M
    generalize p.1.enc = EE at *
    generalize PyData.tuple (st.es.map Ent.enc) = E1 at *
    generalize st.enc = SE at *
    generalize nI p.2 = NP at *
    cases z : p.1.act with
    | true => rw [z] at g2; simp [stp, fStep, store, wipe, run_mk, look, i0, q0, g2]
    | false => rw [z] at g2; simp [stp, fStep, store, wipe, run_mk, look, i0, q0, g2]
  have tb : ∀ (ds : List D) (M : Mem), fBi .tuple M (.p (.list ds)) = .ok (.p (.tuple ds)) M := fun _ _ => rfl
  show _ = Rs.ok (Vl.p (.tuple ((actI st.es).map nI))) M
  generalize (actI st.es).map nI = AI at *
  generalize (List.range st.es.length).map nI = RN at *
  generalize st.enc = SE at *
  generalize PyData.tuple (st.es.map Ent.enc) = EE at *
  simp [startG, List.replicate, run_mk, look, i0, ln, hrg, l1, tb]
def S_lpres72 (F : Fns) : Prop := ∀ (st : NSt) (M : Mem), st.es.length ≤ 100 → F "_law_present" [.p st.enc] M = .ok (.p (.tuple ((actC st.es).map Con.enc))) M
theorem ok_lpres72 {defs : List Df} (h : findD defs "_law_present" = some d_law_present72) : At defs 1 S_lpres72 := At.succ fun m hm s M hl => by
  rw [callF_at h rfl, d_law_present72]
  have i0 : getIx s.enc (.int 0) = some (.tuple (s.es.map Ent.enc)) := rfl
  have l1 : lcR (callF whC defs m) [1, 2, 3] (.tp [1, 2, 3]) (.cons (.var 3) .nil) (.var 2) ⟨s.es.map Ent.enc, none⟩ [some (.p s.enc), none, none, none] M = .ok ((actC s.es).map Con.enc) M := by
    unfold actC
    rw [List.map_map]
    refine lcR_flt Ent.enc (fun e => e.act) (Con.enc ∘ (·.con)) (by rw [line_big]; omega) fun e _ => ?_
    have eE : e.enc = .tuple [encN e.src, e.con.enc, .bool e.act] := rfl
    show stp _ _ _ _ _ _ e.enc _ = Rs.ok (if e.act = true then [e.con.enc] else []) M
    rw [eE]
    generalize e.con.enc = CE at *
    generalize encN e.src = ON at *
    generalize s.enc = SE at *
    cases z : e.act with
    | true => simp [stp, fStep, store, putAll, wipe, run_mk, look]
    | false => simp [stp, fStep, store, putAll, wipe, run_mk, look]
  have tb : ∀ (ds : List D) (M : Mem), fBi .tuple M (.p (.list ds)) = .ok (.p (.tuple ds)) M := fun _ _ => rfl
  have wk : walkOf M (.p (.tuple (s.es.map Ent.enc))) = some ⟨s.es.map Ent.enc, none⟩ := rfl
  generalize (actC s.es).map Con.enc = AI at *
  generalize s.enc = SE at *
  generalize s.es.map Ent.enc = EE at *
  simp [startG, List.replicate, run_mk, look, i0, wk, l1, tb]
end Eg

/-! Plain: notebooks (k72), the law's own commands; the methods. By an AI agent. -/
namespace Eg
open PySem
def d_law_told72 : Df := ⟨"_law_told", 2, 3, false,
  (.cons (.tr ["BadValue", "TooLarge", "NotPossible"] (.cons (.ret (.meth "Notebook" (.var 0) "act" (.cons (.var 1) .nil))) .nil) [⟨"NotPossible", (some 2), (.ret (.lst (.cons (.con (.str "not")) (.cons (.fld "NotPossible" "why") .nil))))⟩]) .nil)⟩
def d_Notebook_act72 : Df := ⟨"Notebook.act", 2, 3, false,
  (.cons (.ite (.not (.call "is_command" (.cons (.var 1) (.cons (.fld "Notebook" (.var 0) "many") .nil)))) (.cons (.rse "BadValue" ["name"] (.cons (.con (.str "command")) .nil)) .nil) .nil) (.cons (.set (.nm 2) (.call "behind" (.cons (.ix (.fld "Notebook" (.var 0) "states") (.neg (.con (.int 1)))) (.cons (.var 1) .nil)))) (.cons (.ite (.cmp .ge (.bi .len (.fld "Notebook" (.var 0) "commands")) (.gcon "MOST_COMMANDS" (.int 20))) (.cons (.rse "TooLarge" ["what"] (.cons (.con (.str "commands")) .nil)) .nil) .nil) (.cons (.app (.fld "Notebook" (.var 0) "states") (.var 2)) (.cons (.setf "Notebook" (.var 0) "commands" (.bin .add (.fld "Notebook" (.var 0) "commands") (.tup (.cons (.var 1) .nil)))) (.cons (.ret (.bi .len (.call "active_of" (.cons (.var 2) .nil)))) .nil))))))⟩
def d_Notebook_entries72 : Df := ⟨"Notebook.entries", 1, 1, false,
  (.cons (.ret (.ix (.ix (.fld "Notebook" (.var 0) "states") (.neg (.con (.int 1)))) (.con (.int 0)))) .nil)⟩
def d_Notebook_problem72 : Df := ⟨"Notebook.problem", 1, 1, false,
  (.cons (.ret (.call "problem_of" (.cons (.fld "Notebook" (.var 0) "many") (.cons (.ix (.fld "Notebook" (.var 0) "states") (.neg (.con (.int 1)))) .nil)))) .nil)⟩
def d_Notebook_journal72 : Df := ⟨"Notebook.journal", 1, 1, false,
  (.cons (.ret (.fld "Notebook" (.var 0) "commands")) .nil)⟩
def d_Notebook_watches72 : Df := ⟨"Notebook.watches", 1, 1, false,
  (.cons (.ret (.ix (.ix (.fld "Notebook" (.var 0) "states") (.neg (.con (.int 1)))) (.con (.int 1)))) .nil)⟩

def bodyB72 : Sms := (.cons (.set (.tp [8, 9, 10]) (.ix (.var 5) (.var 4))) (.cons (.set (.nm 7) (.and (.cons (.cmp .eq (.var 2) (.con (.str "withdraw"))) (.cons (.cmp .eq (.var 4) (.ix (.var 1) (.con (.int 1)))) .nil)))) (.cons (.ite (.and (.cons (.cmp .eq (.var 2) (.con (.str "discredit"))) (.cons (.cmp .isn (.var 8) (.con .none)) (.cons (.cmp .eq (.var 8) (.ix (.var 1) (.con (.int 1)))) .nil)))) (.cons (.set (.nm 7) (.con (.bool true))) .nil) .nil) (.cons (.app (.var 3) (.tup (.cons (.var 8) (.cons (.var 9) (.cons (.and (.cons (.var 10) (.cons (.not (.var 7)) .nil))) .nil))))) .nil))))
def markE (b1 b2 : Bool) (k i : Nat) (e : Ent) : Ent := { e with act := e.act && !((b1 && decide (i = k)) || (b2 && decide (e.src = some k))) }
def markS (b1 b2 : Bool) (k : Nat) (es : List Ent) : List Ent := es.zipIdx.map fun p => markE b1 b2 k p.2 p.1
theorem mark_disc (es : List Ent) (k : Nat) : markS false true k es = discS es k := by
  unfold markS discS
  have : es = es.zipIdx.map Prod.fst := by rw [List.zipIdx_map_fst]
  conv => rhs; rw [this]
  rw [List.map_map]
  refine List.map_congr_left fun p _ => ?_
  simp [markE]
theorem mark_gone (es : List Ent) (k : Nat) : markS true false k es = goneS es k := by
  unfold markS
  refine List.ext_getElem? fun i => ?_
  rw [List.getElem?_map, List.getElem?_zipIdx]
  unfold goneS
  by_cases hk : k < es.length
  · rw [List.drop_eq_getElem_cons hk]
    have e1 : (es[k] :: es.drop (k + 1)).take 1 = [es[k]] := rfl
    rw [e1]
    rcases Nat.lt_trichotomy i k with h | h | h
    · rw [List.append_assoc, List.getElem?_append_left (by rw [List.length_take]; omega), List.getElem?_take, if_pos h]
      cases e : es[i]? with
      | none => rfl
      | some x =>
        have : ¬ i = k := by omega
        simp [markE, this]
    · subst h
      rw [List.append_assoc, List.getElem?_append_right (by rw [List.length_take]; omega), List.length_take, Nat.min_eq_left (by omega), Nat.sub_self, List.getElem?_eq_getElem hk]
      simp [markE]
    · rw [List.getElem?_append_right (by rw [List.length_append, List.length_take]; simp; omega), List.length_append, List.length_take, Nat.min_eq_left (by omega)]
      rw [List.getElem?_drop]
      have e2 : k + 1 + (i - (k + (List.map (fun e : Ent => { e with act := false }) [es[k]]).length)) = i := by simp; omega
      rw [e2]
      cases e : es[i]? with
      | none => rfl
      | some x =>
        have : ¬ i = k := by omega
        simp [markE, this]
  · have e1 : es.drop k = [] := List.drop_eq_nil_of_le (by omega)
    have e2 : es.drop (k + 1) = [] := List.drop_eq_nil_of_le (by omega)
    rw [e1, e2, List.take_of_length_le (by omega)]
    simp only [List.take_nil, List.map_nil, List.append_nil]
    cases e : es[i]? with
    | none => rfl
    | some x =>
      have hi := (List.getElem?_eq_some_iff.mp e).1
      have : ¬ i = k := by omega
      simp [markE, this]
theorem bodyB72_ok {F : Fns} {wh : Wh} {M : Mem} {A : List D} {SE CE W1 : D} {w : Str} {es : List Ent} {e : Ent} {i k : Nat} {b1 b2 : Bool} {x7 x8 x9 x10 : Option Vl} (hA : A.length ≤ 1000)
    (h1 : cmpop .eq (.str w) (.str "withdraw") = some b1) (h2 : cmpop .eq (.str w) (.str "discredit") = some b2) (h3 : getIx CE (.int 1) = some (nI k)) (he : es[i]? = some e) :
    ∃ y7 y8 y9 y10, execs F wh bodyB72 [some (.p SE), some (.p CE), some (.p (.str w)), some (.r M.length), some (.p (nI i)), some (.p (.tuple (es.map Ent.enc))), some (.p W1), x7, x8, x9, x10] (M ++ [.lst A]) = some (.nx [some (.p SE), some (.p CE), some (.p (.str w)), some (.r M.length), some (.p (nI i)), some (.p (.tuple (es.map Ent.enc))), some (.p W1), y7, y8, y9, y10], M ++ [.lst (A ++ [(markE b1 b2 k i e).enc])]) := by
  have hL : (M ++ [MO.lst A])[M.length]? = some (.lst A) := get_last
  have hap : A.length < line := by rw [line_big]; omega
  have q0 := ix_t72 (f := Ent.enc) he
  have eE : e.enc = .tuple [encN e.src, e.con.enc, .bool e.act] := rfl
  rw [eE] at q0
  have q1 : cmpop .eq (nI i) (nI k) = some (decide (i = k)) := by
    rw [eq_nb (flat_int 60 i) (flat_int 60 k) rfl rfl]
    congr 1
    exact decide_eq_decide.mpr ⟨fun h => nI_inj h, fun h => by rw [h]⟩
  have q2 := eq_N e.src k
  have qn : encN e.src = .none ↔ e.src = none := encN_inj (b := none)
  have eR : (markE b1 b2 k i e).enc = .tuple [encN e.src, e.con.enc, .bool (e.act && !((b1 && decide (i = k)) || (b2 && decide (e.src = some k))))] := rfl
  rw [eR]
  unfold bodyB72
  refine ⟨some (.p (.bool ((b1 && decide (i = k)) || (b2 && decide (e.src = some k))))), some (.p (encN e.src)), some (.p e.con.enc), some (.p (.bool e.act)), ?_⟩
  generalize PyData.tuple (es.map Ent.enc) = E1 at *
  generalize e.con.enc = CC at *
  generalize encN e.src = ON at *
  generalize nI i = NI at *
  generalize nI k = NK at *
  generalize decide (i = k) = DI at *
  generalize e.act = EA at *
  by_cases z : e.src = none
  · have zo := qn.mpr z
    have z2 : decide (e.src = some k) = false := by rw [z]; rfl
    rw [z2] at q2 ⊢
    cases b1 <;> cases b2 <;> cases DI <;> cases EA <;> simp [run_mk, look, putAll, h1, h2, h3, q0, q1, q2, zo, isLk_r hL, appOf_r hL, hap]
  · have zo : ¬ ON = .none := fun w => z (qn.mp w)
    generalize decide (e.src = some k) = DS at *
    cases b1 <;> cases b2 <;> cases DI <;> cases DS <;> cases EA <;> simp [run_mk, look, putAll, h1, h2, h3, q0, q1, q2, zo, isLk_r hL, appOf_r hL, hap]
def S_lbeh72 (F : Fns) : Prop := ∀ (st : NSt) (c : Cmd) (M : Mem), st.es.length ≤ 100 → st.ws.length ≤ 100 → F "_law_behind" [.p st.enc, .p c.enc] M = .ok (.p (behS st c).enc) M
theorem ok_lbeh72 {defs : List Df} (h : findD defs "_law_behind" = some d_law_behind72) : At defs 1 S_lbeh72 := At.succ fun m hm st c M hl hw => by
  rw [callF_at h rfl, d_law_behind72]
  have eS : st.enc = .tuple [.tuple (st.es.map Ent.enc), .tuple (st.ws.map Con.enc)] := rfl
  show fin false M.length (execs (callF whC defs m) whC (.cons _ _) [some (.p st.enc), some (.p c.enc), none, none, none, none, none, none, none, none, none] M) = _
  rw [step (g1 := [some (.p st.enc), some (.p c.enc), none, none, none, some (.p (.tuple (st.es.map Ent.enc))), some (.p (.tuple (st.ws.map Con.enc))), none, none, none, none]) (M1 := M) (by
    rw [eS]
    generalize PyData.tuple (st.es.map Ent.enc) = E1 at *
    generalize PyData.tuple (st.ws.map Con.enc) = W1 at *
    generalize c.enc = CE at *
    simp [run_mk, putAll])]
  -- the two that go over all entries
  have two : ∀ (CE : D) (w : Str) (b1 b2 : Bool) (k : Nat), getIx CE (.int 0) = some (.str w) → getIx CE (.int 1) = some (nI k) → cmpop .eq (.str w) (.str "report") = some false → cmpop .eq (.str w) (.str "see") = some false → cmpop .eq (.str w) (.str "watch") = some false → cmpop .eq (.str w) (.str "withdraw") = some b1 → cmpop .eq (.str w) (.str "discredit") = some b2 →
      fin false M.length (execs (callF whC defs m) whC (.cons (.set (.nm 2) (.ix (.var 1) (.con (.int 0)))) (.cons (.ite (.cmp .eq (.var 2) (.con (.str "report"))) (.cons (.ret (.tup (.cons (.bin .add (.var 5) (.tup (.cons (.tup (.cons (.ix (.var 1) (.con (.int 1))) (.cons (.ix (.var 1) (.con (.int 2))) (.cons (.con (.bool true)) .nil)))) .nil))) (.cons (.var 6) .nil)))) .nil) .nil) (.cons (.ite (.cmp .eq (.var 2) (.con (.str "see"))) (.cons (.ret (.tup (.cons (.bin .add (.var 5) (.tup (.cons (.tup (.cons (.con .none) (.cons (.tup (.cons (.con (.str "within")) (.cons (.ix (.var 1) (.con (.int 1))) (.cons (.ix (.var 1) (.con (.int 2))) (.cons (.ix (.var 1) (.con (.int 2))) .nil))))) (.cons (.con (.bool true)) .nil)))) .nil))) (.cons (.var 6) .nil)))) .nil) .nil) (.cons (.ite (.cmp .eq (.var 2) (.con (.str "watch"))) (.cons (.ret (.tup (.cons (.var 5) (.cons (.bin .add (.var 6) (.tup (.cons (.ix (.var 1) (.con (.int 1))) .nil))) .nil)))) .nil) .nil) (.cons (.new 3 (.lst .nil)) (.cons (.fr (.nm 4) (.rng (.cons (.bi .len (.var 5)) .nil)) (.cons (.set (.tp [8, 9, 10]) (.ix (.var 5) (.var 4))) (.cons (.set (.nm 7) (.and (.cons (.cmp .eq (.var 2) (.con (.str "withdraw"))) (.cons (.cmp .eq (.var 4) (.ix (.var 1) (.con (.int 1)))) .nil)))) (.cons (.ite (.and (.cons (.cmp .eq (.var 2) (.con (.str "discredit"))) (.cons (.cmp .isn (.var 8) (.con .none)) (.cons (.cmp .eq (.var 8) (.ix (.var 1) (.con (.int 1)))) .nil)))) (.cons (.set (.nm 7) (.con (.bool true))) .nil) .nil) (.cons (.app (.var 3) (.tup (.cons (.var 8) (.cons (.var 9) (.cons (.and (.cons (.var 10) (.cons (.not (.var 7)) .nil))) .nil))))) .nil))))) (.cons (.ret (.tup (.cons (.bi .tuple (.var 3)) (.cons (.var 6) .nil)))) .nil))))))) [some (.p st.enc), some (.p CE), none, none, none, some (.p (.tuple (st.es.map Ent.enc))), some (.p (.tuple (st.ws.map Con.enc))), none, none, none, none] M) = .ok (.p (NSt.enc ⟨markS b1 b2 k st.es, st.ws⟩)) M := by
    intro CE w b1 b2 k g0 g1 e1 e2 e3 e4 e5
    have ln : ∀ M : Mem, fBi .len M (.p (.tuple (st.es.map Ent.enc))) = .ok (.p (.int (st.es.length : Int))) M := fun M => by
      have := len_t (ds := st.es.map Ent.enc) (M := M)
      rwa [List.length_map] at this
    have hrg := fRwN (n := st.es.length) (M ++ [.lst []]) (by omega)
    rw [step (g1 := [some (.p st.enc), some (.p CE), some (.p (.str w)), none, none, some (.p (.tuple (st.es.map Ent.enc))), some (.p (.tuple (st.ws.map Con.enc))), none, none, none, none]) (M1 := M) (by
      generalize st.enc = SE at *
      generalize PyData.tuple (st.es.map Ent.enc) = E1 at *
      generalize PyData.tuple (st.ws.map Con.enc) = W1 at *
      simp [run_mk, look, g0])]
    rw [pass (M1 := M) (by
      generalize st.enc = SE at *
      generalize PyData.tuple (st.es.map Ent.enc) = E1 at *
      generalize PyData.tuple (st.ws.map Con.enc) = W1 at *
      simp [run_mk, look, e1])]
    rw [pass (M1 := M) (by
      generalize st.enc = SE at *
      generalize PyData.tuple (st.es.map Ent.enc) = E1 at *
      generalize PyData.tuple (st.ws.map Con.enc) = W1 at *
      simp [run_mk, look, e2])]
    rw [pass (M1 := M) (by
      generalize st.enc = SE at *
      generalize PyData.tuple (st.es.map Ent.enc) = E1 at *
      generalize PyData.tuple (st.ws.map Con.enc) = W1 at *
      simp [run_mk, look, e3])]
    rw [step (g1 := [some (.p st.enc), some (.p CE), some (.p (.str w)), some (.r M.length), none, some (.p (.tuple (st.es.map Ent.enc))), some (.p (.tuple (st.ws.map Con.enc))), none, none, none, none]) (M1 := M ++ [.lst []]) (by
      generalize st.enc = SE at *
      generalize PyData.tuple (st.es.map Ent.enc) = E1 at *
      generalize PyData.tuple (st.ws.map Con.enc) = W1 at *
      simp [run_mk])]
    rw [execs_cons]
    simp only [exec_fr, evIt_rng, evs_cons, evs_nil, ev_bi, ev_var, List.getElem?_cons_succ, List.getElem?_cons_zero, vr_some, th_ok, run_mk, ln, hrg, lf_ok]
    refine use_fx (fun j g M' => ∃ x4 x7 x8 x9 x10, M' = M ++ [.lst (((st.es.zipIdx.take j).map fun p => markE b1 b2 k p.2 p.1).map Ent.enc)] ∧ g = [some (.p st.enc), some (.p CE), some (.p (.str w)), some (.r M.length), x4, some (.p (.tuple (st.es.map Ent.enc))), some (.p (.tuple (st.ws.map Con.enc))), x7, x8, x9, x10]) ⟨none, none, none, none, none, by simp, rfl⟩ ?_ ?_
    · rintro j g M' x hx ⟨x4, x7, x8, x9, x10, rfl, rfl⟩
      obtain ⟨i, hi, rfl⟩ := get_map hx
      obtain ⟨rfl, hk⟩ := get_range hi
      have he := List.getElem?_eq_getElem hk
      have hz : st.es.zipIdx[i]? = some (st.es[i], i) := by rw [List.getElem?_zipIdx, he]; simp
      have e6 : (((st.es.zipIdx.take (i + 1)).map fun p => markE b1 b2 k p.2 p.1).map Ent.enc) = (((st.es.zipIdx.take i).map fun p => markE b1 b2 k p.2 p.1).map Ent.enc) ++ [(markE b1 b2 k i st.es[i]).enc] := by
        rw [List.take_succ, hz]
        simp
      rw [e6]
      obtain ⟨y7, y8, y9, y10, h3⟩ := bodyB72_ok (F := callF whC defs m) (wh := whC) (M := M) (A := (((st.es.zipIdx.take i).map fun p => markE b1 b2 k p.2 p.1).map Ent.enc)) (SE := st.enc) (CE := CE) (W1 := .tuple (st.ws.map Con.enc)) (x7 := x7) (x8 := x8) (x9 := x9) (x10 := x10) (by rw [List.length_map, List.length_map, List.length_take]; omega) e4 e5 g1 he
      exact ⟨_, rfl, _, _, h3, rfl, _, _, _, _, _, rfl, rfl⟩
    · rintro g M' ⟨x4, x7, x8, x9, x10, rfl, rfl⟩
      have e7 : st.es.zipIdx.take ((List.range st.es.length).map nI).length = st.es.zipIdx := by
        rw [List.length_map, List.length_range, List.take_of_length_le (by rw [List.length_zipIdx]; omega)]
      rw [e7]
      have eM : (st.es.zipIdx.map fun p => markE b1 b2 k p.2 p.1) = markS b1 b2 k st.es := rfl
      rw [eM]
      have eb : fBi .tuple (M ++ [MO.lst ((markS b1 b2 k st.es).map Ent.enc)]) (.r M.length) = .ok (.p (.tuple ((markS b1 b2 k st.es).map Ent.enc))) (M ++ [MO.lst ((markS b1 b2 k st.es).map Ent.enc)]) := by
        rw [fBi_r, look_r _ _ _ get_last]
        rfl
      show _ = Rs.ok (Vl.p (.tuple [.tuple ((markS b1 b2 k st.es).map Ent.enc), .tuple (st.ws.map Con.enc)])) M
      generalize (markS b1 b2 k st.es).map Ent.enc = MS at *
      generalize st.enc = SE at *
      generalize PyData.tuple (st.es.map Ent.enc) = E1 at *
      generalize PyData.tuple (st.ws.map Con.enc) = W1 at *
      simp [run_mk, eb]
  cases c with
  | report k c =>
    have g0 : getIx (Cmd.enc (.report k c)) (.int 0) = some (.str "report") := rfl
    have g1 : getIx (Cmd.enc (.report k c)) (.int 1) = some (nI k) := rfl
    have g2 : getIx (Cmd.enc (.report k c)) (.int 2) = some c.enc := rfl
    have e0 : cmpop .eq (.str "report") (.str "report") = some true := by decide +kernel
    have hadd : binop .add (.tuple (st.es.map Ent.enc)) (.tuple [.tuple [nI k, c.enc, .bool true]]) = some (.tuple ((st.es ++ [(⟨some k, c, true⟩ : Ent)]).map Ent.enc)) := by
      rw [add_t, if_pos (by rw [line_big, List.length_map]; simp; omega), List.map_append]
      rfl
    show _ = Rs.ok (Vl.p (.tuple [.tuple ((st.es ++ [(⟨some k, c, true⟩ : Ent)]).map Ent.enc), .tuple (st.ws.map Con.enc)])) M
    clear two
    generalize PyData.tuple ((st.es ++ [(⟨some k, c, true⟩ : Ent)]).map Ent.enc) = E2 at *
    generalize PyData.tuple (st.es.map Ent.enc) = E1 at *
    generalize PyData.tuple (st.ws.map Con.enc) = W1 at *
    generalize Cmd.enc (.report k c) = E at *
    generalize st.enc = SE at *
    generalize nI k = NK at *
    generalize c.enc = CE at *
    simp [run_mk, look, g0, g1, g2, e0, hadd]
  | see i p =>
    have g0 : getIx (Cmd.enc (.see i p)) (.int 0) = some (.str "see") := rfl
    have g1 : getIx (Cmd.enc (.see i p)) (.int 1) = some (nI i) := rfl
    have g2 : getIx (Cmd.enc (.see i p)) (.int 2) = some (nI p) := rfl
    have e0 : cmpop .eq (.str "see") (.str "report") = some false := by decide +kernel
    have e1 : cmpop .eq (.str "see") (.str "see") = some true := by decide +kernel
    have hadd : binop .add (.tuple (st.es.map Ent.enc)) (.tuple [.tuple [.none, .tuple [.str "within", nI i, nI p, nI p], .bool true]]) = some (.tuple ((st.es ++ [(⟨none, .within i p p, true⟩ : Ent)]).map Ent.enc)) := by
      rw [add_t, if_pos (by rw [line_big, List.length_map]; simp; omega), List.map_append]
      rfl
    show _ = Rs.ok (Vl.p (.tuple [.tuple ((st.es ++ [(⟨none, .within i p p, true⟩ : Ent)]).map Ent.enc), .tuple (st.ws.map Con.enc)])) M
    clear two
    generalize PyData.tuple ((st.es ++ [(⟨none, .within i p p, true⟩ : Ent)]).map Ent.enc) = E2 at *
    generalize PyData.tuple (st.es.map Ent.enc) = E1 at *
    generalize PyData.tuple (st.ws.map Con.enc) = W1 at *
    generalize Cmd.enc (.see i p) = E at *
    generalize st.enc = SE at *
    generalize nI i = NK at *
    generalize nI p = NP at *
    simp [run_mk, look, g0, g1, g2, e0, e1, hadd]
  | watch c =>
    have g0 : getIx (Cmd.enc (.watch c)) (.int 0) = some (.str "watch") := rfl
    have g1 : getIx (Cmd.enc (.watch c)) (.int 1) = some c.enc := rfl
    have e0 : cmpop .eq (.str "watch") (.str "report") = some false := by decide +kernel
    have e1 : cmpop .eq (.str "watch") (.str "see") = some false := by decide +kernel
    have e2 : cmpop .eq (.str "watch") (.str "watch") = some true := by decide +kernel
    have hadd : binop .add (.tuple (st.ws.map Con.enc)) (.tuple [c.enc]) = some (.tuple ((st.ws ++ [c]).map Con.enc)) := by
      rw [add_t, if_pos (by rw [line_big, List.length_map, List.length_singleton]; omega), List.map_append]
      rfl
    show _ = Rs.ok (Vl.p (.tuple [.tuple (st.es.map Ent.enc), .tuple ((st.ws ++ [c]).map Con.enc)])) M
    clear two
    generalize PyData.tuple ((st.ws ++ [c]).map Con.enc) = W2 at *
    generalize PyData.tuple (st.es.map Ent.enc) = E1 at *
    generalize PyData.tuple (st.ws.map Con.enc) = W1 at *
    generalize Cmd.enc (.watch c) = E at *
    generalize st.enc = SE at *
    generalize c.enc = CE at *
    simp [run_mk, look, g0, g1, e0, e1, e2, hadd]
  | discredit k =>
    have := two (Cmd.enc (.discredit k)) "discredit" false true k rfl rfl (by decide +kernel) (by decide +kernel) (by decide +kernel) (by decide +kernel) (by decide +kernel)
    rw [mark_disc] at this
    exact this
  | withdraw k =>
    have := two (Cmd.enc (.withdraw k)) "withdraw" true false k rfl rfl (by decide +kernel) (by decide +kernel) (by decide +kernel) (by decide +kernel) (by decide +kernel)
    rw [mark_gone] at this
    exact this
end Eg

/-! Plain: notebooks (k72), the methods. By an AI agent. -/
namespace Eg
open PySem
def nbk (n j : Nat) (cs : List Cmd) : MO := .ins "Notebook" [(Str.ofString "many", .p (nI n)), (Str.ofString "states", .r j), (Str.ofString "commands", .p (.tuple (cs.map Cmd.enc)))]
section
variable {M : Mem} {i n j : Nat} {cs : List Cmd}
theorem fld_many (h : M[i]? = some (nbk n j cs)) : fldOf "Notebook" "many" M (.r i) = some (.p (nI n)) := by
  unfold fldOf
  dsimp only
  rw [h]
  unfold nbk
  dsimp only
  rw [if_pos rfl]
  have e : (Str.ofString "many" == Str.ofString "many") = true := by decide +kernel
  simp only [List.lookup, e]
theorem fld_states (h : M[i]? = some (nbk n j cs)) : fldOf "Notebook" "states" M (.r i) = some (.r j) := by
  unfold fldOf
  dsimp only
  rw [h]
  unfold nbk
  dsimp only
  rw [if_pos rfl]
  have e : (Str.ofString "states" == Str.ofString "many") = false := by decide +kernel
  have e2 : (Str.ofString "states" == Str.ofString "states") = true := by decide +kernel
  simp only [List.lookup, e, e2]
theorem fld_cmds (h : M[i]? = some (nbk n j cs)) : fldOf "Notebook" "commands" M (.r i) = some (.p (.tuple (cs.map Cmd.enc))) := by
  unfold fldOf
  dsimp only
  rw [h]
  unfold nbk
  dsimp only
  rw [if_pos rfl]
  have e : (Str.ofString "commands" == Str.ofString "many") = false := by decide +kernel
  have e2 : (Str.ofString "commands" == Str.ofString "states") = false := by decide +kernel
  have e3 : (Str.ofString "commands" == Str.ofString "commands") = true := by decide +kernel
  simp only [List.lookup, e, e2, e3]
theorem ins_of (m : String) (h : M[i]? = some (nbk n j cs)) (e1 : (Str.ofString m == Str.ofString "many") = false) (e2 : (Str.ofString m == Str.ofString "states") = false) (e3 : (Str.ofString m == Str.ofString "commands") = false) {k : Lz (Rs Vl)} : @inV "Notebook" m (.r i) M k = k.get () := by
  unfold inV
  refine if_pos ?_
  unfold isIns
  dsimp only
  rw [h]
  unfold nbk
  dsimp only
  simp only [List.lookup, e1, e2, e3]
  rfl
theorem setf_cmds (h : M[i]? = some (nbk n j cs)) (cs2 : List Cmd) : setfOf "Notebook" "commands" (.r i) (.p (.tuple (cs2.map Cmd.enc))) M = some (M.set i (nbk n j cs2)) := by
  unfold setfOf
  dsimp only
  rw [h]
  unfold nbk
  dsimp only
  rw [if_pos ⟨rfl, by simp⟩]
  have e : ¬ Str.ofString "many" = Str.ofString "commands" := by decide +kernel
  have e2 : ¬ Str.ofString "states" = Str.ofString "commands" := by decide +kernel
  unfold putN
  rw [if_neg e]
  unfold putN
  rw [if_neg e2]
  unfold putN
  rw [if_pos rfl]
end
/-- a notebook in the memory -/
structure Nb (M : Mem) (i j n : Nat) (sts : List NSt) (st : NSt) (cs : List Cmd) : Prop where
  ins : M[i]? = some (nbk n j cs)
  lst : M[j]? = some (.lst ((sts ++ [st]).map NSt.enc))
  ne : i ≠ j
theorem Nb.last {M : Mem} {i j n : Nat} {sts : List NSt} {st : NSt} {cs : List Cmd} (N : Nb M i j n sts st cs) : getIx (.list ((sts ++ [st]).map NSt.enc)) (.int (-1)) = some st.enc := by
  rw [List.map_append]
  exact ix_last _ _
def S_ents72 (F : Fns) : Prop := ∀ (M : Mem) (i j n : Nat) (sts : List NSt) (st : NSt) (cs : List Cmd), Nb M i j n sts st cs → F "Notebook.entries" [.r i] M = .ok (.p (.tuple (st.es.map Ent.enc))) M
theorem ok_ents72 {defs : List Df} (h : findD defs "Notebook.entries" = some d_Notebook_entries72) : At defs 1 S_ents72 := At.succ fun m hm M i j n sts st cs N => by
  have f1 := fld_states N.ins
  have f2 := look_r _ _ _ N.lst
  have f3 := N.last
  have i0 : getIx st.enc (.int 0) = some (.tuple (st.es.map Ent.enc)) := rfl
  rw [callF_at h rfl, d_Notebook_entries72]
  generalize (sts ++ [st]).map NSt.enc = SL at *
  generalize PyData.tuple (st.es.map Ent.enc) = E1 at *
  generalize st.enc = SE at *
  simp [startG, List.replicate, run_mk, look_p, f1, f2, f3, i0]
def S_wats72 (F : Fns) : Prop := ∀ (M : Mem) (i j n : Nat) (sts : List NSt) (st : NSt) (cs : List Cmd), Nb M i j n sts st cs → F "Notebook.watches" [.r i] M = .ok (.p (.tuple (st.ws.map Con.enc))) M
theorem ok_wats72 {defs : List Df} (h : findD defs "Notebook.watches" = some d_Notebook_watches72) : At defs 1 S_wats72 := At.succ fun m hm M i j n sts st cs N => by
  have f1 := fld_states N.ins
  have f2 := look_r _ _ _ N.lst
  have f3 := N.last
  have i0 : getIx st.enc (.int 1) = some (.tuple (st.ws.map Con.enc)) := rfl
  rw [callF_at h rfl, d_Notebook_watches72]
  generalize (sts ++ [st]).map NSt.enc = SL at *
  generalize PyData.tuple (st.ws.map Con.enc) = E1 at *
  generalize st.enc = SE at *
  simp [startG, List.replicate, run_mk, look_p, f1, f2, f3, i0]
def S_jour72 (F : Fns) : Prop := ∀ (M : Mem) (i j n : Nat) (sts : List NSt) (st : NSt) (cs : List Cmd), Nb M i j n sts st cs → F "Notebook.journal" [.r i] M = .ok (.p (.tuple (cs.map Cmd.enc))) M
theorem ok_jour72 {defs : List Df} (h : findD defs "Notebook.journal" = some d_Notebook_journal72) : At defs 1 S_jour72 := At.succ fun m hm M i j n sts st cs N => by
  have f1 := fld_cmds N.ins
  rw [callF_at h rfl, d_Notebook_journal72]
  generalize PyData.tuple (cs.map Cmd.enc) = CE at *
  simp [startG, List.replicate, run_mk, look_p, f1]
def S_prob72 (F : Fns) : Prop := ∀ (M : Mem) (i j n : Nat) (sts : List NSt) (st : NSt) (cs : List Cmd), Nb M i j n sts st cs → st.es.length ≤ 100 → F "Notebook.problem" [.r i] M = .ok (.p (encP n (actC st.es))) M
theorem ok_prob72 {defs : List Df} {a : Nat} (h : findD defs "Notebook.problem" = some d_Notebook_problem72) (h1 : At defs a S_probof72) : At defs (a + 1) S_prob72 := At.succ fun m hm M i j n sts st cs N hl => by
  have h1 := h1 m hm n st M hl
  have f1 := fld_states N.ins
  have f2 := look_r _ _ _ N.lst
  have f3 := N.last
  have f4 := fld_many N.ins
  rw [callF_at h rfl, d_Notebook_problem72]
  generalize (sts ++ [st]).map NSt.enc = SL at *
  generalize encP n (actC st.es) = PP at *
  generalize st.enc = SE at *
  generalize nI n = NN at *
  simp [startG, List.replicate, run_mk, look_p, f1, f2, f3, f4, h1]
def actM (M : Mem) (i j n : Nat) (sts : List NSt) (st : NSt) (cs : List Cmd) (c : Cmd) : Mem := (M.set j (.lst (((sts ++ [st]) ++ [behS st c]).map NSt.enc))).set i (nbk n j (cs ++ [c]))
theorem Nb.act {M : Mem} {i j n : Nat} {sts : List NSt} {st : NSt} {cs : List Cmd} (N : Nb M i j n sts st cs) (c : Cmd) : Nb (actM M i j n sts st cs c) i j n (sts ++ [st]) (behS st c) (cs ++ [c]) := by
  have hi : i < M.length := (List.getElem?_eq_some_iff.mp N.ins).1
  have hj : j < M.length := (List.getElem?_eq_some_iff.mp N.lst).1
  unfold actM
  refine ⟨by rw [List.getElem?_set_self (by rw [List.length_set]; exact hi)], ?_, N.ne⟩
  rw [List.getElem?_set_ne N.ne, List.getElem?_set_self hj]
def S_act72 (F : Fns) : Prop := ∀ (M : Mem) (i j n : Nat) (sts : List NSt) (st : NSt) (cs : List Cmd) (c : Cmd), Nb M i j n sts st cs → c.ok n → n ≤ 7 → st.es.length ≤ 90 → st.ws.length ≤ 90 → cs.length < 20 → sts.length ≤ 100 →
  F "Notebook.act" [.r i, .p c.enc] M = match whyS st c with
    | none => .ok (.p (nI (actI (behS st c).es).length)) (actM M i j n sts st cs c)
    | some w => .exc "NotPossible" [("why", .str w)] M
theorem gone_len (es : List Ent) (k : Nat) : (goneS es k).length ≤ es.length := by
  unfold goneS
  simp only [List.length_append, List.length_map, List.length_take, List.length_drop]
  omega
theorem beh_len (st : NSt) (c : Cmd) : (behS st c).es.length ≤ st.es.length + 1 ∧ (behS st c).ws.length ≤ st.ws.length + 1 := by
  cases c with
  | report k c => exact ⟨by show (st.es ++ [_]).length ≤ _; simp, by show st.ws.length ≤ _; omega⟩
  | see i p => exact ⟨by show (st.es ++ [_]).length ≤ _; simp, by show st.ws.length ≤ _; omega⟩
  | discredit k => exact ⟨by show (discS st.es k).length ≤ _; unfold discS; rw [List.length_map]; omega, by show st.ws.length ≤ _; omega⟩
  | watch c => exact ⟨by show st.es.length ≤ _; omega, by show (st.ws ++ [c]).length ≤ _; simp⟩
  | withdraw k => exact ⟨by show (goneS st.es k).length ≤ _; have := gone_len st.es k; omega, by show st.ws.length ≤ _; omega⟩
theorem ok_act72 {defs : List Df} {a : Nat} (h : findD defs "Notebook.act" = some d_Notebook_act72) (h1 : At defs a S_iscmd72) (h2 : At defs a S_beh72) (h3 : At defs a S_actof72) : At defs (a + 1) S_act72 := At.succ fun m hm M i j n sts st cs c N hc n7 hl hw hcs hsl => by
  have h1 := h1 m hm n c M hc n7
  have h2 := h2 m hm st c M (by omega) (by omega)
  have h3 := h3 m hm (behS st c)
  have hbl := beh_len st c
  have f1 := fld_states N.ins
  have f2 := look_r _ _ _ N.lst
  have f3 := N.last
  have f4 := fld_many N.ins
  have f5 := fld_cmds N.ins
  have hi : i < M.length := (List.getElem?_eq_some_iff.mp N.ins).1
  have hj : j < M.length := (List.getElem?_eq_some_iff.mp N.lst).1
  rw [callF_at h rfl, d_Notebook_act72]
  show fin false M.length (execs (callF whC defs m) whC (.cons _ _) [some (.r i), some (.p c.enc), none] M) = _
  rw [pass (M1 := M) (by
    generalize (sts ++ [st]).map NSt.enc = SL at *
    generalize PyData.tuple (cs.map Cmd.enc) = CS at *
    generalize c.enc = CE at *
    generalize nI n = NN at *
    simp [run_mk, look_p, f4, h1])]
  clear h1
  unfold outB at h2
  cases w : whyS st c with
  | some x =>
    rw [w] at h2
    dsimp only at h2 ⊢
    generalize (sts ++ [st]).map NSt.enc = SL at *
    generalize PyData.tuple (cs.map Cmd.enc) = CS at *
    generalize c.enc = CE at *
    generalize st.enc = SE at *
    simp [run_mk, look_p, f1, f2, f3, h2]
  | none =>
    rw [w] at h2
    dsimp only at h2 ⊢
    rw [step (g1 := [some (.r i), some (.p c.enc), some (.p (behS st c).enc)]) (M1 := M) (by
      generalize (sts ++ [st]).map NSt.enc = SL at *
      generalize PyData.tuple (cs.map Cmd.enc) = CS at *
      generalize c.enc = CE at *
      generalize (behS st c).enc = BE at *
      generalize st.enc = SE at *
      simp [run_mk, look_p, f1, f2, f3, h2])]
    have ln := len_t (ds := cs.map Cmd.enc) (M := M)
    rw [List.length_map] at ln
    have z20 : ¬ (20 : Int) ≤ cs.length := by omega
    rw [pass (M1 := M) (by
      generalize PyData.tuple (cs.map Cmd.enc) = CS at *
      generalize c.enc = CE at *
      generalize (behS st c).enc = BE at *
      simp [run_mk, look_p, f5, ln, z20])]
    have hap : ((sts ++ [st]).map NSt.enc).length < line := by rw [line_big, List.length_map, List.length_append, List.length_singleton]; omega
    have ap := appOf_r (d := (behS st c).enc) N.lst
    rw [if_pos hap] at ap
    have eL : ((sts ++ [st]).map NSt.enc) ++ [(behS st c).enc] = (((sts ++ [st]) ++ [behS st c]).map NSt.enc) := by rw [List.map_append (l₁ := sts ++ [st])]; rfl
    rw [eL] at ap
    have lk := fun k : Lz Ro => isLk_r (k := k) N.lst
    rw [step (g1 := [some (.r i), some (.p c.enc), some (.p (behS st c).enc)]) (M1 := M.set j (.lst (((sts ++ [st]) ++ [behS st c]).map NSt.enc))) (by
      generalize (((sts ++ [st]) ++ [behS st c]).map NSt.enc) = S2 at *
      generalize c.enc = CE at *
      generalize (behS st c).enc = BE at *
      simp [run_mk, f1, ap, lk])]
    have hM2 : (M.set j (.lst (((sts ++ [st]) ++ [behS st c]).map NSt.enc)))[i]? = some (nbk n j cs) := by
      rw [List.getElem?_set_ne (Ne.symm N.ne)]
      exact N.ins
    have f6 := fld_cmds hM2
    have sf := setf_cmds hM2 (cs ++ [c])
    have hadd : binop .add (.tuple (cs.map Cmd.enc)) (.tuple [c.enc]) = some (.tuple ((cs ++ [c]).map Cmd.enc)) := by
      rw [add_t, if_pos (by rw [line_big, List.length_map, List.length_singleton]; omega), List.map_append]
      rfl
    have eA : (M.set j (.lst (((sts ++ [st]) ++ [behS st c]).map NSt.enc))).set i (nbk n j (cs ++ [c])) = actM M i j n sts st cs c := rfl
    rw [eA] at sf
    rw [step (g1 := [some (.r i), some (.p c.enc), some (.p (behS st c).enc)]) (M1 := actM M i j n sts st cs c) (by
      generalize PyData.tuple ((cs ++ [c]).map Cmd.enc) = C2 at *
      generalize PyData.tuple (cs.map Cmd.enc) = C1 at *
      generalize (((sts ++ [st]) ++ [behS st c]).map NSt.enc) = S2 at *
      generalize c.enc = CE at *
      generalize (behS st c).enc = BE at *
      simp [run_mk, look_p, f6, hadd, sf])]
    have h3 := h3 (actM M i j n sts st cs c) (by omega)
    have lA : (actM M i j n sts st cs c).length = M.length := by unfold actM; rw [List.length_set, List.length_set]
    have ln2 := len_t (ds := (actI (behS st c).es).map nI) (M := actM M i j n sts st cs c)
    rw [List.length_map] at ln2
    have ln2 : fBi .len (actM M i j n sts st cs c) (.p (encR (actI (behS st c).es))) = .ok (.p (nI (actI (behS st c).es).length)) (actM M i j n sts st cs c) := ln2
    have tk : (actM M i j n sts st cs c).take M.length = actM M i j n sts st cs c := List.take_of_length_le (by omega)
    clear sf eA hM2 f6
    generalize actM M i j n sts st cs c = M2 at *
    generalize encR (actI (behS st c).es) = AE at *
    generalize nI (actI (behS st c).es).length = AL at *
    generalize c.enc = CE at *
    generalize (behS st c).enc = BE at *
    simp [run_mk, h3, ln2, tk]
end Eg

/-! Plain: law k72. By an AI agent. -/
namespace Eg
open PySem
def d_law_k72 : Df := ⟨"law", 1, 10, false,
  (.cons (.set (.nm 1) (.call "_law_stream" (.cons (.var 0) .nil))) (.cons (.set (.nm 2) (.bin .add (.con (.int 1)) (.call "_law_next" (.cons (.var 1) (.cons (.con (.int 4)) .nil))))) (.cons (.set (.nm 3) (.mk "Notebook" 2 (.drop (.call "check_items" (.cons (.var 1) .nil)) (.fld "many" (.var 1) (.new "states" (.cons (.tup (.cons (.tup .nil) (.cons (.tup .nil) .nil))) .nil) (.fld "commands" (.tup .nil) .nil)))) (.cons (.var 2) .nil))) (.cons (.set (.nm 4) (.tup (.cons (.tup .nil) (.cons (.tup .nil) .nil)))) (.cons (.set (.nm 5) (.tup .nil)) (.cons (.fr (.nm 6) (.rng (.cons (.call "_law_next" (.cons (.var 1) (.cons (.con (.int 19)) .nil))) .nil)) (.cons (.set (.nm 7) (.call "_law_command" (.cons (.var 1) (.cons (.var 2) (.cons (.var 4) .nil))))) (.cons (.set (.nm 8) (.call "_law_why_not" (.cons (.var 4) (.cons (.var 7) .nil)))) (.cons (.ite (.cmp .eq (.var 8) (.con (.str ""))) (.cons (.set (.nm 4) (.call "_law_behind" (.cons (.var 4) (.cons (.var 7) .nil)))) (.cons (.set (.nm 5) (.bin .add (.var 5) (.tup (.cons (.var 7) .nil)))) (.cons (.set (.nm 8) (.bi .len (.call "_law_active" (.cons (.var 4) .nil)))) .nil))) (.cons (.set (.nm 8) (.lst (.cons (.con (.str "not")) (.cons (.var 8) .nil)))) .nil)) (.cons (.ite (.not (.call "_law_equal" (.cons (.call "_law_told" (.cons (.var 3) (.cons (.var 7) .nil))) (.cons (.var 8) .nil)))) (.cons (.ret (.con (.bool false))) .nil) .nil) (.cons (.set (.nm 9) (.lst (.cons (.meth "Notebook" (.var 3) "entries" .nil) (.cons (.meth "Notebook" (.var 3) "watches" .nil) (.cons (.meth "Notebook" (.var 3) "journal" .nil) (.cons (.meth "Notebook" (.var 3) "problem" .nil) .nil)))))) (.cons (.ite (.not (.call "_law_equal" (.cons (.var 9) (.cons (.lst (.cons (.ix (.var 4) (.con (.int 0))) (.cons (.ix (.var 4) (.con (.int 1))) (.cons (.var 5) (.cons (.tup (.cons (.var 2) (.cons (.call "_law_present" (.cons (.var 4) .nil)) .nil))) .nil))))) .nil)))) (.cons (.ret (.con (.bool false))) .nil) .nil) .nil))))))) (.cons (.ret (.con (.bool true))) .nil)))))))⟩

def bodyL72 : Sms := (.cons (.set (.nm 7) (.call "_law_command" (.cons (.var 1) (.cons (.var 2) (.cons (.var 4) .nil))))) (.cons (.set (.nm 8) (.call "_law_why_not" (.cons (.var 4) (.cons (.var 7) .nil)))) (.cons (.ite (.cmp .eq (.var 8) (.con (.str ""))) (.cons (.set (.nm 4) (.call "_law_behind" (.cons (.var 4) (.cons (.var 7) .nil)))) (.cons (.set (.nm 5) (.bin .add (.var 5) (.tup (.cons (.var 7) .nil)))) (.cons (.set (.nm 8) (.bi .len (.call "_law_active" (.cons (.var 4) .nil)))) .nil))) (.cons (.set (.nm 8) (.lst (.cons (.con (.str "not")) (.cons (.var 8) .nil)))) .nil)) (.cons (.ite (.not (.call "_law_equal" (.cons (.call "_law_told" (.cons (.var 3) (.cons (.var 7) .nil))) (.cons (.var 8) .nil)))) (.cons (.ret (.con (.bool false))) .nil) .nil) (.cons (.set (.nm 9) (.lst (.cons (.meth "Notebook" (.var 3) "entries" .nil) (.cons (.meth "Notebook" (.var 3) "watches" .nil) (.cons (.meth "Notebook" (.var 3) "journal" .nil) (.cons (.meth "Notebook" (.var 3) "problem" .nil) .nil)))))) (.cons (.ite (.not (.call "_law_equal" (.cons (.var 9) (.cons (.lst (.cons (.ix (.var 4) (.con (.int 0))) (.cons (.ix (.var 4) (.con (.int 1))) (.cons (.var 5) (.cons (.tup (.cons (.var 2) (.cons (.call "_law_present" (.cons (.var 4) .nil)) .nil))) .nil))))) .nil)))) (.cons (.ret (.con (.bool false))) .nil) .nil) .nil))))))
def iniN72 : Inis := (.drop (.call "check_items" (.cons (.var 1) .nil)) (.fld "many" (.var 1) (.new "states" (.cons (.tup (.cons (.tup .nil) (.cons (.tup .nil) .nil))) .nil) (.fld "commands" (.tup .nil) .nil))))
def S_items72 (F : Fns) : Prop := ∀ (n : Nat) (M : Mem), 1 ≤ n → n ≤ 7 → F "check_items" [.p (nI n)] M = .ok (.p .none) M
theorem ok_items72 {defs : List Df} {a : Nat} (h : findD defs "check_items" = some d_check_items72) (h1 : At defs a S_whole) : At defs (a + 1) S_items72 := At.succ fun m hm n M n1 n7 => by
  have h1 := h1 m hm (nI n) 1 7 M
  rw [show whole (nI n) 1 7 = true by simp [whole]; omega] at h1
  rw [callF_at h rfl, d_check_items72]
  generalize nI n = NN at *
  simp [startG, List.replicate, run_mk, look, h1]
def st0 : NSt := ⟨[], []⟩
theorem mk72 {F : Fns} (h : S_items72 F) {n : Nat} (n1 : 1 ≤ n) (n7 : n ≤ 7) (M : Mem) : mkV F "Notebook" 2 iniN72 [.p (nI n)] M = .ok (.r (M.length + 1)) (M ++ [.lst [st0.enc], nbk n M.length []]) := by
  have h := h n M n1 n7
  have e1 : (Str.ofString "states" == Str.ofString "many") = false := by decide +kernel
  have e2 : (Str.ofString "commands" == Str.ofString "many") = false := by decide +kernel
  have e3 : (Str.ofString "commands" == Str.ofString "states") = false := by decide +kernel
  have a1 : addN (Str.ofString "many") (.p (nI n)) [] = some [(Str.ofString "many", .p (nI n))] := if_pos ⟨rfl, by simp⟩
  have a2 : addN (Str.ofString "states") (.r M.length) [(Str.ofString "many", .p (nI n))] = some [(Str.ofString "many", .p (nI n)), (Str.ofString "states", .r M.length)] := if_pos ⟨by simp only [List.lookup, e1]; rfl, by simp⟩
  have a3 : addN (Str.ofString "commands") (.p (.tuple [])) [(Str.ofString "many", .p (nI n)), (Str.ofString "states", .r M.length)] = some [(Str.ofString "many", .p (nI n)), (Str.ofString "states", .r M.length), (Str.ofString "commands", .p (.tuple []))] := if_pos ⟨by simp only [List.lookup, e2, e3]; rfl, by simp⟩
  have eS : st0.enc = .tuple [.tuple [], .tuple []] := rfl
  have eN : nbk n M.length [] = .ins "Notebook" [(Str.ofString "many", .p (nI n)), (Str.ofString "states", .r M.length), (Str.ofString "commands", .p (.tuple []))] := rfl
  rw [eS, eN]
  unfold mkV iniN72
  have sg : startI 2 [.p (nI n)] = [none, some (.p (nI n))] := rfl
  have d1 : ev F (.call "check_items" (.cons (.var 1) .nil)) [none, some (.p (nI n))] M = .ok (.p .none) M := by
    generalize nI n = NN at *
    simp [run_mk, h]
  have d2 : ev F (.var 1) [none, some (.p (nI n))] M = .ok (.p (nI n)) M := rfl
  have d3 : evs F (.cons (.tup (.cons (.tup .nil) (.cons (.tup .nil) .nil))) .nil) [none, some (.p (nI n))] M = .ok [.p (.tuple [.tuple [], .tuple []])] M := rfl
  have d4 : ∀ M : Mem, ev F (.tup .nil) [none, some (.p (nI n))] M = .ok (.p (.tuple [])) M := fun _ => rfl
  have go : evI F (.drop (.call "check_items" (.cons (.var 1) .nil)) (.fld "many" (.var 1) (.new "states" (.cons (.tup (.cons (.tup .nil) (.cons (.tup .nil) .nil))) .nil) (.fld "commands" (.tup .nil) .nil)))) [none, some (.p (nI n))] M [] = .ok [(Str.ofString "many", .p (nI n)), (Str.ofString "states", .r M.length), (Str.ofString "commands", .p (.tuple []))] (M ++ [.lst [.tuple [.tuple [], .tuple []]]]) := by
    simp only [evI, d1, d2, d3, d4, Rs.bind, plain_p, plains_nil, plains_cons, Option.map_some, Rs.of_some, a1, a2, a3]
  rw [sg, go]
  show Rs.ok (Vl.r (M ++ [MO.lst [.tuple [.tuple [], .tuple []]]]).length) _ = _
  rw [List.length_append, List.append_assoc]
  rfl
theorem Nb.set0 {M : Mem} {i j n k : Nat} {sts : List NSt} {st : NSt} {cs : List Cmd} {o : MO} (N : Nb M i j n sts st cs) (h1 : k ≠ i) (h2 : k ≠ j) : Nb (M.set k o) i j n sts st cs :=
  ⟨by rw [List.getElem?_set_ne h1]; exact N.ins, by rw [List.getElem?_set_ne h2]; exact N.lst, N.ne⟩
theorem why_ok {st : NSt} {c : Cmd} {w : Str} (h : whyS st c = some w) : PyData.strOk w = true ∧ decide (w = "") = false := by
  have k : (PyData.strOk "full" = true ∧ decide (("full" : Str) = "") = false) ∧ (PyData.strOk "silent" = true ∧ decide (("silent" : Str) = "") = false) ∧ (PyData.strOk "watches" = true ∧ decide (("watches" : Str) = "") = false) ∧ (PyData.strOk "missing" = true ∧ decide (("missing" : Str) = "") = false) ∧ (PyData.strOk "seen" = true ∧ decide (("seen" : Str) = "") = false) ∧ (PyData.strOk "inactive" = true ∧ decide (("inactive" : Str) = "") = false) := by decide +kernel
  obtain ⟨k1, k2, k3, k4, k5, k6⟩ := k
  cases c with
  | report s c => simp only [whyS] at h; split at h <;> cases h; exact k1
  | see i p => simp only [whyS] at h; split at h <;> cases h; exact k1
  | discredit s => simp only [whyS] at h; split at h <;> cases h; exact k2
  | watch c => simp only [whyS] at h; split at h <;> cases h; exact k3
  | withdraw k =>
    simp only [whyS] at h
    split at h
    · cases h; exact k4
    · split at h
      · cases h; exact k5
      · split at h <;> cases h; exact k6
def toldT (st : NSt) (c : Cmd) : D := match whyS st c with
  | none => nI (actI (behS st c).es).length
  | some w => .list [.str "not", .str w]
def toldM (M : Mem) (i j n : Nat) (sts : List NSt) (st : NSt) (cs : List Cmd) (c : Cmd) : Mem := match whyS st c with
  | none => actM M i j n sts st cs c
  | some _ => M
def S_ltold72 (F : Fns) : Prop := ∀ (M : Mem) (i j n : Nat) (sts : List NSt) (st : NSt) (cs : List Cmd) (c : Cmd), Nb M i j n sts st cs → c.ok n → n ≤ 7 → st.es.length ≤ 90 → st.ws.length ≤ 90 → cs.length < 20 → sts.length ≤ 100 →
  F "_law_told" [.r i, .p c.enc] M = .ok (.p (toldT st c)) (toldM M i j n sts st cs c)
theorem ok_ltold72 {defs : List Df} {a : Nat} (h : findD defs "_law_told" = some d_law_told72) (h1 : At defs a S_act72) : At defs (a + 1) S_ltold72 := At.succ fun m hm M i j n sts st cs c N hc n7 hl hw hcs hsl => by
  have h1 := h1 m hm M i j n sts st cs c N hc n7 hl hw hcs hsl
  have hin := fun k : Lz (Rs Vl) => ins_of (k := k) "act" N.ins (by decide +kernel) (by decide +kernel) (by decide +kernel)
  rw [callF_at h rfl, d_law_told72]
  show fin false M.length (execs (callF whC defs m) whC (.cons _ _) [some (.r i), some (.p c.enc), none] M) = _
  have lA : (actM M i j n sts st cs c).length = M.length := by unfold actM; rw [List.length_set, List.length_set]
  have tk : (actM M i j n sts st cs c).take M.length = actM M i j n sts st cs c := List.take_of_length_le (by omega)
  unfold toldT toldM
  cases w : whyS st c with
  | none =>
    rw [w] at h1
    dsimp only at h1 ⊢
    generalize c.enc = CE at *
    generalize actM M i j n sts st cs c = M2 at *
    generalize nI (actI (behS st c).es).length = AL at *
    rw [try_rt (M1 := M2) (v := .p AL) (by simp [run_mk, hin, h1])]
    simp [tk]
  | some x =>
    rw [w] at h1
    dsimp only at h1 ⊢
    generalize c.enc = CE at *
    rw [try_xc (g := [some (.r i), some (.p CE), none]) (c := "NotPossible") (fs := [("why", .str x)]) (d := .list [.str "not", .str x]) (by simp [run_mk, hin, h1]) (by decide) (by rfl)]
    simp
/-! ### sizes -/
theorem fit_nI (k n : Nat) : fit k (nI n) = true := by cases k <;> rfl
theorem fit_N (k : Nat) (o : Option Nat) : fit k (encN o) = true := by
  cases o with
  | none => cases k <;> rfl
  | some x => exact fit_nI k x
theorem fit_tup72 {k : Nat} {ds : List D} (hl : ds.length ≤ 1000000) (h : ∀ d ∈ ds, fit k d = true) : fit (k + 1) (.tuple ds) = true := by
  show (decide (ds.length ≤ 1000000) && fits k ds) = true
  rw [decide_eq_true hl, fits_mem.mpr h]
  rfl
theorem fit_lst72 {k : Nat} {ds : List D} (hl : ds.length ≤ 1000000) (h : ∀ d ∈ ds, fit k d = true) : fit (k + 1) (.list ds) = true := by
  show (decide (ds.length ≤ 1000000) && fits k ds) = true
  rw [decide_eq_true hl, fits_mem.mpr h]
  rfl
theorem fit_enc72 (k : Nat) (c : Con) : fit (k + 1) c.enc = true := by
  cases c with
  | ahead x y =>
    refine fit_tup72 (by simp) fun d hd => ?_
    simp only [List.mem_cons, List.not_mem_nil, or_false] at hd
    rcases hd with rfl | rfl | rfl
    · rw [fit_str]; exact sok_ahead
    · exact fit_nI k x
    · exact fit_nI k y
  | within i lo hi =>
    refine fit_tup72 (by simp) fun d hd => ?_
    simp only [List.mem_cons, List.not_mem_nil, or_false] at hd
    rcases hd with rfl | rfl | rfl | rfl
    · rw [fit_str]; exact sok_within
    · exact fit_nI k i
    · exact fit_nI k lo
    · exact fit_nI k hi
theorem fit_Ent (k : Nat) (e : Ent) : fit (k + 2) e.enc = true := by
  refine fit_tup72 (by simp) fun d hd => ?_
  simp only [List.mem_cons, List.not_mem_nil, or_false] at hd
  rcases hd with rfl | rfl | rfl
  · exact fit_N _ _
  · exact fit_enc72 k _
  · rfl
theorem sok_cmd72 (c : Cmd) : ∃ w ds, c.enc = .tuple (.str w :: ds) ∧ PyData.strOk w = true ∧ (∀ d ∈ ds, ∀ k, fit (k + 1) d = true) ∧ (∀ d ∈ ds, flat 1 d = true) ∧ ds.length ≤ 3 := by
  obtain ⟨k1, k2, k3, k4, k5⟩ := sok72
  have f1 : ∀ x : Nat, flat 1 (nI x) = true := fun x => flat_int 1 x
  cases c with
  | report s c => exact ⟨_, [nI s, c.enc], rfl, k1, fun d hd k => by
      rcases List.mem_cons.mp hd with rfl | hd
      · exact fit_nI _ _
      · rw [List.mem_singleton.mp hd]; exact fit_enc72 k c, fun d hd => by
      rcases List.mem_cons.mp hd with rfl | hd
      · exact f1 s
      · rw [List.mem_singleton.mp hd]; exact flat_enc c, by simp⟩
  | see i p => exact ⟨_, [nI i, nI p], rfl, k2, fun d hd k => by
      rcases List.mem_cons.mp hd with rfl | hd
      · exact fit_nI _ _
      · rw [List.mem_singleton.mp hd]; exact fit_nI _ _, fun d hd => by
      rcases List.mem_cons.mp hd with rfl | hd
      · exact f1 i
      · rw [List.mem_singleton.mp hd]; exact f1 p, by simp⟩
  | discredit s => exact ⟨_, [nI s], rfl, k4, fun d hd k => by rw [List.mem_singleton.mp hd]; exact fit_nI _ _, fun d hd => by rw [List.mem_singleton.mp hd]; exact f1 s, by simp⟩
  | watch c => exact ⟨_, [c.enc], rfl, k5, fun d hd k => by rw [List.mem_singleton.mp hd]; exact fit_enc72 k c, fun d hd => by rw [List.mem_singleton.mp hd]; exact flat_enc c, by simp⟩
  | withdraw s => exact ⟨_, [nI s], rfl, k3, fun d hd k => by rw [List.mem_singleton.mp hd]; exact fit_nI _ _, fun d hd => by rw [List.mem_singleton.mp hd]; exact f1 s, by simp⟩
theorem fit_Cmd (k : Nat) (c : Cmd) : fit (k + 2) c.enc = true := by
  obtain ⟨w, ds, e, h1, h2, _, h4⟩ := sok_cmd72 c
  rw [e]
  refine fit_tup72 (by simp; omega) fun d hd => ?_
  rcases List.mem_cons.mp hd with rfl | hd
  · rw [fit_str]; exact h1
  · exact h2 d hd k
theorem flat_Cmd (c : Cmd) : flat 2 c.enc = true := by
  obtain ⟨w, ds, e, h1, _, h3, _⟩ := sok_cmd72 c
  rw [e]
  show flats 1 (.str w :: ds) = true
  refine flats_mem.mpr fun d hd => ?_
  rcases List.mem_cons.mp hd with rfl | hd
  · rw [flat_str]; exact h1
  · exact h3 d hd
def allD (n : Nat) (st : NSt) (cs : List Cmd) : D := .list [.tuple (st.es.map Ent.enc), .tuple (st.ws.map Con.enc), .tuple (cs.map Cmd.enc), encP n (actC st.es)]
theorem mem_map72 {α : Type} {f : α → D} {l : List α} {P : D → Prop} (h : ∀ x, P (f x)) : ∀ d ∈ l.map f, P d := fun d hd => by
  obtain ⟨x, _, rfl⟩ := List.mem_map.mp hd
  exact h x
theorem actC_len (es : List Ent) : (actC es).length ≤ es.length := by unfold actC; rw [List.length_map]; exact List.length_filter_le _ _
theorem fit_all72 (n : Nat) (st : NSt) (cs : List Cmd) (h1 : st.es.length ≤ 1000) (h2 : st.ws.length ≤ 1000) (h3 : cs.length ≤ 1000) : fit 4 (allD n st cs) = true ∧ Ok (allD n st cs) := by
  have h4 := actC_len st.es
  constructor
  · refine fit_lst72 (by simp) fun d hd => ?_
    simp only [List.mem_cons, List.not_mem_nil, or_false] at hd
    rcases hd with rfl | rfl | rfl | rfl
    · exact fit_tup72 (by rw [List.length_map]; omega) (mem_map72 fun e => fit_Ent 0 e)
    · exact fit_tup72 (by rw [List.length_map]; omega) (mem_map72 fun e => fit_enc72 1 e)
    · exact fit_tup72 (by rw [List.length_map]; omega) (mem_map72 fun e => fit_Cmd 0 e)
    · refine fit_tup72 (by simp) fun d hd => ?_
      simp only [List.mem_cons, List.not_mem_nil, or_false] at hd
      rcases hd with rfl | rfl
      · exact fit_nI 2 n
      · exact fit_tup72 (ds := (actC st.es).map Con.enc) (by rw [List.length_map]; omega) (mem_map72 fun e => fit_enc72 0 e)
  · refine ⟨4, ?_⟩
    show flats 3 [_, _, _, _] = true
    refine flats_mem.mpr fun d hd => ?_
    simp only [List.mem_cons, List.not_mem_nil, or_false] at hd
    rcases hd with rfl | rfl | rfl | rfl
    · exact flats_mem.mpr (mem_map72 fun e => flat_Ent 0 e)
    · exact flats_mem.mpr (mem_map72 fun e => flat_up (m := 2) _ (flat_enc e) (by omega))
    · exact flats_mem.mpr (mem_map72 fun e => flat_Cmd e)
    · refine flats_mem.mpr fun d hd => ?_
      simp only [List.mem_cons, List.not_mem_nil, or_false] at hd
      rcases hd with rfl | rfl
      · exact flat_int 2 n
      · exact flats_mem.mpr (mem_map72 fun e => flat_enc e)
theorem fit_told72 (st : NSt) (c : Cmd) : fit 4 (toldT st c) = true ∧ Ok (toldT st c) := by
  unfold toldT
  cases w : whyS st c with
  | none => exact ⟨fit_nI _ _, ⟨1, flat_int 1 _⟩⟩
  | some x =>
    obtain ⟨h1, _⟩ := why_ok w
    have kn : PyData.strOk "not" = true := by decide +kernel
    constructor
    · refine fit_lst72 (by simp) fun d hd => ?_
      simp only [List.mem_cons, List.not_mem_nil, or_false] at hd
      rcases hd with rfl | rfl
      · rw [fit_str]; exact kn
      · rw [fit_str]; exact h1
    · refine ⟨2, flats_mem.mpr fun d hd => ?_⟩
      simp only [List.mem_cons, List.not_mem_nil, or_false] at hd
      rcases hd with rfl | rfl
      · rw [flat_str]; exact kn
      · rw [flat_str]; exact h1
/-! ### a turn -/
structure Lw (F : Fns) : Prop where
  cmd : S_lcmd72 F
  why : S_lwhy72 F
  beh : S_lbeh72 F
  act : S_lact72 F
  pre : S_lpres72 F
  told : S_ltold72 F
  eq : S_equal 4 F
  ent : S_ents72 F
  wat : S_wats72 F
  jou : S_jour72 F
  prb : S_prob72 F
set_option maxHeartbeats 2000000 in
theorem bodyL72_ok {F : Fns} {wh : Wh} {ns : List Int} {n : Nat} {M : Mem} {s : S} {sts : List NSt} {st : NSt} {cs : List Cmd} {x6 x7 x8 x9 : Option Vl} (L : Lw F) (n1 : 1 ≤ n) (n7 : n ≤ 7) (hs : M[0]? = some s.mo) (N : Nb M 2 1 n sts st cs) (he : st.es.length ≤ 18) (hw : st.ws.length ≤ 18) (hc : cs.length < 20) (hst : sts.length ≤ 20) :
    ∃ (s' : S) (M' : Mem) (sts' : List NSt) (st' : NSt) (cs' : List Cmd) (y7 y8 y9 : Option Vl), execs F wh bodyL72 [some (.s (ns.map PyData.int)), some (.r 0), some (.p (nI n)), some (.r 2), some (.p st.enc), some (.p (.tuple (cs.map Cmd.enc))), x6, x7, x8, x9] M = some (.nx [some (.s (ns.map PyData.int)), some (.r 0), some (.p (nI n)), some (.r 2), some (.p st'.enc), some (.p (.tuple (cs'.map Cmd.enc))), x6, y7, y8, y9], M') ∧ M'[0]? = some s'.mo ∧ Nb M' 2 1 n sts' st' cs' ∧ st'.es.length ≤ st.es.length + 1 ∧ st'.ws.length ≤ st.ws.length + 1 ∧ cs'.length ≤ cs.length + 1 ∧ sts'.length ≤ sts.length + 1 := by
  obtain ⟨c, s1, hco, e1⟩ := L.cmd M 0 s n st hs n1 n7 (by omega)
  have N1 : Nb (M.set 0 s1.mo) 2 1 n sts st cs := N.set0 (by omega) (by omega)
  have hs1 : (M.set 0 s1.mo)[0]? = some s1.mo := set_at hs
  generalize M.set 0 s1.mo = M1 at *
  have e2 := L.why st c M1 (by omega) (by omega)
  have e3 := L.told M1 2 1 n sts st cs c N1 hco n7 (by omega) (by omega) hc (by omega)
  obtain ⟨f1, f2⟩ := fit_told72 st c
  have hbl := beh_len st c
  unfold bodyL72
  rw [step (g1 := [some (.s (ns.map PyData.int)), some (.r 0), some (.p (nI n)), some (.r 2), some (.p st.enc), some (.p (.tuple (cs.map Cmd.enc))), x6, some (.p c.enc), x8, x9]) (M1 := M1) (by
    generalize PyData.tuple (cs.map Cmd.enc) = CS at *
    generalize st.enc = SE at *
    generalize c.enc = CE at *
    generalize nI n = NN at *
    simp [run_mk, e1])]
  rw [step (g1 := [some (.s (ns.map PyData.int)), some (.r 0), some (.p (nI n)), some (.r 2), some (.p st.enc), some (.p (.tuple (cs.map Cmd.enc))), x6, some (.p c.enc), some (.p (.str (whyT st c))), x9]) (M1 := M1) (by
    generalize PyData.tuple (cs.map Cmd.enc) = CS at *
    generalize st.enc = SE at *
    generalize c.enc = CE at *
    generalize nI n = NN at *
    simp [run_mk, e2])]
  have key : ∃ (M2 : Mem) (sts' : List NSt) (st' : NSt) (cs' : List Cmd), exec F wh (.ite (.cmp .eq (.var 8) (.con (.str ""))) (.cons (.set (.nm 4) (.call "_law_behind" (.cons (.var 4) (.cons (.var 7) .nil)))) (.cons (.set (.nm 5) (.bin .add (.var 5) (.tup (.cons (.var 7) .nil)))) (.cons (.set (.nm 8) (.bi .len (.call "_law_active" (.cons (.var 4) .nil)))) .nil))) (.cons (.set (.nm 8) (.lst (.cons (.con (.str "not")) (.cons (.var 8) .nil)))) .nil)) [some (.s (ns.map PyData.int)), some (.r 0), some (.p (nI n)), some (.r 2), some (.p st.enc), some (.p (.tuple (cs.map Cmd.enc))), x6, some (.p c.enc), some (.p (.str (whyT st c))), x9] M1 = some (.nx [some (.s (ns.map PyData.int)), some (.r 0), some (.p (nI n)), some (.r 2), some (.p st'.enc), some (.p (.tuple (cs'.map Cmd.enc))), x6, some (.p c.enc), some (.p (toldT st c)), x9], M1) ∧ toldM M1 2 1 n sts st cs c = M2 ∧ M2[0]? = some s1.mo ∧ Nb M2 2 1 n sts' st' cs' ∧ st'.es.length ≤ st.es.length + 1 ∧ st'.ws.length ≤ st.ws.length + 1 ∧ cs'.length ≤ cs.length + 1 ∧ sts'.length ≤ sts.length + 1 := by
    cases w : whyS st c with
    | none =>
      have hT : whyT st c = "" := by unfold whyT; rw [w]; rfl
      have hD : toldT st c = nI (actI (behS st c).es).length := by unfold toldT; rw [w]
      have hM : toldM M1 2 1 n sts st cs c = actM M1 2 1 n sts st cs c := by unfold toldM; rw [w]
      refine ⟨actM M1 2 1 n sts st cs c, sts ++ [st], behS st c, cs ++ [c], ?_, hM, ?_, N1.act c, hbl.1, hbl.2, by simp, by simp⟩
      · have q0 : cmpop .eq (.str "") (.str "") = some true := by decide +kernel
        have q1 := L.beh st c M1 (by omega) (by omega)
        have q2 := L.act (behS st c) M1 (by omega)
        have hadd : binop .add (.tuple (cs.map Cmd.enc)) (.tuple [c.enc]) = some (.tuple ((cs ++ [c]).map Cmd.enc)) := by
          rw [add_t, if_pos (by rw [line_big, List.length_map, List.length_singleton]; omega), List.map_append]
          rfl
        have ln := len_t (ds := (actI (behS st c).es).map nI) (M := M1)
        rw [List.length_map] at ln
        have ln : fBi .len M1 (.p (encR (actI (behS st c).es))) = .ok (.p (nI (actI (behS st c).es).length)) M1 := ln
        rw [hT, hD]
        generalize encR (actI (behS st c).es) = AE at *
        generalize nI (actI (behS st c).es).length = AL at *
        generalize PyData.tuple ((cs ++ [c]).map Cmd.enc) = C2 at *
        generalize PyData.tuple (cs.map Cmd.enc) = CS at *
        generalize (behS st c).enc = BE at *
        generalize st.enc = SE at *
        generalize c.enc = CE at *
        generalize nI n = NN at *
        simp [run_mk, look, q0, q1, q2, hadd, ln]
      · unfold actM
        rw [List.getElem?_set_ne (by omega), List.getElem?_set_ne (by omega)]
        exact hs1
    | some x =>
      obtain ⟨h1, h2⟩ := why_ok w
      have hT : whyT st c = x := by unfold whyT; rw [w]; rfl
      have hD : toldT st c = .list [.str "not", .str x] := by unfold toldT; rw [w]
      have hM : toldM M1 2 1 n sts st cs c = M1 := by unfold toldM; rw [w]
      refine ⟨M1, sts, st, cs, ?_, hM, hs1, N1, by omega, by omega, by omega, by omega⟩
      have q0 : cmpop .eq (.str x) (.str "") = some false := by rw [eq_s h1 (by decide +kernel), h2]
      rw [hT, hD]
      generalize PyData.tuple (cs.map Cmd.enc) = CS at *
      generalize st.enc = SE at *
      generalize c.enc = CE at *
      generalize nI n = NN at *
      simp [run_mk, look, q0]
  obtain ⟨M2, sts', st', cs', k1, k2, k3, N2, l1, l2, l3, l4⟩ := key
  rw [k2] at e3
  rw [step k1]
  have q3 := L.eq (toldT st c) (toldT st c) M2 f1 f2
  rw [decide_eq_true rfl] at q3
  refine ⟨s1, M2, sts', st', cs', some (.p c.enc), some (.p (toldT st c)), some (.p (allD n st' cs')), ?_, k3, N2, l1, l2, l3, l4⟩
  rw [pass (M1 := M2) (by
    generalize toldT st c = TD at *
    generalize PyData.tuple (cs'.map Cmd.enc) = CS at *
    generalize st'.enc = SE at *
    generalize c.enc = CE at *
    generalize nI n = NN at *
    simp [run_mk, look, e3, q3])]
  clear e3 q3 k1
  have p1 := L.ent M2 2 1 n sts' st' cs' N2
  have p2 := L.wat M2 2 1 n sts' st' cs' N2
  have p3 := L.jou M2 2 1 n sts' st' cs' N2
  have p4 := L.prb M2 2 1 n sts' st' cs' N2 (by omega)
  have h1 := fun k : Lz (Rs Vl) => ins_of (k := k) "entries" N2.ins (by decide +kernel) (by decide +kernel) (by decide +kernel)
  have h2 := fun k : Lz (Rs Vl) => ins_of (k := k) "watches" N2.ins (by decide +kernel) (by decide +kernel) (by decide +kernel)
  have h3 := fun k : Lz (Rs Vl) => ins_of (k := k) "journal" N2.ins (by decide +kernel) (by decide +kernel) (by decide +kernel)
  have h4 := fun k : Lz (Rs Vl) => ins_of (k := k) "problem" N2.ins (by decide +kernel) (by decide +kernel) (by decide +kernel)
  have eA : allD n st' cs' = .list [.tuple (st'.es.map Ent.enc), .tuple (st'.ws.map Con.enc), .tuple (cs'.map Cmd.enc), encP n (actC st'.es)] := rfl
  rw [step (g1 := [some (.s (ns.map PyData.int)), some (.r 0), some (.p (nI n)), some (.r 2), some (.p st'.enc), some (.p (.tuple (cs'.map Cmd.enc))), x6, some (.p c.enc), some (.p (toldT st c)), some (.p (allD n st' cs'))]) (M1 := M2) (by
    rw [eA]
    generalize toldT st c = TD at *
    generalize PyData.tuple (cs'.map Cmd.enc) = CS at *
    generalize PyData.tuple (st'.es.map Ent.enc) = E1 at *
    generalize PyData.tuple (st'.ws.map Con.enc) = W1 at *
    generalize encP n (actC st'.es) = PP at *
    generalize st'.enc = SE at *
    generalize c.enc = CE at *
    generalize nI n = NN at *
    simp [run_mk, look, h1, h2, h3, h4, p1, p2, p3, p4])]
  obtain ⟨g1, g2⟩ := fit_all72 n st' cs' (by omega) (by omega) (by omega)
  have q5 := L.eq (allD n st' cs') (allD n st' cs') M2 g1 g2
  rw [decide_eq_true rfl] at q5
  have q6 := L.pre st' M2 (by omega)
  have i0 : getIx st'.enc (.int 0) = some (.tuple (st'.es.map Ent.enc)) := rfl
  have i1 : getIx st'.enc (.int 1) = some (.tuple (st'.ws.map Con.enc)) := rfl
  have eA2 : allD n st' cs' = .list [.tuple (st'.es.map Ent.enc), .tuple (st'.ws.map Con.enc), .tuple (cs'.map Cmd.enc), .tuple [nI n, .tuple ((actC st'.es).map Con.enc)]] := rfl
  have q5 : F "_law_equal" [.p (allD n st' cs'), .p (.list [.tuple (st'.es.map Ent.enc), .tuple (st'.ws.map Con.enc), .tuple (cs'.map Cmd.enc), .tuple [nI n, .tuple ((actC st'.es).map Con.enc)]])] M2 = .ok (.p (.bool true)) M2 := by
    rw [← eA2]
    exact q5
  rw [pass (M1 := M2) (by
    clear eA eA2 g1 g2
    generalize allD n st' cs' = AD at *
    generalize toldT st c = TD at *
    generalize PyData.tuple (cs'.map Cmd.enc) = CS at *
    generalize PyData.tuple (st'.es.map Ent.enc) = E1 at *
    generalize PyData.tuple (st'.ws.map Con.enc) = W1 at *
    generalize PyData.tuple ((actC st'.es).map Con.enc) = PP at *
    generalize st'.enc = SE at *
    generalize c.enc = CE at *
    generalize nI n = NN at *
    simp [run_mk, look, i0, i1, q6, q5])]
  simp
set_option maxHeartbeats 2000000 in
theorem ok_law_k72 {defs : List Df} {a : Nat} (h : findD defs "law" = some d_law_k72) (hst : At defs a S_stream) (hnx : At defs a S_next) (hit : At defs a S_items72) (hcm : At defs a S_lcmd72) (hwy : At defs a S_lwhy72) (hbe : At defs a S_lbeh72) (hac : At defs a S_lact72) (hpr : At defs a S_lpres72) (hto : At defs a S_ltold72) (heq : At defs a (S_equal 4)) (hen : At defs a S_ents72) (hwa : At defs a S_wats72) (hjo : At defs a S_jour72) (hpb : At defs a S_prob72) : At defs (a + 1) S_lawT := At.succ fun mm hm ns hns => by
  have L : Lw (callF whC defs mm) := ⟨hcm mm hm, hwy mm hm, hbe mm hm, hac mm hm, hpr mm hm, hto mm hm, heq mm hm, hen mm hm, hwa mm hm, hjo mm hm, hpb mm hm⟩
  have hst := hst mm hm
  have hnx := hnx mm hm
  have hit := hit mm hm
  rw [callF_at h rfl, d_law_k72]
  obtain ⟨s0, e0⟩ := hst ns
  obtain ⟨d1, s1, b1, e1⟩ := hnx.nat (M := [s0.mo]) (i := 0) (s := s0) (many := 4) rfl (by omega) (by omega)
  have e1 : callF whC defs mm "_law_next" [.r 0, .p (.int 4)] [s0.mo] = .ok (.p (.int (d1 : Int))) [s1.mo] := e1
  show ∃ M', fin false 0 (execs (callF whC defs mm) whC (.cons _ _) [some (.s (ns.map PyData.int)), none, none, none, none, none, none, none, none, none] []) = .ok (.p (.bool true)) M'
  rw [step (g1 := [some (.s (ns.map PyData.int)), some (.r 0), none, none, none, none, none, none, none, none]) (M1 := [s0.mo]) (by simp [run_mk, e0])]
  obtain ⟨n, hn⟩ : ∃ n, n = 1 + d1 := ⟨_, rfl⟩
  have n1 : 1 ≤ n := by omega
  have n7 : n ≤ 7 := by omega
  rw [step (g1 := [some (.s (ns.map PyData.int)), some (.r 0), some (.p (nI n)), none, none, none, none, none, none, none]) (M1 := [s1.mo]) (by
    have en : nI n = .int (1 + (d1 : Int)) := by rw [hn]; show PyData.int ((1 + d1 : Nat) : Int) = _; congr 1
    rw [en]
    simp [run_mk, look, e1])]
  have em := mk72 hit n1 n7 [s1.mo]
  have em : mkV (callF whC defs mm) "Notebook" 2 (.drop (.call "check_items" (.cons (.var 1) .nil)) (.fld "many" (.var 1) (.new "states" (.cons (.tup (.cons (.tup .nil) (.cons (.tup .nil) .nil))) .nil) (.fld "commands" (.tup .nil) .nil)))) [.p (nI n)] [s1.mo] = .ok (.r 2) [s1.mo, .lst [st0.enc], nbk n 1 []] := em
  rw [step (g1 := [some (.s (ns.map PyData.int)), some (.r 0), some (.p (nI n)), some (.r 2), none, none, none, none, none, none]) (M1 := [s1.mo, .lst [st0.enc], nbk n 1 []]) (by
    generalize nI n = NN at *
    simp [run_mk, em])]
  rw [step (g1 := [some (.s (ns.map PyData.int)), some (.r 0), some (.p (nI n)), some (.r 2), some (.p st0.enc), none, none, none, none, none]) (M1 := [s1.mo, .lst [st0.enc], nbk n 1 []]) (by
    show _ = some (Fl.nx [some (.s (ns.map PyData.int)), some (.r 0), some (.p (nI n)), some (.r 2), some (.p (.tuple [.tuple [], .tuple []])), none, none, none, none, none], _)
    generalize nI n = NN at *
    simp [run_mk])]
  rw [step (g1 := [some (.s (ns.map PyData.int)), some (.r 0), some (.p (nI n)), some (.r 2), some (.p st0.enc), some (.p (.tuple (([] : List Cmd).map Cmd.enc))), none, none, none, none]) (M1 := [s1.mo, .lst [st0.enc], nbk n 1 []]) (by
    show _ = some (Fl.nx [some (.s (ns.map PyData.int)), some (.r 0), some (.p (nI n)), some (.r 2), some (.p st0.enc), some (.p (.tuple [])), none, none, none, none], _)
    generalize nI n = NN at *
    generalize st0.enc = SE at *
    simp [run_mk])]
  obtain ⟨d2, s2, b2, e2⟩ := hnx.nat (M := [s1.mo, .lst [st0.enc], nbk n 1 []]) (i := 0) (s := s1) (many := 19) rfl (by omega) (by omega)
  have e2 : callF whC defs mm "_law_next" [.r 0, .p (.int 19)] [s1.mo, .lst [st0.enc], nbk n 1 []] = .ok (.p (.int (d2 : Int))) [s2.mo, .lst [st0.enc], nbk n 1 []] := e2
  have hrg := fRwN (n := d2) [s2.mo, .lst [st0.enc], nbk n 1 []] (by omega)
  rw [execs_cons]
  simp only [exec_fr, evIt_rng, evs_cons, evs_nil, ev_call, ev_con, ev_var, List.getElem?_cons_succ, List.getElem?_cons_zero, vr_some, th_ok, run_mk, e2, hrg, lf_ok]
  refine use_fz (fun k g M' => ∃ (s : S) (sts : List NSt) (st : NSt) (cs : List Cmd) (x6 x7 x8 x9 : Option Vl), M'[0]? = some s.mo ∧ Nb M' 2 1 n sts st cs ∧ st.es.length ≤ k ∧ st.ws.length ≤ k ∧ cs.length ≤ k ∧ sts.length ≤ k ∧ g = [some (.s (ns.map PyData.int)), some (.r 0), some (.p (nI n)), some (.r 2), some (.p st.enc), some (.p (.tuple (cs.map Cmd.enc))), x6, x7, x8, x9]) ⟨s2, [], st0, [], none, none, none, none, rfl, ⟨rfl, rfl, by omega⟩, by simp [st0], by simp [st0], by simp, by simp, rfl⟩ ?_ ?_
  · rintro k g M' x hx ⟨s, sts, st, cs, x6, x7, x8, x9, hs, N, l1, l2, l3, l4, rfl⟩
    obtain ⟨j, hj, rfl⟩ := get_map hx
    obtain ⟨rfl, hk⟩ := get_range hj
    obtain ⟨s', M2, sts', st', cs', y7, y8, y9, h3, h4, N2, m1, m2, m3, m4⟩ := bodyL72_ok (F := callF whC defs mm) (wh := whC) (ns := ns) (n := n) (M := M') (s := s) (sts := sts) (st := st) (cs := cs) (x6 := some (.p (nI j))) (x7 := x7) (x8 := x8) (x9 := x9) L n1 n7 hs N (by omega) (by omega) (by omega) (by omega)
    exact ⟨_, rfl, _, _, h3, rfl, s', sts', st', cs', some (.p (nI j)), y7, y8, y9, h4, N2, by omega, by omega, by omega, by omega, rfl⟩
  · rintro g M' ⟨s, sts, st, cs, x6, x7, x8, x9, hs, N, l1, l2, l3, l4, rfl⟩
    refine ⟨[], ?_⟩
    generalize st.enc = SE at *
    generalize PyData.tuple (cs.map Cmd.enc) = CS at *
    generalize nI n = NN at *
    simp [run_mk]
end Eg

namespace P72
open PySem Eg

def d_is_whole : Df := ⟨"is_whole", 3, 3, false,
  (.cons (.ret (.and (.cons (.isi (.var 0) .int) (.cons (.not (.isi (.var 0) .bool)) (.cons (.cmp2 .le .le (.var 1) (.var 0) (.var 2)) .nil))))) .nil)⟩
def d_is_constraint : Df := ⟨"is_constraint", 2, 3, false,
  (.cons (.ite (.or (.cons (.not (.isi (.var 1) .tuple)) (.cons (.cmp .eq (.bi .len (.var 1)) (.con (.int 0))) (.cons (.not (.isi (.ix (.var 1) (.con (.int 0))) .str)) .nil)))) (.cons (.ret (.con (.bool false))) .nil) .nil) (.cons (.ite (.cmp .eq (.ix (.var 1) (.con (.int 0))) (.con (.str "within"))) (.cons (.ite (.or (.cons (.cmp .ne (.bi .len (.var 1)) (.con (.int 4))) (.cons (.not (.call "is_whole" (.cons (.ix (.var 1) (.con (.int 1))) (.cons (.con (.int 0)) (.cons (.bin .sub (.var 0) (.con (.int 1))) .nil))))) .nil))) (.cons (.ret (.con (.bool false))) .nil) .nil) (.cons (.ret (.and (.cons (.call "is_whole" (.cons (.ix (.var 1) (.con (.int 2))) (.cons (.con (.int 1)) (.cons (.var 0) .nil)))) (.cons (.call "is_whole" (.cons (.ix (.var 1) (.con (.int 3))) (.cons (.ix (.var 1) (.con (.int 2))) (.cons (.var 0) .nil)))) .nil)))) .nil)) .nil) (.cons (.ite (.or (.cons (.cmp .ne (.ix (.var 1) (.con (.int 0))) (.con (.str "ahead"))) (.cons (.cmp .ne (.bi .len (.var 1)) (.con (.int 3))) .nil))) (.cons (.ret (.con (.bool false))) .nil) .nil) (.cons (.ret (.and (.cons (.bi .all (.lc (.call "is_whole" (.cons (.var 2) (.cons (.con (.int 0)) (.cons (.bin .sub (.var 0) (.con (.int 1))) .nil)))) (.nm 2) (.sq (.sl (.var 1) (.som (.con (.int 1))) .non)) .nil [2])) (.cons (.cmp .ne (.ix (.var 1) (.con (.int 1))) (.ix (.var 1) (.con (.int 2)))) .nil)))) .nil))))⟩
def d_check_items : Df := ⟨"check_items", 1, 1, false,
  (.cons (.ite (.not (.call "is_whole" (.cons (.var 0) (.cons (.con (.int 1)) (.cons (.gcon "MOST_ITEMS" (.int 7)) .nil))))) (.cons (.rse "BadValue" ["name"] (.cons (.con (.str "items")) .nil)) .nil) .nil) .nil)⟩
def d_is_command : Df := ⟨"is_command", 2, 2, false,
  (.cons (.ite (.or (.cons (.not (.isi (.var 0) .tuple)) (.cons (.cmp .notin (.bi .len (.var 0)) (.tup (.cons (.con (.int 2)) (.cons (.con (.int 3)) .nil)))) (.cons (.not (.isi (.ix (.var 0) (.con (.int 0))) .str)) .nil)))) (.cons (.ret (.con (.bool false))) .nil) .nil) (.cons (.ite (.cmp .eq (.ix (.var 0) (.con (.int 0))) (.con (.str "report"))) (.cons (.ret (.and (.cons (.cmp .eq (.bi .len (.var 0)) (.con (.int 3))) (.cons (.call "is_whole" (.cons (.ix (.var 0) (.con (.int 1))) (.cons (.con (.int 0)) (.cons (.gcon "MOST_SOURCE" (.int 5)) .nil)))) (.cons (.call "is_constraint" (.cons (.var 1) (.cons (.ix (.var 0) (.con (.int 2))) .nil))) .nil))))) .nil) .nil) (.cons (.ite (.cmp .eq (.ix (.var 0) (.con (.int 0))) (.con (.str "see"))) (.cons (.ret (.and (.cons (.cmp .eq (.bi .len (.var 0)) (.con (.int 3))) (.cons (.call "is_whole" (.cons (.ix (.var 0) (.con (.int 1))) (.cons (.con (.int 0)) (.cons (.bin .sub (.var 1) (.con (.int 1))) .nil)))) (.cons (.call "is_whole" (.cons (.ix (.var 0) (.con (.int 2))) (.cons (.con (.int 1)) (.cons (.var 1) .nil)))) .nil))))) .nil) .nil) (.cons (.ite (.cmp .ne (.bi .len (.var 0)) (.con (.int 2))) (.cons (.ret (.con (.bool false))) .nil) .nil) (.cons (.ite (.cmp .eq (.ix (.var 0) (.con (.int 0))) (.con (.str "withdraw"))) (.cons (.ret (.call "is_whole" (.cons (.ix (.var 0) (.con (.int 1))) (.cons (.con (.int 0)) (.cons (.bin .sub (.gcon "MOST_CONSTRAINTS" (.int 12)) (.con (.int 1))) .nil))))) .nil) .nil) (.cons (.ite (.cmp .eq (.ix (.var 0) (.con (.int 0))) (.con (.str "discredit"))) (.cons (.ret (.call "is_whole" (.cons (.ix (.var 0) (.con (.int 1))) (.cons (.con (.int 0)) (.cons (.gcon "MOST_SOURCE" (.int 5)) .nil))))) .nil) .nil) (.cons (.ret (.and (.cons (.cmp .eq (.ix (.var 0) (.con (.int 0))) (.con (.str "watch"))) (.cons (.call "is_constraint" (.cons (.var 1) (.cons (.ix (.var 0) (.con (.int 1))) .nil))) .nil)))) .nil)))))))⟩
def d_with_entry : Df := ⟨"with_entry", 3, 5, false,
  (.cons (.set (.tp [3, 4]) (.var 0)) (.cons (.ite (.cmp .ge (.bi .len (.var 3)) (.gcon "MOST_CONSTRAINTS" (.int 12))) (.cons (.rse "NotPossible" ["why"] (.cons (.con (.str "full")) .nil)) .nil) .nil) (.cons (.ret (.tup (.cons (.bin .add (.var 3) (.tup (.cons (.tup (.cons (.var 1) (.cons (.var 2) (.cons (.con (.bool true)) .nil)))) .nil))) (.cons (.var 4) .nil)))) .nil)))⟩
def d_withdrawn : Df := ⟨"withdrawn", 2, 7, false,
  (.cons (.set (.tp [2, 3]) (.var 0)) (.cons (.ite (.cmp .ge (.var 1) (.bi .len (.var 2))) (.cons (.rse "NotPossible" ["why"] (.cons (.con (.str "missing")) .nil)) .nil) .nil) (.cons (.set (.tp [4, 5, 6]) (.ix (.var 2) (.var 1))) (.cons (.ite (.cmp .is_ (.var 4) (.con .none)) (.cons (.rse "NotPossible" ["why"] (.cons (.con (.str "seen")) .nil)) .nil) .nil) (.cons (.ite (.not (.var 6)) (.cons (.rse "NotPossible" ["why"] (.cons (.con (.str "inactive")) .nil)) .nil) .nil) (.cons (.ret (.tup (.cons (.bin .add (.bin .add (.sl (.var 2) .non (.som (.var 1))) (.tup (.cons (.tup (.cons (.var 4) (.cons (.var 5) (.cons (.con (.bool false)) .nil)))) .nil))) (.sl (.var 2) (.som (.bin .add (.var 1) (.con (.int 1)))) .non)) (.cons (.var 3) .nil)))) .nil))))))⟩
def d_discredited : Df := ⟨"discredited", 2, 8, false,
  (.cons (.set (.tp [3, 4]) (.var 0)) (.cons (.set (.nm 2) (.bi .tuple (.lc (.tup (.cons (.var 5) (.cons (.var 6) (.cons (.and (.cons (.var 7) (.cons (.cmp .ne (.var 5) (.var 1)) .nil))) .nil)))) (.tp [5, 6, 7]) (.sq (.var 3)) .nil [5, 6, 7]))) (.cons (.ite (.cmp .eq (.var 2) (.var 3)) (.cons (.rse "NotPossible" ["why"] (.cons (.con (.str "silent")) .nil)) .nil) .nil) (.cons (.ret (.tup (.cons (.var 2) (.cons (.var 4) .nil)))) .nil))))⟩
def d_behind : Df := ⟨"behind", 2, 3, false,
  (.cons (.set (.nm 2) (.ix (.var 1) (.con (.int 0)))) (.cons (.ite (.cmp .eq (.var 2) (.con (.str "report"))) (.cons (.ret (.call "with_entry" (.cons (.var 0) (.cons (.ix (.var 1) (.con (.int 1))) (.cons (.ix (.var 1) (.con (.int 2))) .nil))))) .nil) .nil) (.cons (.ite (.cmp .eq (.var 2) (.con (.str "see"))) (.cons (.ret (.call "with_entry" (.cons (.var 0) (.cons (.con .none) (.cons (.tup (.cons (.con (.str "within")) (.cons (.ix (.var 1) (.con (.int 1))) (.cons (.ix (.var 1) (.con (.int 2))) (.cons (.ix (.var 1) (.con (.int 2))) .nil))))) .nil))))) .nil) .nil) (.cons (.ite (.cmp .eq (.var 2) (.con (.str "withdraw"))) (.cons (.ret (.call "withdrawn" (.cons (.var 0) (.cons (.ix (.var 1) (.con (.int 1))) .nil)))) .nil) .nil) (.cons (.ite (.cmp .eq (.var 2) (.con (.str "discredit"))) (.cons (.ret (.call "discredited" (.cons (.var 0) (.cons (.ix (.var 1) (.con (.int 1))) .nil)))) .nil) .nil) (.cons (.ite (.cmp .ge (.bi .len (.ix (.var 0) (.con (.int 1)))) (.gcon "MOST_WATCHES" (.int 4))) (.cons (.rse "NotPossible" ["why"] (.cons (.con (.str "watches")) .nil)) .nil) .nil) (.cons (.ret (.tup (.cons (.ix (.var 0) (.con (.int 0))) (.cons (.bin .add (.ix (.var 0) (.con (.int 1))) (.tup (.cons (.ix (.var 1) (.con (.int 1))) .nil))) .nil)))) .nil)))))))⟩
def d_active_of : Df := ⟨"active_of", 1, 3, false,
  (.cons (.ret (.bi .tuple (.lc (.var 1) (.tp [1, 2]) (.enm (.ix (.var 0) (.con (.int 0)))) (.cons (.ix (.var 2) (.con (.int 2))) .nil) [1, 2]))) .nil)⟩
def d_problem_of : Df := ⟨"problem_of", 2, 5, false,
  (.cons (.ret (.tup (.cons (.var 0) (.cons (.bi .tuple (.lc (.var 3) (.tp [2, 3, 4]) (.sq (.ix (.var 1) (.con (.int 0)))) (.cons (.var 4) .nil) [2, 3, 4])) .nil)))) .nil)⟩
def d_law_stream : Df := ⟨"_law_stream", 1, 1, true,
  (.cons (.retn (.lst (.cons (.bi .list (.var 0)) (.cons (.con (.int 0)) (.cons (.con (.int 0)) .nil))))) .nil)⟩
def d_law_next : Df := ⟨"_law_next", 2, 5, false,
  (.cons (.ite (.cmp .eq (.ix (.var 0) (.con (.int 1))) (.con (.int 0))) (.cons (.set (.nm 3) (.ix (.var 0) (.con (.int 2)))) (.cons (.set (.nm 4) (.bin .add (.con (.int 7)) (.var 3))) (.cons (.ite (.cmp .lt (.var 3) (.bi .len (.ix (.var 0) (.con (.int 0))))) (.cons (.set (.nm 4) (.bi .abs (.ix (.ix (.var 0) (.con (.int 0))) (.var 3)))) .nil) .nil) (.cons (.ite (.cmp .lt (.var 4) (.bin .pow (.con (.int 10)) (.con (.int 18)))) (.cons (.set (.nm 4) (.bin .mod (.bi .int (.bin .add (.bin .add (.bin .mul (.var 4) (.con (.int 48271))) (.bin .mul (.var 3) (.con (.int 69621)))) (.con (.int 11)))) (.con (.int 2147483647)))) (.cons (.set (.nm 4) (.bin .add (.bin .mul (.bin .mod (.bi .int (.bin .add (.bin .mul (.var 4) (.con (.int 16807))) (.con (.int 13)))) (.con (.int 2147483647))) (.con (.int 65537))) (.var 4))) .nil)) .nil) (.cons (.put (.var 0) (.con (.int 1)) (.var 4)) (.cons (.put (.var 0) (.con (.int 2)) (.bin .add (.var 3) (.con (.int 1)))) .nil)))))) .nil) (.cons (.set (.nm 2) (.bin .mod (.bi .int (.ix (.var 0) (.con (.int 1)))) (.var 1))) (.cons (.put (.var 0) (.con (.int 1)) (.bin .fdiv (.ix (.var 0) (.con (.int 1))) (.var 1))) (.cons (.ret (.var 2)) .nil))))⟩
def d_law_is_integer : Df := ⟨"_law_is_integer", 1, 1, false,
  (.cons (.ret (.and (.cons (.isi (.var 0) .int) (.cons (.not (.isi (.var 0) .bool)) .nil)))) .nil)⟩
def d_law_equal : Df := ⟨"_law_equal", 2, 3, false,
  (.cons (.ite (.cmp .is_ (.var 1) (.con .none)) (.cons (.ret (.cmp .is_ (.var 0) (.con .none))) .nil) .nil) (.cons (.ite (.isi (.var 1) .bool) (.cons (.ret (.and (.cons (.isi (.var 0) .bool) (.cons (.cmp .eq (.var 0) (.var 1)) .nil)))) .nil) .nil) (.cons (.ite (.isi (.var 1) .int) (.cons (.ret (.and (.cons (.call "_law_is_integer" (.cons (.var 0) .nil)) (.cons (.cmp .eq (.var 0) (.var 1)) .nil)))) .nil) .nil) (.cons (.ite (.isi (.var 1) .str) (.cons (.ret (.and (.cons (.isi (.var 0) .str) (.cons (.cmp .eq (.var 0) (.var 1)) .nil)))) .nil) .nil) (.cons (.ite (.and (.cons (.isi (.var 1) .tuple) (.cons (.not (.isi (.var 0) .tuple)) .nil))) (.cons (.ret (.con (.bool false))) .nil) .nil) (.cons (.ite (.and (.cons (.isi (.var 1) .list) (.cons (.not (.isi (.var 0) .list)) .nil))) (.cons (.ret (.con (.bool false))) .nil) .nil) (.cons (.ite (.cmp .ne (.bi .len (.var 0)) (.bi .len (.var 1))) (.cons (.ret (.con (.bool false))) .nil) .nil) (.cons (.ret (.bi .all (.lc (.call "_law_equal" (.cons (.ix (.var 0) (.var 2)) (.cons (.ix (.var 1) (.var 2)) .nil))) (.nm 2) (.rng (.cons (.bi .len (.var 1)) .nil)) .nil [2]))) .nil))))))))⟩
def d_law_constraint : Df := ⟨"_law_constraint", 2, 4, false,
  (.cons (.set (.nm 2) (.call "_law_next" (.cons (.var 0) (.cons (.var 1) .nil)))) (.cons (.ite (.and (.cons (.cmp .gt (.var 1) (.con (.int 1))) (.cons (.cmp .eq (.call "_law_next" (.cons (.var 0) (.cons (.con (.int 2)) .nil))) (.con (.int 1))) .nil))) (.cons (.ret (.tup (.cons (.con (.str "ahead")) (.cons (.var 2) (.cons (.bin .mod (.bi .int (.bin .add (.bin .add (.var 2) (.con (.int 1))) (.call "_law_next" (.cons (.var 0) (.cons (.bin .sub (.var 1) (.con (.int 1))) .nil))))) (.var 1)) .nil))))) .nil) .nil) (.cons (.set (.nm 3) (.bin .add (.con (.int 1)) (.call "_law_next" (.cons (.var 0) (.cons (.var 1) .nil))))) (.cons (.ret (.tup (.cons (.con (.str "within")) (.cons (.var 2) (.cons (.var 3) (.cons (.bin .add (.var 3) (.call "_law_next" (.cons (.var 0) (.cons (.bin .sub (.bin .add (.var 1) (.con (.int 1))) (.var 3)) .nil)))) .nil)))))) .nil))))⟩
def d_law_command : Df := ⟨"_law_command", 3, 6, false,
  (.cons (.set (.tp [4, 5]) (.var 2)) (.cons (.set (.nm 3) (.call "_law_next" (.cons (.var 0) (.cons (.con (.int 10)) .nil)))) (.cons (.ite (.cmp .lt (.var 3) (.con (.int 4))) (.cons (.ret (.tup (.cons (.con (.str "report")) (.cons (.call "_law_next" (.cons (.var 0) (.cons (.con (.int 3)) .nil))) (.cons (.call "_law_constraint" (.cons (.var 0) (.cons (.var 1) .nil))) .nil))))) .nil) .nil) (.cons (.ite (.cmp .eq (.var 3) (.con (.int 4))) (.cons (.ret (.tup (.cons (.con (.str "see")) (.cons (.call "_law_next" (.cons (.var 0) (.cons (.var 1) .nil))) (.cons (.bin .add (.con (.int 1)) (.call "_law_next" (.cons (.var 0) (.cons (.var 1) .nil)))) .nil))))) .nil) .nil) (.cons (.ite (.cmp .eq (.var 3) (.con (.int 5))) (.cons (.ret (.tup (.cons (.con (.str "discredit")) (.cons (.call "_law_next" (.cons (.var 0) (.cons (.con (.int 4)) .nil))) .nil)))) .nil) .nil) (.cons (.ite (.cmp .lt (.var 3) (.con (.int 8))) (.cons (.ret (.tup (.cons (.con (.str "watch")) (.cons (.call "_law_constraint" (.cons (.var 0) (.cons (.var 1) .nil))) .nil)))) .nil) .nil) (.cons (.ret (.tup (.cons (.con (.str "withdraw")) (.cons (.bin .mod (.ix (.lst (.cons (.call "_law_next" (.cons (.var 0) (.cons (.con (.int 12)) .nil))) (.cons (.call "_law_next" (.cons (.var 0) (.cons (.bin .add (.bi .len (.var 4)) (.con (.int 1))) .nil))) .nil))) (.call "_law_next" (.cons (.var 0) (.cons (.con (.int 2)) .nil)))) (.con (.int 12))) .nil)))) .nil)))))))⟩
def d_law_why_not : Df := ⟨"_law_why_not", 2, 6, false,
  (.cons (.set (.tp [3, 4]) (.var 0)) (.cons (.set (.nm 2) (.ix (.var 1) (.con (.int 0)))) (.cons (.ite (.cmp .isin (.var 2) (.lst (.cons (.con (.str "report")) (.cons (.con (.str "see")) .nil)))) (.cons (.ret (.ix (.lst (.cons (.con (.str "")) (.cons (.con (.str "full")) .nil))) (.bi .int (.cmp .ge (.bi .len (.var 3)) (.con (.int 12)))))) .nil) .nil) (.cons (.ite (.cmp .eq (.var 2) (.con (.str "watch"))) (.cons (.ret (.ix (.lst (.cons (.con (.str "")) (.cons (.con (.str "watches")) .nil))) (.bi .int (.cmp .ge (.bi .len (.var 4)) (.con (.int 4)))))) .nil) .nil) (.cons (.ite (.cmp .eq (.var 2) (.con (.str "discredit"))) (.cons (.ret (.ix (.lst (.cons (.con (.str "silent")) (.cons (.con (.str "")) .nil))) (.bi .int (.bi .any (.lc (.and (.cons (.cmp .eq (.ix (.var 5) (.con (.int 0))) (.ix (.var 1) (.con (.int 1)))) (.cons (.ix (.var 5) (.con (.int 2))) .nil))) (.nm 5) (.sq (.var 3)) (.cons (.cmp .isn (.ix (.var 5) (.con (.int 0))) (.con .none)) .nil) [5]))))) .nil) .nil) (.cons (.ite (.cmp .ge (.ix (.var 1) (.con (.int 1))) (.bi .len (.var 3))) (.cons (.ret (.con (.str "missing"))) .nil) .nil) (.cons (.ite (.cmp .is_ (.ix (.ix (.var 3) (.ix (.var 1) (.con (.int 1)))) (.con (.int 0))) (.con .none)) (.cons (.ret (.con (.str "seen"))) .nil) .nil) (.cons (.ret (.ix (.lst (.cons (.con (.str "inactive")) (.cons (.con (.str "")) .nil))) (.bi .int (.ix (.ix (.var 3) (.ix (.var 1) (.con (.int 1)))) (.con (.int 2)))))) .nil))))))))⟩
def d_law_behind : Df := ⟨"_law_behind", 2, 11, false,
  (.cons (.set (.tp [5, 6]) (.var 0)) (.cons (.set (.nm 2) (.ix (.var 1) (.con (.int 0)))) (.cons (.ite (.cmp .eq (.var 2) (.con (.str "report"))) (.cons (.ret (.tup (.cons (.bin .add (.var 5) (.tup (.cons (.tup (.cons (.ix (.var 1) (.con (.int 1))) (.cons (.ix (.var 1) (.con (.int 2))) (.cons (.con (.bool true)) .nil)))) .nil))) (.cons (.var 6) .nil)))) .nil) .nil) (.cons (.ite (.cmp .eq (.var 2) (.con (.str "see"))) (.cons (.ret (.tup (.cons (.bin .add (.var 5) (.tup (.cons (.tup (.cons (.con .none) (.cons (.tup (.cons (.con (.str "within")) (.cons (.ix (.var 1) (.con (.int 1))) (.cons (.ix (.var 1) (.con (.int 2))) (.cons (.ix (.var 1) (.con (.int 2))) .nil))))) (.cons (.con (.bool true)) .nil)))) .nil))) (.cons (.var 6) .nil)))) .nil) .nil) (.cons (.ite (.cmp .eq (.var 2) (.con (.str "watch"))) (.cons (.ret (.tup (.cons (.var 5) (.cons (.bin .add (.var 6) (.tup (.cons (.ix (.var 1) (.con (.int 1))) .nil))) .nil)))) .nil) .nil) (.cons (.new 3 (.lst .nil)) (.cons (.fr (.nm 4) (.rng (.cons (.bi .len (.var 5)) .nil)) (.cons (.set (.tp [8, 9, 10]) (.ix (.var 5) (.var 4))) (.cons (.set (.nm 7) (.and (.cons (.cmp .eq (.var 2) (.con (.str "withdraw"))) (.cons (.cmp .eq (.var 4) (.ix (.var 1) (.con (.int 1)))) .nil)))) (.cons (.ite (.and (.cons (.cmp .eq (.var 2) (.con (.str "discredit"))) (.cons (.cmp .isn (.var 8) (.con .none)) (.cons (.cmp .eq (.var 8) (.ix (.var 1) (.con (.int 1)))) .nil)))) (.cons (.set (.nm 7) (.con (.bool true))) .nil) .nil) (.cons (.app (.var 3) (.tup (.cons (.var 8) (.cons (.var 9) (.cons (.and (.cons (.var 10) (.cons (.not (.var 7)) .nil))) .nil))))) .nil))))) (.cons (.ret (.tup (.cons (.bi .tuple (.var 3)) (.cons (.var 6) .nil)))) .nil))))))))⟩
def d_law_active : Df := ⟨"_law_active", 1, 2, false,
  (.cons (.ret (.bi .tuple (.lc (.var 1) (.nm 1) (.rng (.cons (.bi .len (.ix (.var 0) (.con (.int 0)))) .nil)) (.cons (.ix (.ix (.ix (.var 0) (.con (.int 0))) (.var 1)) (.con (.int 2))) .nil) [1]))) .nil)⟩
def d_law_present : Df := ⟨"_law_present", 1, 4, false,
  (.cons (.ret (.bi .tuple (.lc (.var 2) (.tp [1, 2, 3]) (.sq (.ix (.var 0) (.con (.int 0)))) (.cons (.var 3) .nil) [1, 2, 3]))) .nil)⟩
def d_law_told : Df := ⟨"_law_told", 2, 3, false,
  (.cons (.tr ["BadValue", "TooLarge", "NotPossible"] (.cons (.ret (.meth "Notebook" (.var 0) "act" (.cons (.var 1) .nil))) .nil) [⟨"NotPossible", (some 2), (.ret (.lst (.cons (.con (.str "not")) (.cons (.fld "NotPossible" "why") .nil))))⟩]) .nil)⟩
def d_law : Df := ⟨"law", 1, 10, false,
  (.cons (.set (.nm 1) (.call "_law_stream" (.cons (.var 0) .nil))) (.cons (.set (.nm 2) (.bin .add (.con (.int 1)) (.call "_law_next" (.cons (.var 1) (.cons (.con (.int 4)) .nil))))) (.cons (.set (.nm 3) (.mk "Notebook" 2 (.drop (.call "check_items" (.cons (.var 1) .nil)) (.fld "many" (.var 1) (.new "states" (.cons (.tup (.cons (.tup .nil) (.cons (.tup .nil) .nil))) .nil) (.fld "commands" (.tup .nil) .nil)))) (.cons (.var 2) .nil))) (.cons (.set (.nm 4) (.tup (.cons (.tup .nil) (.cons (.tup .nil) .nil)))) (.cons (.set (.nm 5) (.tup .nil)) (.cons (.fr (.nm 6) (.rng (.cons (.call "_law_next" (.cons (.var 1) (.cons (.con (.int 19)) .nil))) .nil)) (.cons (.set (.nm 7) (.call "_law_command" (.cons (.var 1) (.cons (.var 2) (.cons (.var 4) .nil))))) (.cons (.set (.nm 8) (.call "_law_why_not" (.cons (.var 4) (.cons (.var 7) .nil)))) (.cons (.ite (.cmp .eq (.var 8) (.con (.str ""))) (.cons (.set (.nm 4) (.call "_law_behind" (.cons (.var 4) (.cons (.var 7) .nil)))) (.cons (.set (.nm 5) (.bin .add (.var 5) (.tup (.cons (.var 7) .nil)))) (.cons (.set (.nm 8) (.bi .len (.call "_law_active" (.cons (.var 4) .nil)))) .nil))) (.cons (.set (.nm 8) (.lst (.cons (.con (.str "not")) (.cons (.var 8) .nil)))) .nil)) (.cons (.ite (.not (.call "_law_equal" (.cons (.call "_law_told" (.cons (.var 3) (.cons (.var 7) .nil))) (.cons (.var 8) .nil)))) (.cons (.ret (.con (.bool false))) .nil) .nil) (.cons (.set (.nm 9) (.lst (.cons (.meth "Notebook" (.var 3) "entries" .nil) (.cons (.meth "Notebook" (.var 3) "watches" .nil) (.cons (.meth "Notebook" (.var 3) "journal" .nil) (.cons (.meth "Notebook" (.var 3) "problem" .nil) .nil)))))) (.cons (.ite (.not (.call "_law_equal" (.cons (.var 9) (.cons (.lst (.cons (.ix (.var 4) (.con (.int 0))) (.cons (.ix (.var 4) (.con (.int 1))) (.cons (.var 5) (.cons (.tup (.cons (.var 2) (.cons (.call "_law_present" (.cons (.var 4) .nil)) .nil))) .nil))))) .nil)))) (.cons (.ret (.con (.bool false))) .nil) .nil) .nil))))))) (.cons (.ret (.con (.bool true))) .nil)))))))⟩
def d_Notebook_act : Df := ⟨"Notebook.act", 2, 3, false,
  (.cons (.ite (.not (.call "is_command" (.cons (.var 1) (.cons (.fld "Notebook" (.var 0) "many") .nil)))) (.cons (.rse "BadValue" ["name"] (.cons (.con (.str "command")) .nil)) .nil) .nil) (.cons (.set (.nm 2) (.call "behind" (.cons (.ix (.fld "Notebook" (.var 0) "states") (.neg (.con (.int 1)))) (.cons (.var 1) .nil)))) (.cons (.ite (.cmp .ge (.bi .len (.fld "Notebook" (.var 0) "commands")) (.gcon "MOST_COMMANDS" (.int 20))) (.cons (.rse "TooLarge" ["what"] (.cons (.con (.str "commands")) .nil)) .nil) .nil) (.cons (.app (.fld "Notebook" (.var 0) "states") (.var 2)) (.cons (.setf "Notebook" (.var 0) "commands" (.bin .add (.fld "Notebook" (.var 0) "commands") (.tup (.cons (.var 1) .nil)))) (.cons (.ret (.bi .len (.call "active_of" (.cons (.var 2) .nil)))) .nil))))))⟩
def d_Notebook_entries : Df := ⟨"Notebook.entries", 1, 1, false,
  (.cons (.ret (.ix (.ix (.fld "Notebook" (.var 0) "states") (.neg (.con (.int 1)))) (.con (.int 0)))) .nil)⟩
def d_Notebook_problem : Df := ⟨"Notebook.problem", 1, 1, false,
  (.cons (.ret (.call "problem_of" (.cons (.fld "Notebook" (.var 0) "many") (.cons (.ix (.fld "Notebook" (.var 0) "states") (.neg (.con (.int 1)))) .nil)))) .nil)⟩
def d_Notebook_journal : Df := ⟨"Notebook.journal", 1, 1, false,
  (.cons (.ret (.fld "Notebook" (.var 0) "commands")) .nil)⟩
def d_Notebook_watches : Df := ⟨"Notebook.watches", 1, 1, false,
  (.cons (.ret (.ix (.ix (.fld "Notebook" (.var 0) "states") (.neg (.con (.int 1)))) (.con (.int 1)))) .nil)⟩
abbrev top (i : Nat) : Stmt := PySem.Challenge.pw_rankswithin_k72_whole_commands_of_notebo.main.body.getD i (.Pass ⟨0, 0, 0, 0⟩)
def p_is_whole : Pd := ⟨d_is_whole, ["value", "low", "high"], ⟨("is_whole", none), "is_whole", "is_whole", L2.defArgs (top 9), L2.defBody (top 9), L2.defScope (top 9), [], []⟩, none⟩
def p_is_constraint : Pd := ⟨d_is_constraint, ["items", "value", "item"], ⟨("is_constraint", none), "is_constraint", "is_constraint", L2.defArgs (top 10), L2.defBody (top 10), L2.defScope (top 10), [], []⟩, none⟩
def p_check_items : Pd := ⟨d_check_items, ["items"], ⟨("check_items", none), "check_items", "check_items", L2.defArgs (top 15), L2.defBody (top 15), L2.defScope (top 15), [], []⟩, none⟩
def p_is_command : Pd := ⟨d_is_command, ["value", "items"], ⟨("is_command", none), "is_command", "is_command", L2.defArgs (top 16), L2.defBody (top 16), L2.defScope (top 16), [], []⟩, none⟩
def p_with_entry : Pd := ⟨d_with_entry, ["state", "source", "constraint", "entries", "watches"], ⟨("with_entry", none), "with_entry", "with_entry", L2.defArgs (top 17), L2.defBody (top 17), L2.defScope (top 17), [], []⟩, none⟩
def p_withdrawn : Pd := ⟨d_withdrawn, ["state", "number", "entries", "watches", "source", "constraint", "active"], ⟨("withdrawn", none), "withdrawn", "withdrawn", L2.defArgs (top 18), L2.defBody (top 18), L2.defScope (top 18), [], []⟩, none⟩
def p_discredited : Pd := ⟨d_discredited, ["state", "source", "later", "entries", "watches", "one", "constraint", "active"], ⟨("discredited", none), "discredited", "discredited", L2.defArgs (top 19), L2.defBody (top 19), L2.defScope (top 19), [], []⟩, none⟩
def p_behind : Pd := ⟨d_behind, ["state", "command", "word"], ⟨("behind", none), "behind", "behind", L2.defArgs (top 20), L2.defBody (top 20), L2.defScope (top 20), [], []⟩, none⟩
def p_active_of : Pd := ⟨d_active_of, ["state", "number", "entry"], ⟨("active_of", none), "active_of", "active_of", L2.defArgs (top 21), L2.defBody (top 21), L2.defScope (top 21), [], []⟩, none⟩
def p_problem_of : Pd := ⟨d_problem_of, ["items", "state", "source", "constraint", "active"], ⟨("problem_of", none), "problem_of", "problem_of", L2.defArgs (top 22), L2.defBody (top 22), L2.defScope (top 22), [], []⟩, none⟩
def p_law_stream : Pd := ⟨d_law_stream, ["_law_script"], ⟨("_law_stream", none), "_law_stream", "_law_stream", L2.defArgs (top 25), L2.defBody (top 25), L2.defScope (top 25), [], []⟩, none⟩
def p_law_next : Pd := ⟨d_law_next, ["_law_stream_here", "_law_many", "_law_digit", "_law_k", "_law_cell"], ⟨("_law_next", none), "_law_next", "_law_next", L2.defArgs (top 26), L2.defBody (top 26), L2.defScope (top 26), [], []⟩, none⟩
def p_law_is_integer : Pd := ⟨d_law_is_integer, ["_law_actual"], ⟨("_law_is_integer", none), "_law_is_integer", "_law_is_integer", L2.defArgs (top 27), L2.defBody (top 27), L2.defScope (top 27), [], []⟩, none⟩
def p_law_equal : Pd := ⟨d_law_equal, ["_law_actual", "_law_due", "_law_at"], ⟨("_law_equal", none), "_law_equal", "_law_equal", L2.defArgs (top 28), L2.defBody (top 28), L2.defScope (top 28), [], []⟩, none⟩
def p_law_constraint : Pd := ⟨d_law_constraint, ["_law_stream_here", "_law_many", "_law_one", "_law_low"], ⟨("_law_constraint", none), "_law_constraint", "_law_constraint", L2.defArgs (top 29), L2.defBody (top 29), L2.defScope (top 29), [], []⟩, none⟩
def p_law_command : Pd := ⟨d_law_command, ["_law_stream_here", "_law_many", "_law_state", "_law_pick", "_law_entries", "_law_watches"], ⟨("_law_command", none), "_law_command", "_law_command", L2.defArgs (top 30), L2.defBody (top 30), L2.defScope (top 30), [], []⟩, none⟩
def p_law_why_not : Pd := ⟨d_law_why_not, ["_law_state", "_law_command_here", "_law_word", "_law_entries", "_law_watches", "_law_row"], ⟨("_law_why_not", none), "_law_why_not", "_law_why_not", L2.defArgs (top 31), L2.defBody (top 31), L2.defScope (top 31), [], []⟩, none⟩
def p_law_behind : Pd := ⟨d_law_behind, ["_law_state", "_law_command_here", "_law_word", "_law_found", "_law_at", "_law_entries", "_law_watches", "_law_gone", "_law_source", "_law_constraint_here", "_law_active_here"], ⟨("_law_behind", none), "_law_behind", "_law_behind", L2.defArgs (top 32), L2.defBody (top 32), L2.defScope (top 32), [], []⟩, none⟩
def p_law_active : Pd := ⟨d_law_active, ["_law_state", "_law_at"], ⟨("_law_active", none), "_law_active", "_law_active", L2.defArgs (top 33), L2.defBody (top 33), L2.defScope (top 33), [], []⟩, none⟩
def p_law_present : Pd := ⟨d_law_present, ["_law_state", "_law_source", "_law_constraint_here", "_law_active_here"], ⟨("_law_present", none), "_law_present", "_law_present", L2.defArgs (top 34), L2.defBody (top 34), L2.defScope (top 34), [], []⟩, none⟩
def p_law_told : Pd := ⟨d_law_told, ["_law_notebook", "_law_command_here", "e"], ⟨("_law_told", none), "_law_told", "_law_told", L2.defArgs (top 35), L2.defBody (top 35), L2.defScope (top 35), [], []⟩, none⟩
def p_law : Pd := ⟨d_law, ["_law_script", "_law_stream_here", "_law_many", "_law_notebook", "_law_state", "_law_journal", "_law_turn", "_law_command_here", "_law_due", "_law_told_here"], ⟨("law", none), "law", "law", L2.defArgs (top 36), L2.defBody (top 36), L2.defScope (top 36), [], []⟩, none⟩
def p_Notebook_act : Pd := ⟨d_Notebook_act, ["self", "command", "state"], ⟨("Notebook", some "act"), "act", "Notebook.act", L2.defArgs (clsSt (top 23) 1), L2.defBody (clsSt (top 23) 1), L2.defScope (clsSt (top 23) 1), [], []⟩, some ("Notebook", "act")⟩
def p_Notebook_entries : Pd := ⟨d_Notebook_entries, ["self"], ⟨("Notebook", some "entries"), "entries", "Notebook.entries", L2.defArgs (clsSt (top 23) 3), L2.defBody (clsSt (top 23) 3), L2.defScope (clsSt (top 23) 3), [], []⟩, some ("Notebook", "entries")⟩
def p_Notebook_problem : Pd := ⟨d_Notebook_problem, ["self"], ⟨("Notebook", some "problem"), "problem", "Notebook.problem", L2.defArgs (clsSt (top 23) 4), L2.defBody (clsSt (top 23) 4), L2.defScope (clsSt (top 23) 4), [], []⟩, some ("Notebook", "problem")⟩
def p_Notebook_journal : Pd := ⟨d_Notebook_journal, ["self"], ⟨("Notebook", some "journal"), "journal", "Notebook.journal", L2.defArgs (clsSt (top 23) 5), L2.defBody (clsSt (top 23) 5), L2.defScope (clsSt (top 23) 5), [], []⟩, some ("Notebook", "journal")⟩
def p_Notebook_watches : Pd := ⟨d_Notebook_watches, ["self"], ⟨("Notebook", some "watches"), "watches", "Notebook.watches", L2.defArgs (clsSt (top 23) 6), L2.defBody (clsSt (top 23) 6), L2.defScope (clsSt (top 23) 6), [], []⟩, some ("Notebook", "watches")⟩
def ps : List Pd := [p_is_whole, p_is_constraint, p_check_items, p_is_command, p_with_entry, p_withdrawn, p_discredited, p_behind, p_active_of, p_problem_of, p_law_stream, p_law_next, p_law_is_integer, p_law_equal, p_law_constraint, p_law_command, p_law_why_not, p_law_behind, p_law_active, p_law_present, p_law_told, p_law, p_Notebook_act, p_Notebook_entries, p_Notebook_problem, p_Notebook_journal, p_Notebook_watches]
def x_BadValue : Xd := ⟨"BadValue", ["name"], ⟨("BadValue", some "__init__"), "__init__", "BadValue.__init__", L2.defArgs (clsSt (top 3) 0), L2.defBody (clsSt (top 3) 0), L2.defScope (clsSt (top 3) 0), [], []⟩⟩
def x_TooLarge : Xd := ⟨"TooLarge", ["what"], ⟨("TooLarge", some "__init__"), "__init__", "TooLarge.__init__", L2.defArgs (clsSt (top 4) 0), L2.defBody (clsSt (top 4) 0), L2.defScope (clsSt (top 4) 0), [], []⟩⟩
def x_NotPossible : Xd := ⟨"NotPossible", ["why"], ⟨("NotPossible", some "__init__"), "__init__", "NotPossible.__init__", L2.defArgs (clsSt (top 5) 0), L2.defBody (clsSt (top 5) 0), L2.defScope (clsSt (top 5) 0), [], []⟩⟩
def xs : List Xd := [x_BadValue, x_TooLarge, x_NotPossible]
def c_Notebook : Cd := ⟨"Notebook", ["many", "states", "commands"], ["act", "entries", "problem", "journal", "watches"], ["self", "items"], ⟨("Notebook", some "__init__"), "__init__", "Notebook.__init__", L2.defArgs (clsSt (top 23) 0), L2.defBody (clsSt (top 23) 0), L2.defScope (clsSt (top 23) 0), [], []⟩⟩
def cs : List Cd := [c_Notebook]
def ts : List String := ["BadValue", "NotPossible", "TooLarge"]
def defs : List Df := [d_is_whole, d_is_constraint, d_check_items, d_is_command, d_with_entry, d_withdrawn, d_discredited, d_behind, d_active_of, d_problem_of, d_law_stream, d_law_next, d_law_is_integer, d_law_equal, d_law_constraint, d_law_command, d_law_why_not, d_law_behind, d_law_active, d_law_present, d_law_told, d_law, d_Notebook_act, d_Notebook_entries, d_Notebook_problem, d_Notebook_journal, d_Notebook_watches]
def frees : List Str := ["abs", "all", "any", "bool", "enumerate", "int", "isinstance", "len", "list", "range", "str", "tuple"]
def cons : List (Str × D) := [("MOST_COMMANDS", (.int 20)), ("MOST_CONSTRAINTS", (.int 12)), ("MOST_ITEMS", (.int 7)), ("MOST_SOURCE", (.int 5)), ("MOST_WATCHES", (.int 4))]
theorem ck : ps.all (ckF frees cons xs ts cs (msOf ps) (ps.map (·.df))) = true := by decide +kernel
end P72

namespace P72
open PySem PySem.Spec PyProof.Rows L2 Eg
abbrev R : PySem.W.OpenRow := PySem.W.OpenLaw.row PySem.Challenge.rw_rankswithin_k72_whole_commands_of_notebo
def fa : List He.Fa := faOf ps frees cons ts cs
def fn : List He.DefD := ps.map (·.dd) ++ (xs.map (·.dd) ++ cs.map (·.dd))
abbrev hk : PySem.W.Hook := Eg.hookY 6 fa fn (exB xs ts)
def ob (s : PySem.W.SharedT) : Eg.AlY := Eg.obsY 6 fa fn (exB xs ts) (HandSHeadRun.getT s)
theorem ob_eq (s : PySem.W.SharedT) : ob s = hk.obs s.abs := Eg.obsY_eq (HandSHeadRun.getT_eq s)
def loose : List Str := (["_wall", "RankError", "BadValue", "TooLarge", "NotPossible", "MOST_ITEMS", "MOST_CONSTRAINTS", "is_whole", "is_constraint", "MOST_COMMANDS", "MOST_WATCHES", "MOST_SOURCE", "check_items", "is_command", "with_entry", "withdrawn", "discredited", "behind", "active_of", "problem_of", "Notebook", "_law_stream", "_law_next", "_law_is_integer", "_law_equal", "_law_constraint", "_law_command", "_law_why_not", "_law_behind", "_law_active"] : List Str) ++ (["_law_present", "_law_told"] : List Str)
theorem run (w : World) : HandSHeadRun.RunEq R (PySem.W.view R.prog [36]) hk ob 6000 loose w := by
  intro os
  kernel_rfl
end P72

namespace P72
open PySem Eg
theorem answers : ∀ ns : List Int, ns.length ≤ 63 → ∃ M', callF whC (ps.map (·.df)) 24 "law" [.s (ns.map .int)] [] = .ok (.p (.bool true)) M' := by
  have st := ok_stream (defs := ps.map (·.df)) (by rfl)
  have nx := ok_next (defs := ps.map (·.df)) (by rfl)
  have w1 := ok_whole (defs := ps.map (·.df)) (by rfl)
  have items72 := ok_items72 (defs := ps.map (·.df)) (a := 1) (by rfl) (w1.mono (by omega))
  have lc44 := ok_lcon44 (defs := ps.map (·.df)) (a := 1) (by rfl) (nx.mono (by omega))
  have lcmd72 := ok_lcmd72 (defs := ps.map (·.df)) (a := 2) (by rfl) (nx.mono (by omega)) (lc44.mono (by omega))
  have lwhy72 := ok_lwhy72 (defs := ps.map (·.df)) (by rfl)
  have lbeh72 := ok_lbeh72 (defs := ps.map (·.df)) (by rfl)
  have lact72 := ok_lact72 (defs := ps.map (·.df)) (by rfl)
  have lpres72 := ok_lpres72 (defs := ps.map (·.df)) (by rfl)
  have w2 := ok_con (defs := ps.map (·.df)) (a := 1) (by rfl) (w1.mono (by omega))
  have iscmd72 := ok_iscmd72 (defs := ps.map (·.df)) (a := 2) (by rfl) (w1.mono (by omega)) (w2.mono (by omega))
  have wentry72 := ok_wentry72 (defs := ps.map (·.df)) (by rfl)
  have wdrawn72 := ok_wdrawn72 (defs := ps.map (·.df)) (by rfl)
  have discr72 := ok_discr72 (defs := ps.map (·.df)) (by rfl)
  have beh72 := ok_beh72 (defs := ps.map (·.df)) (a0 := 1) (by rfl) (wentry72.mono (by omega)) (wdrawn72.mono (by omega)) (discr72.mono (by omega))
  have actof72 := ok_actof72 (defs := ps.map (·.df)) (by rfl)
  have act72 := ok_act72 (defs := ps.map (·.df)) (a := 3) (by rfl) (iscmd72.mono (by omega)) (beh72.mono (by omega)) (actof72.mono (by omega))
  have ltold72 := ok_ltold72 (defs := ps.map (·.df)) (a := 4) (by rfl) (act72.mono (by omega))
  have eq4 := ok_equal (defs := ps.map (·.df)) (by rfl) (by rfl) 4
  have ents72 := ok_ents72 (defs := ps.map (·.df)) (by rfl)
  have wats72 := ok_wats72 (defs := ps.map (·.df)) (by rfl)
  have jour72 := ok_jour72 (defs := ps.map (·.df)) (by rfl)
  have probof72 := ok_probof72 (defs := ps.map (·.df)) (by rfl)
  have prob72 := ok_prob72 (defs := ps.map (·.df)) (a := 1) (by rfl) (probof72.mono (by omega))
  have h := ok_law_k72 (defs := ps.map (·.df)) (a := 6) (by rfl) (st.mono (by omega)) (nx.mono (by omega)) (items72.mono (by omega)) (lcmd72.mono (by omega)) (lwhy72.mono (by omega)) (lbeh72.mono (by omega)) (lact72.mono (by omega)) (lpres72.mono (by omega)) (ltold72.mono (by omega)) (eq4.mono (by omega)) (ents72.mono (by omega)) (wats72.mono (by omega)) (jour72.mono (by omega)) (prob72.mono (by omega))
  exact h 24 (by omega)
end P72
open PySem PySem.W PySem.Calls PyProof.Rows Eg
set_option maxHeartbeats 2000000 in
theorem PySem.Challenge.cw_rankswithin_k72_whole_commands_of_notebo_holds : PySem.Challenge.rw_rankswithin_k72_whole_commands_of_notebo.Holds := by
  w_on; o_law
  refine HandSHeadRun.head_any (r := OpenLaw.row PySem.Challenge.rw_rankswithin_k72_whole_commands_of_notebo) (q := view (OpenLaw.row PySem.Challenge.rw_rankswithin_k72_whole_commands_of_notebo).prog [36]) (H := P72.hk) (ob := P72.ob) (M := 6000) (loose := P72.loose) (d := HandSHeadRun.topDef (OpenLaw.row PySem.Challenge.rw_rankswithin_k72_whole_commands_of_notebo).prog 36) (kwd := []) P72.ob_eq
    (by kernel_rfl) (fun s => by kernel_rfl) P72.run (by kernel_rfl) (by kernel_rfl) (by kernel_rfl) (by rfl) (by first | assumption | decide +kernel) (by decide +kernel) ⟨rfl, rfl, rfl, rfl, rfl, by decide +kernel⟩ ?hw ?hc
  case hw => w_witness2
  case hc =>
    refine L2.walk_ofE (l := PySem.Challenge.rw_rankswithin_k72_whole_commands_of_notebo) (n := 63) (k := 74) (x := "_law_script") (CX := L2.CX0) rfl (by decide) (by kernel_rfl) ⟨rfl, by decide, by decide⟩ ?F (fun _ _ _ _ z => z)
    intro w mg fa h Y G hmg0
    obtain ⟨K, KX, c⟩ := Y
    have hmg : mg ("law" : PySem.Str) = some (.ref fa) := by
      have e : (HandSHeadRun.topDef (OpenLaw.row PySem.Challenge.rw_rankswithin_k72_whole_commands_of_notebo).prog 36).name = ("law" : PySem.Str) := by kernel_rfl
      rw [← e]
      exact hmg0
    obtain ⟨fd, sp, hb, hsp, hF⟩ := Eg.law_fn (P := (PySem.Challenge.rw_rankswithin_k72_whole_commands_of_notebo).prog) (w := w) (k := 24) (nmax := 63) (x := "_law_script") (p := P72.p_law) Eg.whC_ok KX G c (by decide +kernel) (by decide +kernel) hmg (by decide +kernel) P72.ck rfl (by kernel_rfl) (List.mem_of_getElem? (i := 21) (by rfl)) (by decide +kernel) P72.answers
    exact ⟨K, fd, sp, KX, hb, fun H a ns hl _ hS => hsp H a ns hl hS, fun base _ _ => hF base⟩
