import PyProof.Rows.All
import Wide.All
import OpenK.AllK
import Wide.FinOn
import HandS.ForMost
import HandS.ForExc
import HandS.CallSlots
import HandS.ExcInit
import HandS.TupAny
import HandS.TupMul
import HandS.IsInst
import HandS.SortInts
import HandS.Zip
import HandS.ExcSuper
import HandS.Small
import HandS.Style
import HandS.TryOnly
import KE.KExcSuper
import KE.KExcIs
import HandS.ExcField
import HandS.ExcValue
import HandS.Nested
import HandS.ExcIs
import HandS.Star
import HandS.Defaults
import HandS.HeadHook2
import HandS.HeadEnd
import KE.KStateDown
import HandS.Ends
import HandS.More
import HandS.Words
import HandS.WordsExc
import HandS.Head0
import HandS.Head1
import HandS.Head2
import HandS.HeadHook1
import HandS.List
import PySem.Challenge.RW_asksanswered_k00_errors
set_option Elab.async false
set_option linter.all false
section CEa
set_option maxRecDepth 100000
set_option maxHeartbeats 2000000
namespace CE
open PySem
/-- what may be stored: plain data, frozen lists, places of the store, built-in classes, names of the module -/
inductive A where
  | non | bl (b : Bool) | int (i : Int) | str (s : Str) | tup (xs : List A) | lst (xs : List A) | ref (l : Nat) | ty (n : String) | glo (x : Str) | exv (c : Str) (ns : List Str) (xs : List A)
  deriving Inhabited
/-- what a slot holds: a value; a list, a dict (own: nobody else has it) -/
inductive C where
  | v (a : A) | l (own : Bool) (xs : List A) | d (own : Bool) (kvs : List (A × A)) | x (c : Str) (fs : List (Str × A))
  deriving Inhabited
/-- what an expression gives: a value; the list or dict of a slot; a new list, a new dict -/
inductive T where
  | v (a : A) | sl (i : Nat) | tl (xs : List A) | td (kvs : List (A × A))
  deriving Inhabited
/-- what the store holds -/
inductive O where
  | lst (xs : List A) | dct (kvs : List (A × A)) | ins (c : Str) (fs : List (Str × A))
  deriving Inhabited
structure S where
  env : List (Option C)
  st : List O
/-- an outcome -/
inductive R (α : Type) where
  | ok (a : α) (s : S) | exc (c : Str) (fs : List (Str × A)) (s : S) | stuck
def R.bind {α β : Type} (r : R α) (k : α → S → R β) : R β := match r with
  | .ok a s => k a s
  | .exc c fs s => .exc c fs s
  | .stuck => .stuck
@[simp] theorem R.ok_bind {α β : Type} (a : α) (s : S) (k : α → S → R β) : (R.ok a s).bind k = k a s := rfl
@[simp] theorem R.exc_bind {α β : Type} (c : Str) (fs : List (Str × A)) (s : S) (k : α → S → R β) : (R.exc c fs s : R α).bind k = .exc c fs s := rfl
@[simp] theorem R.stuck_bind {α β : Type} (k : α → S → R β) : (R.stuck : R α).bind k = .stuck := rfl
/-- no exception may come -/
def R.nox {α : Type} (r : R α) : R α := match r with
  | .ok a s => .ok a s
  | _ => .stuck
@[simp] theorem R.ok_nox {α : Type} (a : α) (s : S) : (R.ok a s).nox = .ok a s := rfl
/-- a statement's outcome -/
inductive Q where
  | nx (s : S) | rt (t : T) (s : S) | bk (s : S) | ct (s : S) | exc (c : Str) (fs : List (Str × A)) (s : S) | stuck
def R.stm {α : Type} (r : R α) (k : α → S → Q) : Q := match r with
  | .ok a s => k a s
  | .exc c fs s => .exc c fs s
  | .stuck => .stuck
@[simp] theorem R.ok_stm {α : Type} (a : α) (s : S) (k : α → S → Q) : (R.ok a s).stm k = k a s := rfl
@[simp] theorem R.exc_stm {α : Type} (c : Str) (fs : List (Str × A)) (s : S) (k : α → S → Q) : (R.exc c fs s : R α).stm k = .exc c fs s := rfl
@[simp] theorem R.stuck_stm {α : Type} (k : α → S → Q) : (R.stuck : R α).stm k = .stuck := rfl
def Q.seq (r : Q) (k : S → Q) : Q := match r with
  | .nx s => k s
  | r => r
/-- a call's outcome: the result (a value, a new list, a new dict), the store -/
inductive RC where
  | ok (t : T) (st : List O) | exc (c : Str) (fs : List (Str × A)) (st : List O) | stuck
/-- no exception may come -/
def Q.nox (r : Q) : Q := match r with
  | .exc _ _ _ => .stuck
  | r => r
/-- slot i is emptied behind it -/
def Q.clr (r : Q) (i : Nat) : Q := match r with
  | .nx s => .nx { s with env := s.env.set i none }
  | .bk s => .bk { s with env := s.env.set i none }
  | .ct s => .ct { s with env := s.env.set i none }
  | .rt (.sl _) _ => .stuck
  | r => r
abbrev CallF := Nat → List C → List O → RC

def S.slot (s : S) (i : Nat) : Option C := (s.env[i]?).bind id
/-- the items of a list -/
def lstOf (s : S) : T → Option (List A)
  | .tl xs => some xs
  | .sl i => match s.slot i with
    | some (.l _ xs) => some xs
    | _ => none
  | .v (.lst xs) => some xs
  | .v (.ref l) => match s.st[l]? with
    | some (.lst xs) => some xs
    | _ => none
  | _ => none
def tupOf : T → Option (List A)
  | .v (.tup xs) => some xs
  | _ => none
/-- the items of a list or a tuple -/
def seqOf (s : S) (t : T) : Option (List A) := match tupOf t with
  | some xs => some xs
  | none => lstOf s t
def dctOf (s : S) : T → Option (List (A × A))
  | .td kvs => some kvs
  | .sl i => match s.slot i with
    | some (.d _ kvs) => some kvs
    | _ => none
  | .v (.ref l) => match s.st[l]? with
    | some (.dct kvs) => some kvs
    | _ => none
  | _ => none

mutual
def decA : (a b : A) → Decidable (a = b)
  | .non, b => match b with
    | .non => .isTrue rfl
    | .bl _ | .int _ | .str _ | .tup _ | .lst _ | .ref _ | .ty _ | .glo _ | .exv _ _ _ => .isFalse (fun h => nomatch h)
  | .bl x, b => match b with
    | .bl y => if h : x = y then .isTrue (by rw [h]) else .isFalse (fun e => h (by injection e))
    | .non | .int _ | .str _ | .tup _ | .lst _ | .ref _ | .ty _ | .glo _ | .exv _ _ _ => .isFalse (fun h => nomatch h)
  | .int x, b => match b with
    | .int y => if h : x = y then .isTrue (by rw [h]) else .isFalse (fun e => h (by injection e))
    | .non | .bl _ | .str _ | .tup _ | .lst _ | .ref _ | .ty _ | .glo _ | .exv _ _ _ => .isFalse (fun h => nomatch h)
  | .str x, b => match b with
    | .str y => if h : x = y then .isTrue (by rw [h]) else .isFalse (fun e => h (by injection e))
    | .non | .bl _ | .int _ | .tup _ | .lst _ | .ref _ | .ty _ | .glo _ | .exv _ _ _ => .isFalse (fun h => nomatch h)
  | .tup x, b => match b with
    | .tup y => match decAs x y with
      | .isTrue h => .isTrue (by rw [h])
      | .isFalse h => .isFalse (fun e => h (by injection e))
    | .non | .bl _ | .int _ | .str _ | .lst _ | .ref _ | .ty _ | .glo _ | .exv _ _ _ => .isFalse (fun h => nomatch h)
  | .lst x, b => match b with
    | .lst y => match decAs x y with
      | .isTrue h => .isTrue (by rw [h])
      | .isFalse h => .isFalse (fun e => h (by injection e))
    | .non | .bl _ | .int _ | .str _ | .tup _ | .ref _ | .ty _ | .glo _ | .exv _ _ _ => .isFalse (fun h => nomatch h)
  | .ref x, b => match b with
    | .ref y => if h : x = y then .isTrue (by rw [h]) else .isFalse (fun e => h (by injection e))
    | .non | .bl _ | .int _ | .str _ | .tup _ | .lst _ | .ty _ | .glo _ | .exv _ _ _ => .isFalse (fun h => nomatch h)
  | .ty x, b => match b with
    | .ty y => if h : x = y then .isTrue (by rw [h]) else .isFalse (fun e => h (by injection e))
    | .non | .bl _ | .int _ | .str _ | .tup _ | .lst _ | .ref _ | .glo _ | .exv _ _ _ => .isFalse (fun h => nomatch h)
  | .glo x, b => match b with
    | .glo y => if h : x = y then .isTrue (by rw [h]) else .isFalse (fun e => h (by injection e))
    | .non | .bl _ | .int _ | .str _ | .tup _ | .lst _ | .ref _ | .ty _ | .exv _ _ _ => .isFalse (fun h => nomatch h)
  | .exv c ns xs, b => match b with
    | .exv c' ns' ys => if h : c = c' then if h' : ns = ns' then match decAs xs ys with
      | .isTrue e => .isTrue (by rw [h, h', e])
      | .isFalse e => .isFalse (fun z => e (by injection z)) else .isFalse (fun z => h' (by injection z)) else .isFalse (fun z => h (by injection z))
    | .non | .bl _ | .int _ | .str _ | .tup _ | .lst _ | .ref _ | .ty _ | .glo _ => .isFalse (fun h => nomatch h)
def decAs : (a b : List A) → Decidable (a = b)
  | [], [] => .isTrue rfl
  | [], _ :: _ => .isFalse (fun h => nomatch h)
  | _ :: _, [] => .isFalse (fun h => nomatch h)
  | a :: as, b :: bs => match decA a b with
    | .isTrue h => match decAs as bs with
      | .isTrue h2 => .isTrue (by rw [h, h2])
      | .isFalse h2 => .isFalse (fun e => h2 (by injection e))
    | .isFalse h => .isFalse (fun e => h (by injection e))
end
instance : DecidableEq A := decA
mutual
/-- as the library's data -/
def toD : A → Option PyData
  | .non => some .none
  | .bl b => some (.bool b)
  | .int i => some (.int i)
  | .str x => some (.str x)
  | .tup xs => (toDs xs).map .tuple
  | .lst xs => (toDs xs).map .list
  | .ref _ => none
  | .ty _ => none
  | .glo _ => none
  | .exv _ _ _ => none
def toDs : List A → Option (List PyData)
  | [] => some []
  | x :: xs => match toD x, toDs xs with
    | some d, some ds => some (d :: ds)
    | _, _ => none
end
/-- a value, a list, as data -/
def datT (s : S) (t : T) : Option PyData := match lstOf s t with
  | some xs => (toDs xs).map .list
  | none => match t with
    | .v a => toD a
    | _ => none
def shallow (d e : PyData) : Bool := decide (d.depth ≤ 150) || decide (e.depth ≤ 150)
def eqT (s : S) (x y : T) : Option Bool := match datT s x, datT s y with
  | some d, some e => if shallow d e then some (PyData.eqv d e) else none
  | _, _ => none
end CE
end CEa
section CEb
set_option maxRecDepth 100000
set_option maxHeartbeats 2000000
namespace CE
open PySem
abbrev Lim : Nat := 16777216
abbrev Rng : Int := 4611686018427387904
inductive BinO where | add | sub | mul | fdiv | mod | pow deriving DecidableEq
inductive CmpO where | eq | ne | lt | le | gt | ge | is | isn | inn | nin deriving DecidableEq
inductive BF where | len | int | str | list | tuple | all | any | sum | min2 | max2 | sorted deriving DecidableEq
inductive MT where | append | pop | popat | extend | index | get | get2 | setd deriving DecidableEq

/-- the built-in types that isinstance asks for here -/
inductive Ty where | int | str | bool | tuple | list | dict | object deriving DecidableEq
mutual
inductive E where
  | cst (a : A) | var (i : Nat) | bin (o : BinO) (a b : E) | neg (a : E) | cmp (o : CmpO) (a b : E) | cmp2 (o p : CmpO) (a b c : E)
  | not (a : E) | and (as : Es) | or (as : Es) | ite (c a b : E) | idx (a i : E) | slc (a : E) (lo hi : OE)
  | call (f : Nat) (as : Es) (ds : List A) | bf (b : BF) (as : Es) | mt (m : MT) (a : E) (as : Es)
  | tup (as : Es) | lst (as : Es) | dic0 | isi (a : E) (ts : List Ty)
  | lc (vs : List Nat) (g : Tg) (it : Wk) (c : OE) (e : E)
  | mcall (m : Str) (a : E) (as : Es) | make (c : Str) (f : Nat) (as : Es) (ds : List A) | fld (a : E) (f : Str) | exf (i : Nat) (f : Str)
  | frz (a : E) | prm (a : E) | dget (a k : E) | dget2 (a k d : E)
  | mkx (k : Str) (f : Option Str) (e : E) | mkk (k f pn : Str) (e : E) | isx (a : E) (k : Str) | xfl (a : E) (f : Str)
inductive Es where | nil | cons (e : E) (es : Es) | star (e : E) (es : Es)
inductive OE where | none | some (e : E)
inductive Wk where | seq (e : E) | rng1 (e : E) | rng2 (a b : E) | enm (e : E) | zip (a b : E)
inductive Tg where | nm (i : Nat) | tp (gs : Tgs) | ix (o i : E) | fd (o : E) (f : Str)
inductive Tgs where | nil | cons (g : Tg) (gs : Tgs)
end
mutual
inductive Sm where
  | asg (g : Tg) (e : E) | par (i j : Nat) (a b : E) | par3 (i j l : Nat) (a b d : E) | aug (i : Nat) (o : BinO) (e : E) | augF (a : E) (f : Str) (o : BinO) (e : E) | ex (e : E) | rt (e : E) | rtn
  | ife (c : E) (a b : Sms) | for (g : Tg) (it : Wk) (b : Sms) | whl (c : E) (b : Sms)
  | raise (c : Str) (f : Option Str) (e : E) | tryx (b : Sms) (c : Str) (n : Option Nat) (h : Sms) | bk | ct | pass
  | mtch (e : E) (cs : Cs)
inductive Cs where | nil | any (b : Sms) | cons (p : List Str) (b : Sms) (cs : Cs)
inductive Sms where | nil | cons (s : Sm) (ss : Sms)
end

def Tgs.len : Tgs → Nat
  | .nil => 0
  | .cons _ gs => gs.len + 1
def asInt : T → Option Int
  | .v (.int i) => some i
  | _ => none
def asStr : T → Option Str
  | .v (.str i) => some i
  | _ => none
def asBl : T → Option Bool
  | .v (.bl i) => some i
  | _ => none
def asA : T → Option A
  | .v a => some a
  | _ => none
def asAs : List T → Option (List A)
  | [] => some []
  | t :: ts => match asA t, asAs ts with
    | some a, some as => some (a :: as)
    | _, _ => none
def mulOk (i j : Int) : Bool := (decide (-18446744073709551616 < i) && decide (i < 18446744073709551616)) || (decide (-18446744073709551616 < j) && decide (j < 18446744073709551616))
def opBin (o : BinO) (x y : T) (s : S) : R T := match asInt x, asInt y with
  | some i, some j => match o with
    | .add => .ok (.v (.int (i + j))) s
    | .sub => .ok (.v (.int (i - j))) s
    | .mul => if mulOk i j then .ok (.v (.int (i * j))) s else .stuck
    | .fdiv => if decide (j ≠ 0) && decide (j.natAbs < 1073741824) then .ok (.v (.int (i.fdiv j))) s else .stuck
    | .mod => if j ≠ 0 then .ok (.v (.int (i.fmod j))) s else .stuck
    | .pow => if decide (0 ≤ j) && (decide (j ≤ 1000000) && decide (i.natAbs < 18446744073709551616)) then .ok (.v (.int (i ^ j.toNat))) s else .stuck
  | _, _ => match o with
    | .add => match asStr x, asStr y with
      | some a, some b => if a.length + b.length ≤ Lim then .ok (.v (.str (a ++ b))) s else .stuck
      | _, _ => match tupOf x, tupOf y with
        | some a, some b => if a.length + b.length ≤ Lim then .ok (.v (.tup (a ++ b))) s else .stuck
        | _, _ => match lstOf s x, lstOf s y with
          | some a, some b => if a.length + b.length ≤ Lim then .ok (.tl (a ++ b)) s else .stuck
          | _, _ => .stuck
    | .mul => match asInt y with
      | some k => match x with
        | .v (.tup a) => if (!a.isEmpty && decide (a.length ≤ 1000)) && (decide (2 ≤ k) && decide (k ≤ 1000)) then .ok (.v (.tup (List.replicate k.toNat a).flatten)) s else .stuck
        | .tl a => if (decide (-9223372036854775808 ≤ k) && decide (k < 9223372036854775808)) && decide (a.length * k.toNat ≤ Lim) then .ok (.tl (List.replicate k.toNat a).flatten) s else .stuck
        | _ => .stuck
      | none => .stuck
    | _ => .stuck
def isKeyA : A → Bool
  | .int _ => true
  | .str _ => true
  | _ => false
def lookA (kvs : List (A × A)) (k : A) : Option A := (kvs.find? fun p => decide (p.1 = k)).map (·.2)
def inT (s : S) (x y : T) : Option Bool := match dctOf s y with
  | some kvs => match asA x with
    | some k => if isKeyA k then some (lookA kvs k).isSome else none
    | none => none
  | none => match asStr y with
    | some z => match asStr x with
      | some c => match c.cps.toList with
        | [n] => some (decide (n ∈ z.cps.toList))
        | _ => none
      | none => none
    | none => match seqOf s y with
      | some ys => match datT s x, toDs ys with
        | some d, some ds => if decide (PyData.depthAll ds ≤ 150) || decide (d.depth ≤ 150) then some (ds.any fun z => PyData.eqv z d) else none
        | _, _ => none
      | none => none
def isNon : T → Option Bool
  | .v .non => some true
  | .v (.glo _) => none
  | .sl _ => none
  | _ => some false
def opCmp (o : CmpO) (x y : T) (s : S) : Option Bool := match o with
  | .eq => eqT s x y
  | .ne => (eqT s x y).map (!·)
  | .is => match y with
    | .v .non => isNon x
    | _ => none
  | .isn => match y with
    | .v .non => (isNon x).map (!·)
    | _ => none
  | .inn => inT s x y
  | .nin => (inT s x y).map (!·)
  | .lt => match asInt x, asInt y with
    | some i, some j => some (decide (i < j))
    | _, _ => none
  | .le => match asInt x, asInt y with
    | some i, some j => some (decide (i ≤ j))
    | _, _ => none
  | .gt => match asInt x, asInt y with
    | some i, some j => some (decide (j < i))
    | _, _ => none
  | .ge => match asInt x, asInt y with
    | some i, some j => some (decide (j ≤ i))
    | _, _ => none
def opIdx (x i : T) (s : S) : R T := match dctOf s x with
  | some kvs => match asA i with
    | some k => if isKeyA k then match lookA kvs k with
      | some a => .ok (.v a) s
      | none => .stuck else .stuck
    | none => .stuck
  | none => match asInt i with
    | some j => match asStr x with
      | some z => match L2.atI z.cps.toList j with
        | some c => .ok (.v (.str ⟨#[c]⟩)) s
        | none => .stuck
      | none => match seqOf s x with
        | some xs => match L2.atI xs j with
          | some a => .ok (.v a) s
          | none => .stuck
        | none => .stuck
    | none => .stuck
def cutA {α : Type} (xs : List α) (lo hi : Option Int) : List α := (xs.drop (HT.sIx xs.length 0 lo)).take (HT.sIx xs.length xs.length hi - HT.sIx xs.length 0 lo)
def opSlc (x : T) (lo hi : Option Int) (s : S) : R T := match asStr x with
  | some z => .ok (.v (.str (L2.cutS z lo hi))) s
  | none => match tupOf x with
    | some xs => .ok (.v (.tup (cutA xs lo hi))) s
    | none => match lstOf s x with
      | some xs => .ok (.tl (cutA xs lo hi)) s
      | none => .stuck
def asBls : List A → Option (List Bool)
  | [] => some []
  | .bl b :: as => (asBls as).map (b :: ·)
  | _ => none
def asInts : List A → Option (List Int)
  | [] => some []
  | .int b :: as => (asInts as).map (b :: ·)
  | _ => none
def insI (x : Int) : List Int → List Int
  | [] => [x]
  | y :: ys => if x ≤ y then x :: y :: ys else y :: insI x ys
def sortI : List Int → List Int
  | [] => []
  | x :: xs => insI x (sortI xs)
def opBf (b : BF) (ts : List T) (s : S) : R T := match ts with
  | [x] => match b with
    | .len => match asStr x with
      | some z => .ok (.v (.int z.length)) s
      | none => match seqOf s x with
        | some xs => .ok (.v (.int xs.length)) s
        | none => match dctOf s x with
          | some kvs => .ok (.v (.int kvs.length)) s
          | none => .stuck
    | .int => match asInt x with
      | some i => .ok (.v (.int i)) s
      | none => match asBl x with
        | some k => .ok (.v (.int (if k then 1 else 0))) s
        | none => .stuck
    | .str => match asInt x with
      | some i => if decide (i.natAbs.log2 < 1920) && decide ((Str.ofString (toString i)).length ≤ Lim) then .ok (.v (.str (Str.ofString (toString i)))) s else .stuck
      | none => .stuck
    | .list => match seqOf s x with
      | some xs => .ok (.tl xs) s
      | none => .stuck
    | .tuple => match seqOf s x with
      | some xs => .ok (.v (.tup xs)) s
      | none => .stuck
    | .all => match (lstOf s x).bind asBls with
      | some bs => .ok (.v (.bl (bs.all id))) s
      | none => .stuck
    | .any => match (lstOf s x).bind asBls with
      | some bs => .ok (.v (.bl (bs.any id))) s
      | none => .stuck
    | .sum => match (lstOf s x).bind asInts with
      | some bs => .ok (.v (.int bs.sum)) s
      | none => .stuck
    | .sorted => match (lstOf s x).bind asInts with
      | some bs => .ok (.tl ((sortI bs).map A.int)) s
      | none => .stuck
    | _ => .stuck
  | [x, y] => match asInt x, asInt y with
    | some i, some j => match b with
      | .min2 => .ok (.v (.int (if j < i then j else i))) s
      | .max2 => .ok (.v (.int (if j > i then j else i))) s
      | _ => .stuck
    | _, _ => .stuck
  | _ => .stuck
def augI (o : BinO) (j k : Int) : Option Int := match o with
  | .add => some (j + k)
  | .sub => some (j - k)
  | _ => none
def S.put (s : S) (i : Nat) (c : C) : S := { s with env := s.env.set i (some c) }
/-- a result stored in a slot -/
def putT (s : S) (i : Nat) : T → R Unit
  | .v a => .ok () (s.put i (.v a))
  | .tl xs => .ok () (s.put i (.l true xs))
  | .td xs => .ok () (s.put i (.d true xs))
  | .sl _ => .stuck
def S.new (s : S) (o : O) : S := { s with st := s.st ++ [o] }
/-- the list of a result, that may be changed, becomes xs' -/
def setL (s : S) (t : T) (xs' : List A) : Option S := match t with
  | .sl i => match s.slot i with
    | some (.l true _) => some (s.put i (.l true xs'))
    | _ => none
  | .v (.ref l) => match s.st[l]? with
    | some (.lst _) => some { s with st := s.st.set l (.lst xs') }
    | _ => none
  | _ => none
def opMt (m : MT) (x : T) (as : List T) (s : S) : R T := match m, as with
  | .append, [y] => match asA y, lstOf s x with
    | some a, some xs => if xs.length < Lim then match setL s x (xs ++ [a]) with
      | some s' => .ok (.v .non) s'
      | none => .stuck else .stuck
    | _, _ => .stuck
  | .extend, [y] => match seqOf s y, lstOf s x with
    | some ys, some xs => if xs.length + ys.length ≤ Lim then match setL s x (xs ++ ys) with
      | some s' => .ok (.v .non) s'
      | none => .stuck else .stuck
    | _, _ => .stuck
  | .pop, [] => match lstOf s x with
    | some xs => match xs[xs.length - 1]? with
      | some a => match setL s x xs.dropLast with
        | some s' => .ok (.v a) s'
        | none => .stuck
      | none => .stuck
    | none => .stuck
  | .popat, [y] => match asInt y, lstOf s x with
    | some i, some xs => match L2.ixN xs.length i with
      | some k => match xs[k]? with
        | some a => match setL s x (xs.eraseIdx k) with
          | some s' => .ok (.v a) s'
          | none => .stuck
        | none => .stuck
      | none => .stuck
    | _, _ => .stuck
  | .index, [y] => match lstOf s x, datT s y with
    | some xs, some d => match toDs xs with
      | some ds => if decide (PyData.depthAll ds ≤ 150) || decide (d.depth ≤ 150) then match ds.findIdx? fun z => PyData.eqv z d with
        | some k => .ok (.v (.int k)) s
        | none => .stuck else .stuck
      | none => .stuck
    | _, _ => .stuck
  | _, _ => .stuck
/-- a method's object is of its type -/
def rcvOk (m : MT) (s : S) (x : T) : Bool := match m with
  | .get | .get2 | .setd => (dctOf s x).isSome
  | _ => (lstOf s x).isSome
/-- a value's type -/
inductive VTy where | non | bool | int | str | tuple | list | dict deriving DecidableEq
def typeT (s : S) (x : T) : Option VTy := match lstOf s x with
  | some _ => some .list
  | none => match dctOf s x with
    | some _ => some .dict
    | none => match x with
      | .v .non => some .non
      | .v (.bl _) => some .bool
      | .v (.int _) => some .int
      | .v (.str _) => some .str
      | .v (.tup _) => some .tuple
      | _ => none
def isTy : VTy → Ty → Bool
  | _, .object => true
  | .bool, .bool => true
  | .bool, .int => true
  | .int, .int => true
  | .str, .str => true
  | .tuple, .tuple => true
  | .list, .list => true
  | .dict, .dict => true
  | _, _ => false
def opIsi (s : S) (x : T) (ts : List Ty) : Option Bool := (typeT s x).map fun t => ts.any (isTy t)
/-- a list, a dict frozen, or given a place in the store -/
def frzT (t : T) (s : S) : R T := match t with
  | .v a => .ok (.v a) s
  | .tl xs => .ok (.v (.lst xs)) s
  | .sl i => match s.slot i with
    | some (.l true xs) => .ok (.v (.lst xs)) (s.put i (.v (.lst xs)))
    | _ => .stuck
  | .td _ => .stuck
def prmT (t : T) (s : S) : R T := match t with
  | .v a => .ok (.v a) s
  | .tl xs => .ok (.v (.ref s.st.length)) (s.new (.lst xs))
  | .td xs => .ok (.v (.ref s.st.length)) (s.new (.dct xs))
  | .sl _ => .stuck
/-- an argument, as the callee has it -/
def argC (s : S) : T → Option C
  | .v a => some (.v a)
  | .tl xs => some (.l false xs)
  | .td kvs => some (.d false kvs)
  | .sl i => match s.slot i with
    | some (.l _ xs) => some (.l false xs)
    | some (.d _ kvs) => some (.d false kvs)
    | _ => none
def argCs (s : S) : List T → Option (List C)
  | [] => some []
  | t :: ts => match argC s t, argCs s ts with
    | some c, some cs => some (c :: cs)
    | _, _ => none
/-- a def's result, as the caller has it -/
def retT (s : S) : T → Option T
  | .sl i => match s.slot i with
    | some (.l true xs) => some (.tl xs)
    | some (.d true kvs) => some (.td kvs)
    | _ => none
  | t => some t
def RC.res (r : RC) (s : S) : R T := match r with
  | .ok t st => .ok t { s with st := st }
  | .exc c fs st => .exc c fs { s with st := st }
  | .stuck => .stuck
def instOf (s : S) : T → Option (Str × List (Str × A))
  | .v (.ref l) => match s.st[l]? with
    | some (.ins c fs) => some (c, fs)
    | _ => none
  | _ => none
def putFA (f : Str) (a : A) : List (Str × A) → List (Str × A)
  | [] => [(f, a)]
  | p :: r => if p.1 = f then (f, a) :: r else p :: putFA f a r
def setF (fl : Str → Str → Bool) (s : S) (t : T) (f : Str) (a : A) : Option S := match t with
  | .v (.ref l) => match s.st[l]? with
    | some (.ins c fs) => if fl c f && decide (fs.length < 1000) then some { s with st := s.st.set l (.ins c (putFA f a fs)) } else none
    | _ => none
  | _ => none
/-- the dict of a result, that may be changed, becomes kvs' -/
def setD (s : S) (t : T) (kvs' : List (A × A)) : Option S := match t with
  | .sl i => match s.slot i with
    | some (.d true _) => some (s.put i (.d true kvs'))
    | _ => none
  | .v (.ref l) => match s.st[l]? with
    | some (.dct _) => some { s with st := s.st.set l (.dct kvs') }
    | _ => none
  | _ => none
def putA (kvs : List (A × A)) (k a : A) : List (A × A) := if kvs.any (fun p => decide (p.1 = k)) then kvs.map (fun p => if p.1 = k then (p.1, a) else p) else kvs ++ [(k, a)]
def setIx (s : S) (t i : T) (a : A) : Option S := match dctOf s t with
  | some kvs => match asA i with
    | some k => if isKeyA k && decide (kvs.length < Lim) then setD s t (putA kvs k a) else none
    | none => none
  | none => match asInt i, lstOf s t with
    | some k, some xs => match L2.ixN xs.length k with
      | some j => setL s t (xs.set j a)
      | none => none
    | _, _ => none
def forL (f : A → S → Q) : List A → S → Q
  | [], s => .nx s
  | x :: xs, s => match f x s with
    | .nx s' => forL f xs s'
    | .ct s' => forL f xs s'
    | .bk s' => .nx s'
    | r => r
def whlL (c : S → R T) (b : S → Q) : Nat → S → Q
  | 0, _ => .stuck
  | n + 1, s => (c s).stm fun t s1 => match asBl t with
    | some true => match b s1 with
      | .nx s' => whlL c b n s'
      | .ct s' => whlL c b n s'
      | .bk s' => .nx s'
      | r => r
    | some false => .nx s1
    | none => .stuck
def comL (f : A → S → R (Option A)) : List A → S → R (List A)
  | [], s => .ok [] s
  | x :: xs, s => (f x s).bind fun o s1 => (comL f xs s1).bind fun r s2 => .ok (o.toList ++ r) s2
def wipeE (env : List (Option C)) : List Nat → List (Option C)
  | [] => env
  | v :: vs => (wipeE env vs).set v none
/-- slots as they were -/
def backE (old env : List (Option C)) : List Nat → List (Option C)
  | [] => env
  | v :: vs => (backE old env vs).set v ((old[v]?).bind id)
/-- lent -/
def dg : C → C
  | .l _ xs => .l false xs
  | .d _ xs => .d false xs
  | c => c
def borE (env : List (Option C)) : List Nat → List (Option C)
  | [] => env
  | i :: is => (borE env is).modify i (Option.map dg)
def chars (z : Str) : List A := z.cps.toList.map fun c => .str ⟨#[c]⟩
def enumA : Nat → List A → List A
  | _, [] => []
  | n, x :: xs => .tup [.int n, x] :: enumA (n + 1) xs
def zipA : List A → List A → List A
  | x :: xs, y :: ys => .tup [x, y] :: zipA xs ys
  | _, _ => []
def rngA (lo : Int) (n : Nat) : List A := (List.range n).map fun k => .int (lo + (k : Nat))
def slotsOf : T → List Nat
  | .sl i => [i]
  | _ => []
def fixed : T → Bool
  | .v (.ref _) => false
  | _ => true
/-- the slots of a comprehension's names hold plain values or nothing -/
def plainAt (env : List (Option C)) (vs : List Nat) : Bool := vs.all fun v => match (env[v]?).bind id with
  | none => true
  | some (.v _) => true
  | _ => false
structure Cfg where
  call : CallF
  callM : CallF
  flds : Str → Str → Bool
  meth : Str → Str → Option Nat
  sub : Str → Str → Bool
  xf : Str → Str → Bool
  xc : Str → Bool
  fuel : Nat
variable (c : Cfg)
mutual
def evE : E → S → R T
  | .cst a, s => .ok (.v a) s
  | .var i, s => match s.slot i with
    | some (.v a) => .ok (.v a) s
    | some (.l _ _) => .ok (.sl i) s
    | some (.d _ _) => .ok (.sl i) s
    | _ => .stuck
  | .bin o a b, s => (evE a s).bind fun x s1 => (evE b s1).bind fun y s2 => opBin o x y s2
  | .neg a, s => (evE a s).bind fun x s1 => match asInt x with
    | some i => .ok (.v (.int (-i))) s1
    | none => .stuck
  | .cmp o a b, s => (evE a s).bind fun x s1 => (evE b s1).bind fun y s2 => match opCmp o x y s2 with
    | some k => .ok (.v (.bl k)) s2
    | none => .stuck
  | .cmp2 o p a b d, s => (evE a s).bind fun x s1 => (evE b s1).bind fun y s2 => match opCmp o x y s2 with
    | some true => (evE d s2).bind fun z s3 => match opCmp p y z s3 with
      | some k => .ok (.v (.bl k)) s3
      | none => .stuck
    | some false => .ok (.v (.bl false)) s2
    | none => .stuck
  | .not a, s => (evE a s).bind fun x s1 => match asBl x with
    | some k => .ok (.v (.bl (!k))) s1
    | none => .stuck
  | .and as, s => evAnd as s
  | .or as, s => evOr as s
  | .ite t a b, s => (evE t s).bind fun x s1 => match asBl x with
    | some true => evE a s1
    | some false => evE b s1
    | none => .stuck
  | .idx a i, s => (evE a s).bind fun x s1 => (evE i s1).bind fun y s2 => opIdx x y s2
  | .slc a lo hi, s => (evE a s).bind fun x s1 => (evO lo s1).bind fun l s2 => (evO hi s2).bind fun h s3 => opSlc x l h s3
  | .call f as ds, s => (evEs as s).bind fun ts s1 => match argCs s1 ts with
    | some cs => (c.call f (cs ++ ds.map .v) s1.st).res s1
    | none => .stuck
  | .bf b as, s => (evEs as s).bind fun ts s1 => opBf b ts s1
  | .mt m a as, s => (evE a s).bind fun x s1 => if rcvOk m s1 x then (evEs as s1).bind fun ts s2 => opMt m x ts s2 else .stuck
  | .tup as, s => (evEs as s).bind fun ts s1 => match asAs ts with
    | some xs => if xs.length ≤ Lim then .ok (.v (.tup xs)) s1 else .stuck
    | none => .stuck
  | .lst as, s => (evEs as s).bind fun ts s1 => match asAs ts with
    | some xs => if xs.length ≤ Lim then .ok (.tl xs) s1 else .stuck
    | none => .stuck
  | .dic0, s => .ok (.td []) s
  | .isi a ts, s => (evE a s).bind fun x s1 => match opIsi s1 x ts with
    | some k => .ok (.v (.bl k)) s1
    | none => .stuck
  | .lc vs g it k e, s => (evIt it s).bind fun src s1 => if plainAt s1.env vs && decide (src.1.length ≤ Lim) then
      (R.nox <| comL (fun x s2 => (evTg g (.v x) { s2 with env := wipeE s2.env vs }).bind fun _ s3 => (evC k s3).bind fun b s4 => if b then (evE e s4).bind fun y s5 => match asA y with
          | some a => .ok (some a) s5
          | none => .stuck else .ok none s4) src.1 { s1 with env := borE s1.env src.2 }).bind fun r s6 => .ok (.tl r) { s6 with env := backE s1.env s6.env (vs ++ src.2) }
    else .stuck
  | .mcall m a as, s => (evE a s).bind fun x s1 => match instOf s1 x with
    | some (k, fs) => match fs.lookup m, c.meth k m with
      | none, some f => (evEs as s1).bind fun ts s2 => match argC s2 x, argCs s2 ts with
        | some x', some cs => (c.call f (x' :: cs) s2.st).res s2
        | _, _ => .stuck
      | _, _ => .stuck
    | none => .stuck
  | .make k f as ds, s => (evEs as s).bind fun ts s1 => match argCs s1 ts with
    | some cs => ((c.callM f (.v (.ref s1.st.length) :: (cs ++ ds.map .v)) (s1.new (.ins k [])).st).res (s1.new (.ins k []))).bind fun t s2 => match t with
      | .v .non => .ok (.v (.ref s1.st.length)) s2
      | _ => .stuck
    | none => .stuck
  | .fld a f, s => (evE a s).bind fun x s1 => match instOf s1 x with
    | some (k, fs) => if c.flds k f then match fs.lookup f with
      | some a => .ok (.v a) s1
      | none => .stuck else .stuck
    | none => .stuck
  | .exf i f, s => match s.slot i with
    | some (.x _ fs) => match fs.lookup f with
      | some a => .ok (.v a) s
      | none => .stuck
    | _ => .stuck
  | .dget a k, s => (evE a s).bind fun x s1 => if (dctOf s1 x).isSome then (evE k s1).bind fun y s2 => match dctOf s2 x, asA y with
    | some kvs, some q => if isKeyA q then .ok (.v ((lookA kvs q).getD .non)) s2 else .stuck
    | _, _ => .stuck else .stuck
  | .dget2 a k d, s => (evE a s).bind fun x s1 => if (dctOf s1 x).isSome then (evE k s1).bind fun y s2 => (evE d s2).bind fun z s3 => match dctOf s3 x, asA y, asA z with
    | some kvs, some q, some e => if isKeyA q then .ok (.v ((lookA kvs q).getD e)) s3 else .stuck
    | _, _, _ => .stuck else .stuck
  | .frz a, s => (evE a s).bind frzT
  | .prm a, s => (evE a s).bind prmT
  | .mkx k f e, s => (evE e s).bind fun x s1 => match f with
    | none => .ok (.v (.exv k [] [])) s1
    | some f => match asA x with
      | some a => .ok (.v (.exv k [f] [a])) s1
      | none => .stuck
  | .mkk k f _ e, s => (evE e s).bind fun x s1 => match asA x with
    | some a => .ok (.v (.exv k [f] [a])) s1
    | none => .stuck
  | .isx a k, s => (evE a s).bind fun x s1 => match x with
    | .v (.exv k' _ _) => if c.xc k' then .ok (.v (.bl (c.sub k' k))) s1 else .stuck
    | _ => .stuck
  | .xfl a f, s => (evE a s).bind fun x s1 => match x with
    | .v (.exv k ns xs) => match c.xf k f, (ns.zip xs).lookup f with
      | true, some a => .ok (.v a) s1
      | _, _ => .stuck
    | _ => .stuck
def evAnd : Es → S → R T
  | .nil, _ => .stuck
  | .star _ _, _ => .stuck
  | .cons a as, s => match as with
    | .nil => evE a s
    | _ => (evE a s).bind fun x s1 => match asBl x with
      | some true => evAnd as s1
      | some false => .ok (.v (.bl false)) s1
      | none => .stuck
def evOr : Es → S → R T
  | .nil, _ => .stuck
  | .star _ _, _ => .stuck
  | .cons a as, s => match as with
    | .nil => evE a s
    | _ => (evE a s).bind fun x s1 => match asBl x with
      | some true => .ok (.v (.bl true)) s1
      | some false => evOr as s1
      | none => .stuck
def evEs : Es → S → R (List T)
  | .nil, s => .ok [] s
  | .cons e es, s => (evE e s).bind fun t s1 => (evEs es s1).bind fun ts s2 => .ok (t :: ts) s2
  | .star e es, s => (evE e s).bind fun t s1 => match seqOf s1 t with
    | some xs => (evEs es s1).bind fun ts s2 => .ok (xs.map .v ++ ts) s2
    | none => .stuck
def evO : OE → S → R (Option Int)
  | .none, s => .ok none s
  | .some e, s => (evE e s).bind fun t s1 => match asInt t with
    | some i => .ok (some i) s1
    | none => .stuck
def evC : OE → S → R Bool
  | .none, s => .ok true s
  | .some e, s => (evE e s).bind fun t s1 => match asBl t with
    | some i => .ok i s1
    | none => .stuck
/-- what is walked, and the slots that must stay meanwhile -/
def evIt : Wk → S → R (List A × List Nat)
  | .seq e, s => (evE e s).bind fun t s1 => match asStr t with
    | some z => .ok (chars z, []) s1
    | none => if fixed t then match seqOf s1 t with
      | some xs => .ok (xs, slotsOf t) s1
      | none => .stuck else .stuck
  | .rng1 e, s => (evE e s).bind fun t s1 => match asInt t with
    | some j => if decide (-Rng ≤ j) && decide (j < Rng) then .ok (rngA 0 j.toNat, []) s1 else .stuck
    | none => .stuck
  | .rng2 a b, s => (evE a s).bind fun t s1 => (evE b s1).bind fun u s2 => match asInt t, asInt u with
    | some i, some j => if (decide (-Rng ≤ i) && decide (i < Rng)) && (decide (-Rng ≤ j) && decide (j < Rng)) then .ok (rngA i (j - i).toNat, []) s2 else .stuck
    | _, _ => .stuck
  | .enm e, s => (evE e s).bind fun t s1 => if fixed t then match lstOf s1 t with
      | some xs => .ok (enumA 0 xs, slotsOf t) s1
      | none => .stuck else .stuck
  | .zip a b, s => (evE a s).bind fun t s1 => (evE b s1).bind fun u s2 => if fixed t && fixed u then match tupOf t, tupOf u with
      | some xs, some ys => .ok (zipA xs ys, []) s2
      | _, _ => match lstOf s2 t, lstOf s2 u with
        | some xs, some ys => .ok (zipA xs ys, slotsOf t ++ slotsOf u) s2
        | _, _ => .stuck else .stuck
def evTg : Tg → T → S → R Unit
  | .nm i, t, s => putT s i t
  | .tp gs, t, s => match tupOf t with
    | some xs => if xs.length = gs.len then evTgs gs xs s else .stuck
    | none => .stuck
  | .ix o i, t, s => match asA t with
    | some a => (evE o s).bind fun x s1 => (evE i s1).bind fun y s2 => match setIx s2 x y a with
      | some s3 => .ok () s3
      | none => .stuck
    | none => .stuck
  | .fd o f, t, s => match asA t with
    | some a => (evE o s).bind fun x s1 => match setF c.flds s1 x f a with
      | some s2 => .ok () s2
      | none => .stuck
    | none => .stuck
def evTgs : Tgs → List A → S → R Unit
  | .nil, [], s => .ok () s
  | .cons g gs, x :: xs, s => (evTg g (.v x) s).bind fun _ s1 => evTgs gs xs s1
  | _, _, _ => .stuck
end
mutual
def evS : Sm → S → Q
  | .asg g e, s => (evE c e s).stm fun t s1 => (evTg c g t s1).stm fun _ s2 => .nx s2
  | .par i j a b, s => (evE c a s).stm fun t s1 => (evE c b s1).stm fun u s2 => (evTg c (.nm i) t s2).stm fun _ s3 => (evTg c (.nm j) u s3).stm fun _ s4 => .nx s4
  | .par3 i j l a b d, s => (evE c a s).stm fun t s1 => (evE c b s1).stm fun u s2 => (evE c d s2).stm fun v s3 => (evTg c (.nm i) t s3).stm fun _ s4 => (evTg c (.nm j) u s4).stm fun _ s5 => (evTg c (.nm l) v s5).stm fun _ s6 => .nx s6
  | .aug i o e, s => match s.slot i with
    | some (.v (.int j)) => (evE c e s).stm fun u s2 => match asInt u with
      | some k => match augI o j k with
        | some r => .nx (s2.put i (.v (.int r)))
        | none => .stuck
      | none => .stuck
    | _ => .stuck
  | .augF a f o e, s => (evE c a s).stm fun x s1 => match instOf s1 x with
    | some (k, fs) => if c.flds k f then match fs.lookup f with
      | some (.int j) => (evE c e s1).stm fun u s2 => match asInt u with
        | some i => match augI o j i with
          | some r => if (instOf s2 x).map (·.1) = some k then match setF c.flds s2 x f (.int r) with
            | some s3 => .nx s3
            | none => .stuck else .stuck
          | none => .stuck
        | none => .stuck
      | _ => .stuck else .stuck
    | none => .stuck
  | .ex e, s => (evE c e s).stm fun _ s1 => .nx s1
  | .rt e, s => (evE c e s).stm fun t s1 => .rt t s1
  | .rtn, s => .rt (.v .non) s
  | .ife k a b, s => (evE c k s).stm fun t s1 => match asBl t with
    | some true => evSs a s1
    | some false => evSs b s1
    | none => .stuck
  | .for g it b, s => (evIt c it s).stm fun src s1 => forL (fun x s2 => ((evTg c g (.v x) s2).stm fun _ s3 => .nx s3).seq fun s3 => evSs b s3) src.1 { s1 with env := borE s1.env src.2 }
  | .whl k b, s => whlL (evE c k) (evSs b) c.fuel s
  | .raise k f e, s => (evE c e s).stm fun t s1 => match f with
    | none => .exc k [] s1
    | some f => match asA t with
      | some a => .exc k [(f, a)] s1
      | none => .stuck
  | .tryx b k n h, s => match evSs b s with
    | .exc k' fs s1 => if c.sub k' k then match n with
        | none => (evSs h s1).nox
        | some i => (evSs h (s1.put i (.x k' fs))).nox.clr i
      else .exc k' fs s1
    | r => r
  | .bk, s => .bk s
  | .ct, s => .ct s
  | .pass, s => .nx s
  | .mtch e cs, s => (evE c e s).stm fun t s1 => match asStr t with
    | some x => evCs cs x s1
    | none => .stuck
def evCs : Cs → Str → S → Q
  | .nil, _, s => .nx s
  | .any b, _, s => evSs b s
  | .cons p b cs, x, s => if x ∈ p then evSs b s else evCs cs x s
def evSs : Sms → S → Q
  | .nil, s => .nx s
  | .cons x xs, s => (evS x s).seq fun s1 => evSs xs s1
end
structure Fn where
  np : Nat
  ns : Nat
  body : Sms
structure Prg where
  fns : List Fn
  meth : Str → Str → Option Nat
  sub : Str → Str → Bool
  flds : Str → Str → Bool
  xf : Str → Str → Bool
  xc : Str → Bool
  fuel : Nat
/-- what a body sees -/
def Prg.cfg (P : Prg) (call callM : CallF) : Cfg := ⟨call, callM, P.flds, P.meth, P.sub, P.xf, P.xc, P.fuel⟩
def endC : Q → RC
  | .nx s => .ok (.v .non) s.st
  | .rt t s => match retT s t with
    | some t' => .ok t' s.st
    | none => .stuck
  | .exc k fs s => .exc k fs s.st
  | _ => .stuck
def evCall (P : Prg) : Nat → CallF
  | 0, _, _, _ => .stuck
  | 1, _, _, _ => .stuck
  | 2, _, _, _ => .stuck
  | n + 3, f, cs, st => match P.fns[f]? with
    | some F => if cs.length = F.np then endC (evSs (P.cfg (evCall P (n + 2)) (evCall P (n + 1))) F.body ⟨cs.map some ++ List.replicate (F.ns - F.np) none, st⟩) else .stuck
    | none => .stuck
end CE
end CEb
section CEc
set_option maxRecDepth 100000
set_option maxHeartbeats 2000000
namespace CE
open PySem PySem.Spec PyProof.Rows L2
structure Wd where
  K : PySem.W.Frag
  ga : Str → Option V
  ca : Str → Option Addr
abbrev Pl := Nat → Option Addr
/-- a list that nobody changes any more -/
def Frz (K : PySem.W.Frag) (H : Hp) (p : Addr) (vs : List V) : Prop := (∃ o, H p = some (.frz o (.lst vs))) ∨
  ∃ (o : Obj) (its : Array Value) (n : Nat), K.lookup p = some o ∧ o.cls = .type "list" ∧ o.dict = none ∧ o.data = .seq its n ∧ its.size ≤ sizeLine ∧ Vals vs its.toList
theorem Frz.sql {K : PySem.W.Frag} {H : Hp} {p : Addr} {vs : List V} (h : Frz K H p vs) : SqL K H p vs := by
  rcases h with ⟨o, h⟩ | h
  · exact .inl (.inr ⟨o, h⟩)
  · exact .inr h
mutual
inductive RA (w : Wd) (m : Pl) (H : Hp) : A → V → Prop
  | exv0 {c : Str} {C a : Addr} : w.ca c = some C → H a = some (exo a C none) → RA w m H (.exv c [] []) (.ref a)
  | exv {c : Str} {ns : List Str} {xs : List A} {vs : List V} {C a d : Addr} : w.ca c = some C → H a = some (exo a C (some d)) → H d = some (exd d (ns.zip vs)) → ns.length = xs.length → RAs w m H xs vs → RA w m H (.exv c ns xs) (.ref a)
  | non : RA w m H .non .non
  | bl (b : Bool) : RA w m H (.bl b) (.bl b)
  | int (i : Int) : RA w m H (.int i) (.int i)
  | str (x : Str) : PyData.strOk x = true → x.length ≤ Lim → RA w m H (.str x) (.str x)
  | tup {p : Addr} {xs : List A} {vs : List V} : SqT w.K H p vs → xs.length ≤ Lim → RAs w m H xs vs → RA w m H (.tup xs) (.ref p)
  | lst {p : Addr} {xs : List A} {vs : List V} : Frz w.K H p vs → xs.length ≤ Lim → RAs w m H xs vs → RA w m H (.lst xs) (.ref p)
  | ref {l : Nat} {p : Addr} : m l = some p → RA w m H (.ref l) (.ref p)
  | ty (n : String) : RA w m H (.ty n) (.ty n)
  | glo {x : Str} {v : V} : w.ga x = some v → RA w m H (.glo x) v
inductive RAs (w : Wd) (m : Pl) (H : Hp) : List A → List V → Prop
  | nil : RAs w m H [] []
  | cons {a : A} {as : List A} {v : V} {vs : List V} : RA w m H a v → RAs w m H as vs → RAs w m H (a :: as) (v :: vs)
end
/-- what nobody changes stands -/
structure Stb (m : Pl) (H : Hp) (m' : Pl) (H' : Hp) : Prop where
  mono : ∀ l p, m l = some p → m' l = some p
  tup : ∀ p xs, H p = some (.tup xs) → H' p = some (.tup xs)
  frz : ∀ p o u, H p = some (.frz o u) → H' p = some (.frz o u)
  ext : ∀ p f, H p = some (.ext f) → H' p = some (.ext f)
theorem Stb.sqt {K : PySem.W.Frag} {m m' : Pl} {H H' : Hp} (b : Stb m H m' H') {p : Addr} {vs : List V} (h : SqT K H p vs) : SqT K H' p vs := by
  rcases h with (h | ⟨o, h⟩) | h
  · exact .inl (.inl (b.tup _ _ h))
  · exact .inl (.inr ⟨o, b.frz _ _ _ h⟩)
  · exact .inr h
theorem Stb.frzL {K : PySem.W.Frag} {m m' : Pl} {H H' : Hp} (b : Stb m H m' H') {p : Addr} {vs : List V} (h : Frz K H p vs) : Frz K H' p vs := by
  rcases h with ⟨o, h⟩ | h
  · exact .inl ⟨o, b.frz _ _ _ h⟩
  · exact .inr h
mutual
theorem RA.stb {w : Wd} {m m' : Pl} {H H' : Hp} (b : Stb m H m' H') : ∀ {a : A} {v : V}, RA w m H a v → RA w m' H' a v
  | _, _, .non => .non
  | _, _, .bl b => .bl b
  | _, _, .int i => .int i
  | _, _, .str x h1 h2 => .str x h1 h2
  | _, _, .tup h1 h2 h3 => .tup (b.sqt h1) h2 (RAs.stb b h3)
  | _, _, .lst h1 h2 h3 => .lst (b.frzL h1) h2 (RAs.stb b h3)
  | _, _, .ref h => .ref (b.mono _ _ h)
  | _, _, .ty n => .ty n
  | _, _, .glo h => .glo h
  | _, _, .exv0 h1 h2 => .exv0 h1 (b.ext _ _ h2)
  | _, _, .exv h1 h2 h3 h4 h5 => .exv h1 (b.ext _ _ h2) (b.ext _ _ h3) h4 (RAs.stb b h5)
theorem RAs.stb {w : Wd} {m m' : Pl} {H H' : Hp} (b : Stb m H m' H') : ∀ {a : List A} {v : List V}, RAs w m H a v → RAs w m' H' a v
  | _, _, .nil => .nil
  | _, _, .cons h1 h2 => .cons (RA.stb b h1) (RAs.stb b h2)
end
theorem RAs.len {w : Wd} {m : Pl} {H : Hp} : ∀ {as : List A} {vs : List V}, RAs w m H as vs → as.length = vs.length
  | _, _, .nil => rfl
  | _, _, .cons _ h => congrArg Nat.succ (RAs.len h)
theorem RAs.get {w : Wd} {m : Pl} {H : Hp} : ∀ {as : List A} {vs : List V} {i : Nat} {a : A}, RAs w m H as vs → as[i]? = some a → ∃ v, vs[i]? = some v ∧ RA w m H a v
  | _, _, _, _, .nil, e => by simp at e
  | _, _, 0, _, .cons r _, e => by simp at e; subst e; exact ⟨_, rfl, r⟩
  | _, _, i + 1, a, .cons _ t, e => by
    obtain ⟨u, h1, h2⟩ := RAs.get (i := i) (a := a) t (by simpa using e)
    exact ⟨u, by simpa using h1, h2⟩
theorem RAs.getV {w : Wd} {m : Pl} {H : Hp} : ∀ {as : List A} {vs : List V} {i : Nat} {v : V}, RAs w m H as vs → vs[i]? = some v → ∃ a, as[i]? = some a ∧ RA w m H a v
  | _, _, _, _, .nil, e => by simp at e
  | _, _, 0, _, .cons r _, e => by simp at e; subst e; exact ⟨_, rfl, r⟩
  | _, _, i + 1, v, .cons _ t, e => by
    obtain ⟨u, h1, h2⟩ := RAs.getV (i := i) (v := v) t (by simpa using e)
    exact ⟨u, by simpa using h1, h2⟩
theorem RAs.app {w : Wd} {m : Pl} {H : Hp} : ∀ {as bs : List A} {vs us : List V}, RAs w m H as vs → RAs w m H bs us → RAs w m H (as ++ bs) (vs ++ us)
  | _, _, _, _, .nil, s => s
  | _, _, _, _, .cons r t, s => .cons r (RAs.app t s)
theorem RAs.take {w : Wd} {m : Pl} {H : Hp} : ∀ {as : List A} {vs : List V} (n : Nat), RAs w m H as vs → RAs w m H (as.take n) (vs.take n)
  | _, _, 0, _ => .nil
  | _, _, _ + 1, .nil => .nil
  | _, _, n + 1, .cons r t => .cons r (RAs.take n t)
theorem RAs.drop {w : Wd} {m : Pl} {H : Hp} : ∀ {as : List A} {vs : List V} (n : Nat), RAs w m H as vs → RAs w m H (as.drop n) (vs.drop n)
  | _, _, 0, r => r
  | _, _, _ + 1, .nil => .nil
  | _, _, n + 1, .cons _ t => RAs.drop n t
theorem RAs.set {w : Wd} {m : Pl} {H : Hp} {a : A} {v : V} (r : RA w m H a v) : ∀ {as : List A} {vs : List V} (n : Nat), RAs w m H as vs → RAs w m H (as.set n a) (vs.set n v)
  | _, _, _, .nil => .nil
  | _, _, 0, .cons _ t => .cons r t
  | _, _, n + 1, .cons q t => .cons q (RAs.set r n t)
theorem RAs.eraseIdx {w : Wd} {m : Pl} {H : Hp} : ∀ {as : List A} {vs : List V} (n : Nat), RAs w m H as vs → RAs w m H (as.eraseIdx n) (vs.eraseIdx n)
  | _, _, _, .nil => .nil
  | _, _, 0, .cons _ t => t
  | _, _, n + 1, .cons q t => .cons q (RAs.eraseIdx n t)
theorem RAs.dropLast {w : Wd} {m : Pl} {H : Hp} : ∀ {as : List A} {vs : List V}, RAs w m H as vs → RAs w m H as.dropLast vs.dropLast
  | _, _, .nil => .nil
  | _, _, .cons _ .nil => .nil
  | _, _, .cons q (.cons r t) => .cons q (RAs.dropLast (.cons r t))
inductive RKey : A → Key → Prop
  | int (i : Int) : RKey (.int i) (.inl i)
  | str (x : Str) : PyData.strOk x = true → x.length ≤ Lim → RKey (.str x) (.inr x)
inductive RKVs (w : Wd) (m : Pl) (H : Hp) : List (A × A) → List (Key × V) → Prop
  | nil : RKVs w m H [] []
  | cons {k a : A} {as : List (A × A)} {q : Key} {v : V} {vs : List (Key × V)} : RKey k q → RA w m H a v → RKVs w m H as vs → RKVs w m H ((k, a) :: as) ((q, v) :: vs)
inductive RFs (w : Wd) (m : Pl) (H : Hp) : List (Str × A) → List (Str × V) → Prop
  | nil : RFs w m H [] []
  | cons {f : Str} {a : A} {as : List (Str × A)} {v : V} {vs : List (Str × V)} : RA w m H a v → RFs w m H as vs → RFs w m H ((f, a) :: as) ((f, v) :: vs)
theorem RKVs.stb {w : Wd} {m m' : Pl} {H H' : Hp} (b : Stb m H m' H') : ∀ {a : List (A × A)} {v : List (Key × V)}, RKVs w m H a v → RKVs w m' H' a v
  | _, _, .nil => .nil
  | _, _, .cons h0 h1 h2 => .cons h0 (h1.stb b) (RKVs.stb b h2)
theorem RFs.stb {w : Wd} {m m' : Pl} {H H' : Hp} (b : Stb m H m' H') : ∀ {a : List (Str × A)} {v : List (Str × V)}, RFs w m H a v → RFs w m' H' a v
  | _, _, .nil => .nil
  | _, _, .cons h1 h2 => .cons (h1.stb b) (RFs.stb b h2)
/-- a list, a dict that may be changed; one that may be read -/
def RL (w : Wd) (m : Pl) (H : Hp) (p : Addr) (xs : List A) : Prop := ∃ vs, H p = some (.lst vs) ∧ xs.length ≤ Lim ∧ RAs w m H xs vs
def RB (w : Wd) (m : Pl) (H : Hp) (p : Addr) (xs : List A) : Prop := ∃ vs, Rd H p (.lst vs) ∧ xs.length ≤ Lim ∧ RAs w m H xs vs
def RD (w : Wd) (m : Pl) (H : Hp) (p : Addr) (xs : List (A × A)) : Prop := ∃ vs, H p = some (.dK vs) ∧ RKVs w m H xs vs
def RDb (w : Wd) (m : Pl) (H : Hp) (p : Addr) (xs : List (A × A)) : Prop := ∃ vs, Rd H p (.dK vs) ∧ RKVs w m H xs vs
theorem RL.rb {w : Wd} {m : Pl} {H : Hp} {p : Addr} {xs : List A} (h : RL w m H p xs) : RB w m H p xs := let ⟨vs, a, b, c⟩ := h; ⟨vs, .of a, b, c⟩
theorem RD.rb {w : Wd} {m : Pl} {H : Hp} {p : Addr} {xs : List (A × A)} (h : RD w m H p xs) : RDb w m H p xs := let ⟨vs, a, b⟩ := h; ⟨vs, .of a, b⟩
def RSl (w : Wd) (m : Pl) (H : Hp) : C → V → Prop
  | .v a, v => RA w m H a v
  | .l true xs, v => ∃ p, v = .ref p ∧ RL w m H p xs
  | .l false xs, v => ∃ p, v = .ref p ∧ RB w m H p xs
  | .d true xs, v => ∃ p, v = .ref p ∧ RD w m H p xs
  | .d false xs, v => ∃ p, v = .ref p ∧ RDb w m H p xs
  | .x _ _, _ => True
def RO (w : Wd) (m : Pl) (H : Hp) (p : Addr) : O → Prop
  | .lst xs => RL w m H p xs
  | .dct xs => RD w m H p xs
  | .ins c fs => ∃ Ca dx fs', w.ca c = some Ca ∧ H p = some (.ins Ca dx fs') ∧ RFs w m H fs fs'
def C.own : C → Bool
  | .l o _ => o
  | .d o _ => o
  | _ => false
def C.bor : C → Bool
  | .l o _ => !o
  | .d o _ => !o
  | _ => false
/-- slot i's own object stands at p; slot i reads the object at p -/
def OwnS (s : S) (σ : L2.St) (i : Nat) (p : Addr) : Prop := σ[i]? = some (some (.ref p)) ∧ ∃ c, s.slot i = some c ∧ c.own = true
def BorS (s : S) (σ : L2.St) (i : Nat) (p : Addr) : Prop := σ[i]? = some (some (.ref p)) ∧ ∃ c, s.slot i = some c ∧ c.bor = true
/-- what may be changed -/
def Own (m : Pl) (s : S) (σ : L2.St) (p : Addr) : Prop := (∃ l, m l = some p) ∨ ∃ i, OwnS s σ i p
structure Rel (w : Wd) (m : Pl) (s : S) (σ : L2.St) (H : Hp) : Prop where
  len : s.env.length = σ.length
  slot : ∀ i c, s.slot i = some c → ∃ v, σ[i]? = some (some v) ∧ RSl w m H c v
  st : ∀ l o, s.st[l]? = some o → ∃ p, m l = some p ∧ RO w m H p o
  dom : ∀ l p, m l = some p → l < s.st.length
  inj : ∀ l l' p, m l = some p → m l' = some p → l = l'
  ap1 : ∀ i p, OwnS s σ i p → ∀ l, m l ≠ some p
  ap2 : ∀ i j p, OwnS s σ i p → OwnS s σ j p → i = j
  ap3 : ∀ i p, BorS s σ i p → ¬ Own m s σ p
/-- what may have come of a state -/
structure Ext (m : Pl) (s : S) (σ : L2.St) (H : Hp) (m' : Pl) (s' : S) (σ' : L2.St) (H' : Hp) : Prop where
  mono : ∀ l p, m l = some p → m' l = some p
  newM : ∀ l p, m' l = some p → (∃ k, m k = some p) ∨ H p = none
  newS : ∀ i p, OwnS s' σ' i p → OwnS s σ i p ∨ H p = none
  bor : ∀ i p, BorS s' σ' i p → BorS s σ i p ∨ OwnS s σ i p ∨ H p = none
  frame : ∀ p o, H p = some o → ¬ Own m s σ p → H' p = some o
  keep : ∀ p, H p ≠ none → H' p ≠ none
theorem Ext.refl {m : Pl} {s : S} {σ : L2.St} {H : Hp} : Ext m s σ H m s σ H := ⟨fun _ _ h => h, fun l _ h => .inl ⟨l, h⟩, fun _ _ h => .inl h, fun i p h => .inl h, fun _ _ h _ => h, fun _ h => h⟩
theorem Ext.new {m m' : Pl} {s s' : S} {σ σ' : L2.St} {H H' : Hp} (x : Ext m s σ H m' s' σ' H') (p : Addr) (h : Own m' s' σ' p) : Own m s σ p ∨ H p = none := by
  rcases h with ⟨l, h⟩ | ⟨i, h⟩
  · exact (x.newM l p h).imp .inl id
  · exact (x.newS i p h).imp (fun z => .inr ⟨i, z⟩) id
theorem Ext.trans {m m1 m2 : Pl} {s s1 s2 : S} {σ σ1 σ2 : L2.St} {H H1 H2 : Hp} (a : Ext m s σ H m1 s1 σ1 H1) (b : Ext m1 s1 σ1 H1 m2 s2 σ2 H2) : Ext m s σ H m2 s2 σ2 H2 where
  mono := fun l p h => b.mono l p (a.mono l p h)
  newM := fun l p h => by
    rcases b.newM l p h with ⟨k, h⟩ | h
    · exact a.newM k p h
    · cases e : H p with
      | none => exact .inr rfl
      | some o => exact absurd h (a.keep p (by rw [e]; simp))
  newS := fun i p h => by
    rcases b.newS i p h with h | h
    · exact a.newS i p h
    · cases e : H p with
      | none => exact .inr rfl
      | some o => exact absurd h (a.keep p (by rw [e]; simp))
  bor := fun i p h => by
    rcases b.bor i p h with h | h | h
    · exact a.bor i p h
    · exact .inr (a.newS i p h)
    · cases e : H p with
      | none => exact .inr (.inr rfl)
      | some o => exact absurd h (a.keep p (by rw [e]; simp))
  frame := fun p o h n => by
    have h1 := a.frame p o h n
    refine b.frame p o h1 fun z => ?_
    rcases Ext.new a p z with q | q
    · exact n q
    · rw [h] at q; cases q
  keep := fun p h => b.keep p (a.keep p h)
/-- what may be changed is a list, a dict, an instance -/
def Mob : Option HO → Prop
  | some (.lst _) => True
  | some (.dK _) => True
  | some (.ins _ _ _) => True
  | _ => False
theorem Rel.mob {w : Wd} {m : Pl} {s : S} {σ : L2.St} {H : Hp} (r : Rel w m s σ H) {p : Addr} (h : Own m s σ p) : Mob (H p) := by
  rcases h with ⟨l, h⟩ | ⟨i, h, c, hc, ho⟩
  · have hl := r.dom l p h
    obtain ⟨p', e, q⟩ := r.st l s.st[l] (by simp [hl])
    rw [h] at e; cases e
    cases eo : s.st[l] with
    | lst xs => rw [eo] at q; obtain ⟨vs, e, _⟩ := q; rw [e]; trivial
    | dct xs => rw [eo] at q; obtain ⟨vs, e, _⟩ := q; rw [e]; trivial
    | ins c fs => rw [eo] at q; obtain ⟨_, _, _, _, e, _⟩ := q; rw [e]; trivial
  · obtain ⟨v, e, q⟩ := r.slot i c hc
    rw [h] at e; cases e
    cases c with
    | v a => cases ho
    | x c fs => cases ho
    | l o xs => cases o with
      | true => obtain ⟨p', e, vs, e2, _⟩ := q; cases e; rw [e2]; trivial
      | false => cases ho
    | d o xs => cases o with
      | true => obtain ⟨p', e, vs, e2, _⟩ := q; cases e; rw [e2]; trivial
      | false => cases ho
theorem Ext.stb {w : Wd} {m m' : Pl} {s s' : S} {σ σ' : L2.St} {H H' : Hp} (e : Ext m s σ H m' s' σ' H') (r : Rel w m s σ H) : Stb m H m' H' where
  mono := e.mono
  tup := fun p xs h => e.frame p _ h fun z => by have q := r.mob z; rw [h] at q; exact q
  frz := fun p o u h => e.frame p _ h fun z => by have q := r.mob z; rw [h] at q; exact q
  ext := fun p f h => e.frame p _ h fun z => by have q := r.mob z; rw [h] at q; exact q
end CE
end CEc
section CEd
set_option maxRecDepth 100000
set_option maxHeartbeats 2000000
namespace CE
open PySem PySem.Spec PyProof.Rows L2
/-- a new object at p: nobody has it -/
def Tmp (H0 : Hp) (m : Pl) (s : S) (σ : L2.St) (p : Addr) : Prop := H0 p = none ∧ ¬ Own m s σ p ∧ ∀ i, ¬ BorS s σ i p
def RT (w : Wd) (σ : L2.St) (H0 : Hp) (m : Pl) (s : S) (H : Hp) : T → V → Prop
  | .v a, v => RA w m H a v
  | .sl i, v => σ[i]? = some (some v)
  | .tl xs, v => ∃ p, v = .ref p ∧ RL w m H p xs ∧ Tmp H0 m s σ p
  | .td xs, v => ∃ p, v = .ref p ∧ RD w m H p xs ∧ Tmp H0 m s σ p
inductive RTs (w : Wd) (σ : L2.St) (H0 : Hp) (m : Pl) (s : S) (H : Hp) : List T → List V → Prop
  | nil : RTs w σ H0 m s H [] []
  | cons {t : T} {ts : List T} {v : V} {vs : List V} : RT w σ H0 m s H t v → RTs w σ H0 m s H ts vs → RTs w σ H0 m s H (t :: ts) (v :: vs)
def RX (w : Wd) (m : Pl) (H : Hp) (c : Str) (fs : List (Str × A)) (cls : Value) (d : Option Addr) : Prop := ∃ Ca, w.ca c = some Ca ∧ cls = .ref Ca ∧ ((fs = [] ∧ d = none) ∨ ∃ dx fs', d = some dx ∧ H dx = some (.xd fs') ∧ RFs w m H fs fs')
theorem Tmp.ext {H0 : Hp} {m m1 : Pl} {s s1 : S} {σ : L2.St} {H H1 : Hp} {p : Addr} (e : Ext m s σ H m1 s1 σ H1) (h : Tmp H0 m s σ p) (hp : H p ≠ none) : Tmp H0 m1 s1 σ p := by
  obtain ⟨h0, h1, h2⟩ := h
  refine ⟨h0, fun z => ?_, fun i z => ?_⟩
  · rcases e.new p z with q | q
    · exact h1 q
    · exact hp q
  · rcases e.bor i p z with q | q | q
    · exact h2 i q
    · exact h1 (.inr ⟨i, q⟩)
    · exact hp q
theorem RL.at {w : Wd} {m m' : Pl} {H H' : Hp} {p : Addr} {xs : List A} (h : RL w m H p xs) (b : Stb m H m' H') (k : ∀ o, H p = some o → H' p = some o) : RL w m' H' p xs := let ⟨vs, a, c, d⟩ := h; ⟨vs, k _ a, c, d.stb b⟩
theorem RD.at {w : Wd} {m m' : Pl} {H H' : Hp} {p : Addr} {xs : List (A × A)} (h : RD w m H p xs) (b : Stb m H m' H') (k : ∀ o, H p = some o → H' p = some o) : RD w m' H' p xs := let ⟨vs, a, d⟩ := h; ⟨vs, k _ a, d.stb b⟩
theorem RT.ext {w : Wd} {σ : L2.St} {H0 : Hp} {m m1 : Pl} {s s1 : S} {H H1 : Hp} {t : T} {v : V} (r : Rel w m s σ H) (e : Ext m s σ H m1 s1 σ H1) (h : RT w σ H0 m s H t v) : RT w σ H0 m1 s1 H1 t v := by
  have b := e.stb r
  cases t with
  | v a => exact RA.stb b h
  | sl i => exact h
  | tl xs =>
    obtain ⟨p, rfl, hl, ht⟩ := h
    exact ⟨p, rfl, hl.at b fun o q => e.frame p o q ht.2.1, ht.ext e (by obtain ⟨_, q, _⟩ := hl; rw [q]; simp)⟩
  | td xs =>
    obtain ⟨p, rfl, hl, ht⟩ := h
    exact ⟨p, rfl, hl.at b fun o q => e.frame p o q ht.2.1, ht.ext e (by obtain ⟨_, q, _⟩ := hl; rw [q]; simp)⟩
theorem RTs.ext {w : Wd} {σ : L2.St} {H0 : Hp} {m m1 : Pl} {s s1 : S} {H H1 : Hp} (r : Rel w m s σ H) (e : Ext m s σ H m1 s1 σ H1) : ∀ {t : List T} {v : List V}, RTs w σ H0 m s H t v → RTs w σ H0 m1 s1 H1 t v
  | _, _, .nil => .nil
  | _, _, .cons h1 h2 => .cons (h1.ext r e) (RTs.ext r e h2)
/-- seen from an earlier heap -/
theorem RT.back {w : Wd} {σ : L2.St} {H0 H1 : Hp} {m : Pl} {s : S} {H : Hp} {t : T} {v : V} (k : ∀ p, H1 p = none → H0 p = none) (h : RT w σ H1 m s H t v) : RT w σ H0 m s H t v := by
  cases t with
  | v a => exact h
  | sl i => exact h
  | tl xs => obtain ⟨p, e, hl, h0, h1⟩ := h; exact ⟨p, e, hl, k p h0, h1⟩
  | td xs => obtain ⟨p, e, hl, h0, h1⟩ := h; exact ⟨p, e, hl, k p h0, h1⟩
theorem RTs.back {w : Wd} {σ : L2.St} {H0 H1 : Hp} {m : Pl} {s : S} {H : Hp} (k : ∀ p, H1 p = none → H0 p = none) : ∀ {t : List T} {v : List V}, RTs w σ H1 m s H t v → RTs w σ H0 m s H t v
  | _, _, .nil => .nil
  | _, _, .cons h1 h2 => .cons (h1.back k) (RTs.back k h2)
theorem Ext.gone {m m' : Pl} {s s' : S} {σ σ' : L2.St} {H H' : Hp} (e : Ext m s σ H m' s' σ' H') (p : Addr) (h : H' p = none) : H p = none := by
  cases q : H p with
  | none => rfl
  | some o => exact absurd h (e.keep p (by rw [q]; simp))

/-- how results of a kind are borne: from the heap at the start -/
abbrev RR (α β : Type) := L2.St → Hp → Pl → S → Hp → α → β → Prop
class Back {α β : Type} (r : RR α β) : Prop where
  back : ∀ {σ H0 H1 m s H a b}, (∀ p, H1 p = none → H0 p = none) → r σ H1 m s H a b → r σ H0 m s H a b
abbrev rT (w : Wd) : RR T V := fun σ H0 m s H t v => RT w σ H0 m s H t v
abbrev rTs (w : Wd) : RR (List T) (List V) := fun σ H0 m s H t v => RTs w σ H0 m s H t v
abbrev rEq {α : Type} : RR α α := fun _ _ _ _ _ a b => a = b
/-- a truth -/
abbrev rBl : RR T Bool := fun _ _ _ _ _ t b => asBl t = some b
instance {w : Wd} : Back (rT w) := ⟨fun k h => RT.back k h⟩
instance {w : Wd} : Back (rTs w) := ⟨fun k h => RTs.back k h⟩
instance {α : Type} : Back (rEq : RR α α) := ⟨fun _ h => h⟩
instance : Back rBl := ⟨fun _ h => h⟩
/-- what is promised of an outcome; H0: the heap from which on results are new -/
def Pst {α β : Type} (w : Wd) (W : WX) (rr : RR α β) (H0 : Hp) (m : Pl) (s : S) (σ : L2.St) (H : Hp) (r : R α) (Q : β → Hp → Prop) : Prop := match r with
  | .ok a s' => ∀ m' H' b, Rel w m' s' σ H' → Ext m s σ H m' s' σ H' → rr σ H0 m' s' H' a b → Q b H'
  | .exc c fs s' => ∀ m' H' cls d, Rel w m' s' σ H' → Ext m s σ H m' s' σ H' → RX w m' H' c fs cls d → W cls d σ H'
  | .stuck => False
def tG {α β : Type} (w : Wd) (W : WX) (rr : RR α β) (f : S → R α) : L2.St → Hp → (β → Hp → Prop) → Prop := fun σ H Q => ∃ m s, Rel w m s σ H ∧ Pst w W rr H m s σ H (f s) Q
abbrev tE (w : Wd) (W : WX) (f : S → R T) : TE := tG w W (rT w) f
abbrev tA (w : Wd) (W : WX) (f : S → R (List T)) : TA := tG w W (rTs w) f
abbrev tO (w : Wd) (W : WX) (f : S → R (Option Int)) : TO := tG w W rEq f
/-- what is gone in H is gone in H0 -/
abbrev Gone (H0 H : Hp) : Prop := ∀ p, H p = none → H0 p = none
theorem Pst.mono {α β : Type} {w : Wd} {W : WX} {rr : RR α β} {H0 : Hp} {m : Pl} {s : S} {σ : L2.St} {H : Hp} {r : R α} {Q Q' : β → Hp → Prop} (h : Pst w W rr H0 m s σ H r Q) (k : ∀ b H', Q b H' → Q' b H') : Pst w W rr H0 m s σ H r Q' := by
  cases r with
  | ok a s' => exact fun m' H' b r e x => k _ _ (h m' H' b r e x)
  | exc c fs s' => exact h
  | stuck => exact h
/-- results new from a later heap on -/
theorem Pst.back {α β : Type} {w : Wd} {W : WX} {rr : RR α β} [Back rr] {H0 H1 : Hp} {m : Pl} {s : S} {σ : L2.St} {H : Hp} {r : R α} {Q : β → Hp → Prop} (h : Pst w W rr H0 m s σ H r Q) (g : Gone H0 H1) : Pst w W rr H1 m s σ H r Q := by
  cases r with
  | ok a s' => exact fun m' H' b r e x => h m' H' b r e (Back.back g x)
  | exc c fs s' => exact h
  | stuck => exact h
/-- from a later state -/
theorem Pst.at {α β : Type} {w : Wd} {W : WX} {rr : RR α β} {H0 : Hp} {m m1 : Pl} {s s1 : S} {σ : L2.St} {H H1 : Hp} {r : R α} {Q : β → Hp → Prop} (h : Pst w W rr H0 m s σ H r Q) (e1 : Ext m s σ H m1 s1 σ H1) : Pst w W rr H0 m1 s1 σ H1 r Q := by
  cases r with
  | ok a s' => exact fun m' H' b r e x => h m' H' b r (e1.trans e) x
  | exc c fs s' => exact fun m' H' cls d r e x => h m' H' cls d r (e1.trans e) x
  | stuck => exact h
theorem Pst.bind {α β α' β' : Type} {w : Wd} {W : WX} {rr : RR α β} {rr' : RR α' β'} {H0 : Hp} {m : Pl} {s : S} {σ : L2.St} {H : Hp} {r : R α} {k : α → S → R α'} {Q : β' → Hp → Prop} (h : Pst w W rr' H0 m s σ H (r.bind k) Q) :
    Pst w W rr H m s σ H r (fun b H1 => ∃ a s1 m1, r = .ok a s1 ∧ Rel w m1 s1 σ H1 ∧ Ext m s σ H m1 s1 σ H1 ∧ rr σ H m1 s1 H1 a b ∧ Pst w W rr' H0 m1 s1 σ H1 (k a s1) Q) := by
  cases r with
  | ok a s1 => exact fun m1 H1 b r1 e1 x1 => ⟨a, s1, m1, rfl, r1, e1, x1, Pst.at (show Pst w W rr' H0 m s σ H (k a s1) Q from h) e1⟩
  | exc c fs s' => exact h
  | stuck => exact h
/-- a plain end -/
theorem Pst.fin {α β : Type} {w : Wd} {W : WX} {rr : RR α β} {H0 : Hp} {m : Pl} {s : S} {σ : L2.St} {H : Hp} {a : α} {b : β} {Q : β → Hp → Prop} (h : Pst w W rr H0 m s σ H (.ok a s) Q) (r : Rel w m s σ H) (x : rr σ H0 m s H a b) : Q b H := h m H b r .refl x
end CE

namespace L2
open PySem PySem.Spec PyProof.Rows
theorem PE.imp {X : Cx} {e : Expr} {t t' : TE} (h : PE X e t) (k : ∀ σ H Q, t' σ H Q → t σ H Q) : PE X e t' := ⟨fun pins s σ H Q I q => h.run pins s σ H Q I (k σ H Q q)⟩
theorem PT.imp {X : Cx} {e : Expr} {t t' : TT} (h : PT X e t) (k : ∀ σ H Q, t' σ H Q → t σ H Q) : PT X e t' := ⟨fun pins s σ H Q I q => h.run pins s σ H Q I (k σ H Q q)⟩
theorem PW.imp {X : Cx} {e : Expr} {t t' : TT} (h : PW X e t) (k : ∀ σ H Q, t' σ H Q → t σ H Q) : PW X e t' := ⟨fun wh pins s σ H Q I q => h.run wh pins s σ H Q I (k σ H Q q)⟩
theorem PA.imp {X : Cx} {e : List Expr} {t t' : TA} (h : PA X e t) (k : ∀ σ H Q, t' σ H Q → t σ H Q) : PA X e t' := ⟨fun pos pins s σ H Q I q => h.run pos pins s σ H Q I (k σ H Q q)⟩
theorem PS.imp {X : Cx} {e : Stmt} {t t' : TS} (h : PS X e t) (k : ∀ D σ H, t' D σ H → t D σ H) : PS X e t' := ⟨fun pins s σ H D I q => h.run pins s σ H D I (k D σ H q)⟩
theorem PSs.imp {X : Cx} {e : List Stmt} {t t' : TS} (h : PSs X e t) (k : ∀ D σ H, t' D σ H → t D σ H) : PSs X e t' := ⟨fun pins s σ H D I q => h.run pins s σ H D I (k D σ H q)⟩
end L2
end CEd
section CEe
set_option maxRecDepth 100000
set_option maxHeartbeats 2000000
namespace CE
open PySem PySem.Spec PyProof.Rows L2
section
variable {w : Wd} {m : Pl} {s s' : S} {σ : L2.St} {H : Hp} {p : Addr} {o : HO}
theorem stb_new (hp : H p = none) : Stb m H m (upd H p o) :=
  ⟨fun _ _ h => h, fun q xs h => by rw [upd_ne (ne_of_none h hp)]; exact h, fun q a u h => by rw [upd_ne (ne_of_none h hp)]; exact h, fun q f h => by rw [upd_ne (ne_of_none h hp)]; exact h⟩
theorem RL.new {xs : List A} {q : Addr} (hp : H p = none) (h : RL w m H q xs) : RL w m (upd H p o) q xs := h.at (stb_new hp) fun _ e => by rw [upd_ne (ne_of_none e hp)]; exact e
theorem RD.new {xs : List (A × A)} {q : Addr} (hp : H p = none) (h : RD w m H q xs) : RD w m (upd H p o) q xs := h.at (stb_new hp) fun _ e => by rw [upd_ne (ne_of_none e hp)]; exact e
/-- a list, a dict that may be read, where it stands unchanged -/
theorem RB.at {m' : Pl} {H' : Hp} {q : Addr} {xs : List A} (h : RB w m H q xs) (b : Stb m H m' H') (k : ∀ o, H q = some o → H' q = some o) : RB w m' H' q xs := by
  obtain ⟨vs, a, c, d⟩ := h
  refine ⟨vs, ?_, c, d.stb b⟩
  rcases a with a | ⟨o, a⟩
  · exact .inl (k _ a)
  · exact .inr ⟨o, k _ a⟩
theorem RDb.at {m' : Pl} {H' : Hp} {q : Addr} {xs : List (A × A)} (h : RDb w m H q xs) (b : Stb m H m' H') (k : ∀ o, H q = some o → H' q = some o) : RDb w m' H' q xs := by
  obtain ⟨vs, a, d⟩ := h
  refine ⟨vs, ?_, d.stb b⟩
  rcases a with a | ⟨o, a⟩
  · exact .inl (k _ a)
  · exact .inr ⟨o, k _ a⟩
/-- a slot's content where its object stands unchanged -/
theorem RSl.at {m' : Pl} {H' : Hp} {c : C} {v : V} (h : RSl w m H c v) (b : Stb m H m' H') (k : ∀ q, v = .ref q → (c.own = true ∨ c.bor = true) → ∀ o, H q = some o → H' q = some o) : RSl w m' H' c v := by
  cases c with
  | v a => exact RA.stb b h
  | x c fs => trivial
  | l o xs => cases o with
    | true => obtain ⟨q, e, z⟩ := h; exact ⟨q, e, z.at b (k q e (.inl rfl))⟩
    | false => obtain ⟨q, e, z⟩ := h; exact ⟨q, e, z.at b (k q e (.inr rfl))⟩
  | d o xs => cases o with
    | true => obtain ⟨q, e, z⟩ := h; exact ⟨q, e, z.at b (k q e (.inl rfl))⟩
    | false => obtain ⟨q, e, z⟩ := h; exact ⟨q, e, z.at b (k q e (.inr rfl))⟩
theorem RO.at {m' : Pl} {H' : Hp} {q : Addr} {x : O} (h : RO w m H q x) (b : Stb m H m' H') (k : ∀ o, H q = some o → H' q = some o) : RO w m' H' q x := by
  cases x with
  | lst xs => exact RL.at h b k
  | dct xs => exact RD.at h b k
  | ins c fs => obtain ⟨Ca, dx, fs', e, z, f⟩ := h; exact ⟨Ca, dx, fs', e, k _ z, f.stb b⟩
theorem Rel.new (r : Rel w m s σ H) (hp : H p = none) : Rel w m s σ (upd H p o) where
  len := r.len
  slot := fun i c h => by
    obtain ⟨v, e, z⟩ := r.slot i c h
    exact ⟨v, e, z.at (stb_new hp) fun q _ _ u e => by rw [upd_ne (ne_of_none e hp)]; exact e⟩
  st := fun l x h => by
    obtain ⟨q, e, z⟩ := r.st l x h
    exact ⟨q, e, z.at (stb_new hp) fun u e => by rw [upd_ne (ne_of_none e hp)]; exact e⟩
  dom := r.dom
  inj := r.inj
  ap1 := r.ap1
  ap2 := r.ap2
  ap3 := r.ap3
theorem Ext.newO (hp : H p = none) : Ext m s σ H m s σ (upd H p o) where
  mono := fun _ _ h => h
  newM := fun l _ h => .inl ⟨l, h⟩
  newS := fun _ _ h => .inl h
  bor := fun i q h => .inl h
  frame := fun q u e _ => by rw [upd_ne (ne_of_none e hp)]; exact e
  keep := fun q e => by
    by_cases h : q = p
    · subst h; rw [upd_same]; simp
    · rw [upd_ne h]; exact e
/-- a temporary is not touched by what is new -/
theorem tmp_new (r : Rel w m s σ H) (hp : H p = none) : Tmp H m s σ p := by
  refine ⟨hp, fun z => ?_, fun i ⟨h, c, hc, hb⟩ => ?_⟩
  · have q := r.mob z
    rw [hp] at q
    exact q
  · obtain ⟨v, e, q⟩ := r.slot i c hc
    rw [h] at e; cases e
    cases c with
    | v a => cases hb
    | x c fs => cases hb
    | l o xs => cases o with
      | true => cases hb
      | false =>
        obtain ⟨p', e, vs, a, _, _⟩ := q
        cases e
        rcases a with a | ⟨o, a⟩
        · rw [hp] at a; cases a
        · rw [hp] at a; cases a
    | d o xs => cases o with
      | true => cases hb
      | false =>
        obtain ⟨p', e, vs, a, _⟩ := q
        cases e
        rcases a with a | ⟨o, a⟩
        · rw [hp] at a; cases a
        · rw [hp] at a; cases a
/-- a new object as a result -/
theorem Pst.new {W : WX} {H0 : Hp} {t : T} {v : V} {Q : VK} (h : Pst w W (rT w) H0 m s σ H (.ok t s) Q) (r : Rel w m s σ H) (g : Gone H0 H) (hp : H p = none) (x : RT w σ H m s (upd H p o) t v) : Q v (upd H p o) := h m _ v (r.new hp) (Ext.newO hp) (x.back g)
/-- the list of a result -/
theorem lst_of {H0 : Hp} {t : T} {v : V} {xs : List A} (r : Rel w m s σ H) (x : RT w σ H0 m s H t v) (e : lstOf s t = some xs) : ∃ q vs, v = .ref q ∧ SqL w.K H q vs ∧ xs.length ≤ Lim ∧ RAs w m H xs vs := by
  cases t with
  | tl ys => obtain ⟨q, rfl, ⟨vs, a, b, c⟩, _⟩ := x; cases e; exact ⟨q, vs, rfl, .of a, b, c⟩
  | td ys => cases e
  | sl i =>
    have e : (match s.slot i with
      | some (.l _ xs) => some xs
      | _ => none) = some xs := e
    cases hc : s.slot i with
    | none => rw [hc] at e; cases e
    | some c =>
      rw [hc] at e
      obtain ⟨u, e2, z⟩ := r.slot i c hc
      have x2 : σ[i]? = some (some v) := x
      rw [x2] at e2; cases e2
      cases c with
      | l o ys =>
        cases e
        cases o with
        | true => obtain ⟨q, rfl, vs, a, b, c⟩ := z; exact ⟨q, vs, rfl, .of a, b, c⟩
        | false =>
          obtain ⟨q, rfl, vs, a, b, c⟩ := z
          exact ⟨q, vs, rfl, .inl a, b, c⟩
      | _ => cases e
  | v a =>
    cases a with
    | lst ys => cases e; cases x with | lst h1 h2 h3 => exact ⟨_, _, rfl, h1.sql, h2, h3⟩
    | ref l =>
      have e : (match s.st[l]? with
        | some (.lst xs) => some xs
        | _ => none) = some xs := e
      cases hc : s.st[l]? with
      | none => rw [hc] at e; cases e
      | some c =>
        rw [hc] at e
        cases c with
        | lst ys =>
          cases e
          obtain ⟨q, e2, vs, a, b, c⟩ := r.st l _ hc
          cases x with | ref h => rw [h] at e2; cases e2; exact ⟨_, vs, rfl, .of a, b, c⟩
        | _ => cases e
    | _ => cases e
theorem tup_of {H0 : Hp} {t : T} {v : V} {xs : List A} (x : RT w σ H0 m s H t v) (e : tupOf t = some xs) : ∃ q vs, v = .ref q ∧ SqT w.K H q vs ∧ xs.length ≤ Lim ∧ RAs w m H xs vs := by
  cases t with
  | v a =>
    cases a with
    | tup ys => cases e; cases x with | tup h1 h2 h3 => exact ⟨_, _, rfl, h1, h2, h3⟩
    | _ => cases e
  | _ => cases e
theorem seq_of {H0 : Hp} {t : T} {v : V} {xs : List A} (r : Rel w m s σ H) (x : RT w σ H0 m s H t v) (e : seqOf s t = some xs) : ∃ q vs, v = .ref q ∧ (SqL w.K H q vs ∨ SqT w.K H q vs) ∧ xs.length ≤ Lim ∧ RAs w m H xs vs := by
  unfold seqOf at e
  cases h : tupOf t with
  | some ys =>
    rw [h] at e; cases e
    obtain ⟨q, vs, a, b, c⟩ := tup_of x h
    exact ⟨q, vs, a, .inr b, c⟩
  | none =>
    rw [h] at e
    obtain ⟨q, vs, a, b, c⟩ := lst_of r x e
    exact ⟨q, vs, a, .inl b, c⟩
theorem int_of {H0 : Hp} {t : T} {v : V} {i : Int} (x : RT w σ H0 m s H t v) (e : asInt t = some i) : v = .int i := by
  cases t with
  | v a => cases a with
    | int j => cases e; cases x; rfl
    | _ => cases e
  | _ => cases e
theorem str_of {H0 : Hp} {t : T} {v : V} {i : Str} (x : RT w σ H0 m s H t v) (e : asStr t = some i) : v = .str i ∧ PyData.strOk i = true ∧ i.length ≤ Lim := by
  cases t with
  | v a => cases a with
    | str j => cases e; cases x with | str _ h1 h2 => exact ⟨rfl, h1, h2⟩
    | _ => cases e
  | _ => cases e
theorem bl_of {H0 : Hp} {t : T} {v : V} {i : Bool} (x : RT w σ H0 m s H t v) (e : asBl t = some i) : v = .bl i := by
  cases t with
  | v a => cases a with
    | bl j => cases e; cases x; rfl
    | _ => cases e
  | _ => cases e
theorem a_of {H0 : Hp} {t : T} {v : V} {a : A} (x : RT w σ H0 m s H t v) (e : asA t = some a) : RA w m H a v := by
  cases t with
  | v b => cases e; exact x
  | _ => cases e
theorem dct_of {H0 : Hp} {t : T} {v : V} {xs : List (A × A)} (r : Rel w m s σ H) (x : RT w σ H0 m s H t v) (e : dctOf s t = some xs) : ∃ q vs, v = .ref q ∧ Rd H q (.dK vs) ∧ RKVs w m H xs vs := by
  cases t with
  | td ys => obtain ⟨q, rfl, ⟨vs, a, b⟩, _⟩ := x; cases e; exact ⟨q, vs, rfl, .of a, b⟩
  | tl ys => cases e
  | sl i =>
    have e : (match s.slot i with
      | some (.d _ kvs) => some kvs
      | _ => none) = some xs := e
    cases hc : s.slot i with
    | none => rw [hc] at e; cases e
    | some c =>
      rw [hc] at e
      obtain ⟨u, e2, z⟩ := r.slot i c hc
      have x2 : σ[i]? = some (some v) := x
      rw [x2] at e2; cases e2
      cases c with
      | d o ys =>
        cases e
        cases o with
        | true => obtain ⟨q, rfl, vs, a, b⟩ := z; exact ⟨q, vs, rfl, .of a, b⟩
        | false => obtain ⟨q, rfl, vs, a, b⟩ := z; exact ⟨q, vs, rfl, a, b⟩
      | _ => cases e
  | v a =>
    cases a with
    | ref l =>
      have e : (match s.st[l]? with
        | some (.dct kvs) => some kvs
        | _ => none) = some xs := e
      cases hc : s.st[l]? with
      | none => rw [hc] at e; cases e
      | some c =>
        rw [hc] at e
        cases c with
        | dct ys =>
          cases e
          obtain ⟨q, e2, vs, a, b⟩ := r.st l _ hc
          cases x with | ref h => rw [h] at e2; cases e2; exact ⟨_, vs, rfl, .of a, b⟩
        | _ => cases e
    | _ => cases e
end
end CE
end CEe
section CEf
set_option maxRecDepth 100000
set_option maxHeartbeats 2000000
namespace L2
open PySem PySem.Spec PyProof.Rows
/-- list + list, any that may be read -/
def rCatL (K : PySem.W.Frag) : R2 := fun x y H Q => ∃ l b xs zs, x = .ref l ∧ y = .ref b ∧ SqL K H l xs ∧ SqL K H b zs ∧ xs.length + zs.length ≤ sizeLine ∧ ∀ p, H p = none → Q (.ref p) (upd H p (.lst (xs ++ zs)))
theorem op_catL {X : Cx} : OpR X (binaryOp .Add) (rCatL X.K) := by
  intro pins s σ H x y v u Q I rx ry h
  obtain ⟨l, b, xs, zs, rfl, rfl, hH, hB, hz, q⟩ := h
  cases rx
  cases ry
  obtain ⟨its, r, hl, _⟩ := I.list hH
  obtain ⟨its2, r2, hl2, _⟩ := I.list hB
  obtain ⟨⟨cls, dd, data, sl⟩, ho, hc, n, hd⟩ := hl.isList
  obtain ⟨⟨cls2, dd2, data2, sl2⟩, ho2, hc2, n2, hd2⟩ := hl2.isList
  simp only at hc hd hc2 hd2
  subst hc hd hc2 hd2
  have e : its.toArray ++ its2.toArray = (its ++ its2).toArray := by simp
  refine concat_meets ⟨_, ho, rfl⟩ ⟨_, ho2, rfl⟩ noFill_list_add seq_list_add PySem.F.slot_list_add PySem.F.entry_list_add (PySem.F.args_list_add_2 _ _) (list_addW l b its.toArray its2.toArray n n2 dd dd2 sl sl2 (by rw [List.size_toArray, List.size_toArray, ← r.length, ← r2.length]; exact hz)) ⟨ho, ho2, ?_⟩
  rw [e]
  exact ⟨.ref _, _, I.lnew (t' := s.toks) (r.append r2) (by rw [List.length_append]; omega), rfl, q _ I.fresh⟩
end L2
namespace CE
open PySem PySem.Spec PyProof.Rows L2
theorem lim_eq : sizeLine = Lim := sizeLine_eq
/-- an operation of the evaluator on values -/
def rOpG (w : Wd) (f : T → T → S → R T) : R2 := fun x y H Q => ∃ (W : WX) (σ : L2.St) (H0 H1 G : Hp) (m : Pl) (s : S) (t u : T), Rel w m s σ H ∧ Gone G H ∧ RT w σ H0 m s H t x ∧ RT w σ H1 m s H u y ∧ Pst w W (rT w) G m s σ H (f t u s) Q
theorem strOk_app {a b : Str} (h : PyData.strOk a = true) (k : PyData.strOk b = true) : PyData.strOk (a ++ b) = true := by
  show (a.cps ++ b.cps).all (· < 0x110000) = true
  rw [Array.all_append, Bool.and_eq_true]
  exact ⟨h, k⟩
theorem str_app_len (a b : Str) : (a ++ b).length = a.length + b.length := by
  show (a.cps ++ b.cps).size = _
  rw [Array.size_append]
  rfl
section
variable {X : Cx} {w : Wd}
theorem or_add (hw : w.K = X.K) : OpR X (binaryOp .Add) (rOpG w (opBin .add)) := by
  intro pins s' σ' H x y v u Q I rx ry ⟨W, σ, H0, H1, G, m, s, t, t2, r, g, xt, xu, h⟩
  unfold opBin at h
  split at h
  · rename_i i j hi hj
    rw [int_of xt hi] at rx
    rw [int_of xu hj] at ry
    exact op_add pins s' σ' H _ _ v u Q I rx ry ⟨i, j, rfl, rfl, h.fin r (.int _)⟩
  · dsimp only at h
    split at h
    · rename_i a b ha hb
      obtain ⟨e1, o1, l1⟩ := str_of xt ha
      obtain ⟨e2, o2, l2⟩ := str_of xu hb
      rw [e1] at rx
      rw [e2] at ry
      split at h
      · rename_i hl
        exact op_add_str pins s' σ' H _ _ v u Q I rx ry ⟨a, b, rfl, rfl, by rw [lim_eq]; exact hl, h.fin r (.str _ (strOk_app o1 o2) (by rw [str_app_len]; exact hl))⟩
      · exact h.elim
    · split at h
      · rename_i a b ha hb
        obtain ⟨p, vs, e1, q1, l1, z1⟩ := tup_of xt ha
        obtain ⟨p2, us, e2, q2, l2, z2⟩ := tup_of xu hb
        rw [e1] at rx
        rw [e2] at ry
        split at h
        · rename_i hl
          have zl : (a ++ b).length ≤ Lim := by rw [List.length_append]; exact hl
          refine op_catA pins s' σ' H _ _ v u Q I rx ry ⟨p, p2, vs, us, rfl, rfl, hw ▸ q1, hw ▸ q2, by rw [lim_eq, ← z1.len, ← z2.len]; exact hl, fun e => ?_, fun _ e => ?_, fun n1 n2 p hp => ?_⟩
          · refine h.fin r (.tup q2 zl ?_)
            subst e
            cases z1
            exact z2
          · refine h.fin r (.tup q1 zl ?_)
            subst e
            cases z2
            rw [List.append_nil]
            exact z1
          · exact h.new r g hp (.tup (SqT.of upd_same) zl (RAs.stb (stb_new hp) (z1.app z2)))
        · exact h.elim
      · split at h
        · rename_i a b ha hb
          obtain ⟨p, vs, e1, q1, l1, z1⟩ := lst_of r xt ha
          obtain ⟨p2, us, e2, q2, l2, z2⟩ := lst_of r xu hb
          rw [e1] at rx
          rw [e2] at ry
          split at h
          · rename_i hl
            refine op_catL pins s' σ' H _ _ v u Q I rx ry ⟨p, p2, vs, us, rfl, rfl, hw ▸ q1, hw ▸ q2, by rw [lim_eq, ← z1.len, ← z2.len]; exact hl, fun p hp => ?_⟩
            exact h.new r g hp ⟨p, rfl, ⟨_, upd_same, by rw [List.length_append]; exact hl, RAs.stb (stb_new hp) (z1.app z2)⟩, tmp_new r hp⟩
          · exact h.elim
        · exact h.elim
theorem or_sub : OpR X (binaryOp .Sub) (rOpG w (opBin .sub)) := by
  intro pins s' σ' H x y v u Q I rx ry ⟨W, σ, H0, H1, G, m, s, t, t2, r, g, xt, xu, h⟩
  unfold opBin at h
  split at h
  · rename_i i j hi hj
    rw [int_of xt hi] at rx
    rw [int_of xu hj] at ry
    exact op_sub pins s' σ' H _ _ v u Q I rx ry ⟨i, j, rfl, rfl, h.fin r (.int _)⟩
  · exact h.elim
theorem or_mod : OpR X (binaryOp .Mod) (rOpG w (opBin .mod)) := by
  intro pins s' σ' H x y v u Q I rx ry ⟨W, σ, H0, H1, G, m, s, t, t2, r, g, xt, xu, h⟩
  unfold opBin at h
  split at h
  · rename_i i j hi hj
    rw [int_of xt hi] at rx
    rw [int_of xu hj] at ry
    dsimp only at h
    split at h
    · rename_i hj0
      exact op_modN pins s' σ' H _ _ v u Q I rx ry ⟨i, j, rfl, rfl, hj0, h.fin r (.int _)⟩
    · exact h.elim
  · exact h.elim
theorem or_fdiv : OpR X (binaryOp .FloorDiv) (rOpG w (opBin .fdiv)) := by
  intro pins s' σ' H x y v u Q I rx ry ⟨W, σ, H0, H1, G, m, s, t, t2, r, g, xt, xu, h⟩
  unfold opBin at h
  split at h
  · rename_i i j hi hj
    rw [int_of xt hi] at rx
    rw [int_of xu hj] at ry
    dsimp only at h
    split at h
    · rename_i hj0
      rw [Bool.and_eq_true] at hj0
      exact op_fdivN pins s' σ' H _ _ v u Q I rx ry ⟨i, j, rfl, rfl, ⟨of_decide_eq_true hj0.1, of_decide_eq_true hj0.2⟩, h.fin r (.int _)⟩
    · exact h.elim
  · exact h.elim
theorem or_pow : OpR X (binaryOp .Pow) (rOpG w (opBin .pow)) := by
  intro pins s' σ' H x y v u Q I rx ry ⟨W, σ, H0, H1, G, m, s, t, t2, r, g, xt, xu, h⟩
  unfold opBin at h
  split at h
  · rename_i i j hi hj
    rw [int_of xt hi] at rx
    rw [int_of xu hj] at ry
    dsimp only at h
    split at h
    · rename_i hj0
      rw [Bool.and_eq_true, Bool.and_eq_true] at hj0
      exact op_pow pins s' σ' H _ _ v u Q I rx ry ⟨i, j, rfl, rfl, ⟨of_decide_eq_true hj0.1, of_decide_eq_true hj0.2.1, of_decide_eq_true hj0.2.2⟩, h.fin r (.int _)⟩
    · exact h.elim
  · exact h.elim
theorem flat_rep_len {α : Type} (a : List α) (n : Nat) : (List.replicate n a).flatten.length = a.length * n := by
  induction n with
  | zero => simp
  | succ n ih => rw [List.replicate_succ, List.flatten_cons, List.length_append, ih, Nat.mul_succ, Nat.add_comm]
theorem RAs.rep {m : Pl} {H : Hp} {as : List A} {vs : List V} (h : RAs w m H as vs) : ∀ n : Nat, RAs w m H (List.replicate n as).flatten (List.replicate n vs).flatten
  | 0 => .nil
  | n + 1 => by rw [List.replicate_succ, List.replicate_succ, List.flatten_cons, List.flatten_cons]; exact h.app (RAs.rep h n)
theorem or_mul (hw : w.K = X.K) : OpR X (binaryOp .Mult) (rOpG w (opBin .mul)) := by
  intro pins s' σ' H x y v u Q I rx ry ⟨W, σ, H0, H1, G, m, s, t, t2, r, g, xt, xu, h⟩
  unfold opBin at h
  split at h
  · rename_i i j hi hj
    rw [int_of xt hi] at rx
    rw [int_of xu hj] at ry
    dsimp only at h
    split at h
    · rename_i hm
      refine op_mul pins s' σ' H _ _ v u Q I rx ry ⟨i, j, rfl, rfl, ?_, h.fin r (.int _)⟩
      unfold mulOk at hm
      rw [Bool.or_eq_true, Bool.and_eq_true, Bool.and_eq_true] at hm
      rcases hm with ⟨h1, h2⟩ | ⟨h1, h2⟩
      · exact .inl ⟨of_decide_eq_true h1, of_decide_eq_true h2⟩
      · exact .inr ⟨of_decide_eq_true h1, of_decide_eq_true h2⟩
    · exact h.elim
  · dsimp only at h
    split at h
    · rename_i k hk
      rw [int_of xu hk] at ry
      split at h
      · rename_i a _
        split at h
        · rename_i hc
          rw [Bool.and_eq_true, Bool.and_eq_true, Bool.and_eq_true] at hc
          obtain ⟨⟨c1, c2⟩, c3, c4⟩ := hc
          have c2 := of_decide_eq_true c2
          have c3 := of_decide_eq_true c3
          have c4 := of_decide_eq_true c4
          obtain ⟨p, vs, e1, q1, l1, z1⟩ := tup_of xt (show tupOf (.v (.tup a)) = some a from rfl)
          rw [e1] at rx
          refine op_repT pins s' σ' H _ _ v u Q I rx ry ⟨p, k, vs, rfl, rfl, hw ▸ q1, fun e => ?_, c3, c4, by rw [← z1.len]; exact c2, fun p hp => ?_⟩
          · subst e
            cases z1
            cases c1
          · refine h.new r g hp (.tup (SqT.of upd_same) ?_ (RAs.stb (stb_new hp) (z1.rep _)))
            rw [flat_rep_len]
            have h1 : k.toNat ≤ 1000 := by omega
            exact Nat.le_trans (Nat.mul_le_mul c2 h1) (by decide)
        · exact h.elim
      · rename_i a _
        split at h
        · rename_i hc
          rw [Bool.and_eq_true, Bool.and_eq_true] at hc
          obtain ⟨⟨c1, c2⟩, c3⟩ := hc
          have c1 := of_decide_eq_true c1
          have c2 := of_decide_eq_true c2
          have c3 := of_decide_eq_true c3
          obtain ⟨p, e1, ⟨vs, q1, l1, z1⟩, _⟩ := xt
          rw [e1] at rx
          refine op_rep pins s' σ' H _ _ v u Q I rx ry ⟨p, k, vs, rfl, rfl, q1, by omega, by omega, by rw [lim_eq, ← z1.len]; exact c3, fun p hp => ?_⟩
          exact h.new r g hp ⟨p, rfl, ⟨_, upd_same, by rw [flat_rep_len]; exact c3, RAs.stb (stb_new hp) (z1.rep _)⟩, tmp_new r hp⟩
        · exact h.elim
      · exact h.elim
    · exact h.elim
mutual
theorem dp_of {m : Pl} {H : Hp} : ∀ {a : A} {v : V} {d : PyData}, RA w m H a v → toD a = some d → Dp w.K H v d ∧ d.canLay0 = true
  | .non, _, _, h, e => by cases h; cases e; exact ⟨.non, by simp [PyData.canLay0]⟩
  | .bl _, _, _, h, e => by cases h; cases e; exact ⟨.bl _, by simp [PyData.canLay0]⟩
  | .int _, _, _, h, e => by cases h; cases e; exact ⟨.int _, by simp [PyData.canLay0]⟩
  | .str _, _, _, h, e => by cases h with | str _ h1 h2 => cases e; exact ⟨.str _, by simp only [PyData.canLay0]; exact h1⟩
  | .tup xs, _, _, h, e => by
    cases h with
    | tup h1 h2 h3 =>
      rw [toD] at e
      obtain ⟨ds, e1, e2⟩ := Option.map_eq_some_iff.mp e
      subst e2
      obtain ⟨q1, q2⟩ := dp_ofs h3 e1
      exact ⟨.tup h1 q1, by simp only [PyData.canLay0]; exact q2⟩
  | .lst xs, _, _, h, e => by
    cases h with
    | lst h1 h2 h3 =>
      rw [toD] at e
      obtain ⟨ds, e1, e2⟩ := Option.map_eq_some_iff.mp e
      subst e2
      obtain ⟨q1, q2⟩ := dp_ofs h3 e1
      exact ⟨.lst h1.sql q1, by simp only [PyData.canLay0]; exact q2⟩
  | .ref _, _, _, _, e => by cases e
  | .ty _, _, _, _, e => by cases e
  | .glo _, _, _, _, e => by cases e
theorem dp_ofs {m : Pl} {H : Hp} : ∀ {a : List A} {v : List V} {d : List PyData}, RAs w m H a v → toDs a = some d → DpAll w.K H v d ∧ PyData.canLayAll0 d = true
  | [], _, _, h, e => by cases h; cases e; exact ⟨.nil, by simp [PyData.canLayAll0]⟩
  | x :: xs, _, _, h, e => by
    cases h with
    | cons h1 h2 =>
      rw [toDs] at e
      split at e
      · rename_i d ds e1 e2
        cases e
        obtain ⟨a1, a2⟩ := dp_of h1 e1
        obtain ⟨b1, b2⟩ := dp_ofs h2 e2
        exact ⟨.cons a1 b1, by simp only [PyData.canLayAll0, a2, b2, Bool.and_self]⟩
      · cases e
end
theorem dpT_of {H0 H : Hp} {m : Pl} {s : S} {σ : L2.St} {t : T} {v : V} {d : PyData} (r : Rel w m s σ H) (x : RT w σ H0 m s H t v) (e : datT s t = some d) : Dp w.K H v d ∧ d.canLay0 = true := by
  unfold datT at e
  split at e
  · rename_i xs hx
    obtain ⟨p, vs, rfl, q1, l1, z1⟩ := lst_of r x hx
    obtain ⟨ds, e1, e2⟩ := Option.map_eq_some_iff.mp e
    subst e2
    obtain ⟨a, b⟩ := dp_ofs z1 e1
    exact ⟨.lst q1 a, by simp only [PyData.canLay0]; exact b⟩
  · split at e
    · exact dp_of x e
    · cases e
def rCmpG (w : Wd) (o : CmpO) : R2 := fun x y H Q => ∃ (σ : L2.St) (H0 H1 : Hp) (m : Pl) (s : S) (t u : T) (b : Bool), Rel w m s σ H ∧ RT w σ H0 m s H t x ∧ RT w σ H1 m s H u y ∧ opCmp o t u s = some b ∧ Q (.bl b) H
theorem shallow_room {d e : PyData} {n : Nat} (h : shallow d e = true) (hu : n + 160 < cLine) : n + min d.depth e.depth < cLine := by
  unfold shallow at h
  rw [Bool.or_eq_true] at h
  rcases h with h | h
  · have h1 := of_decide_eq_true h
    have h2 := Nat.min_le_left d.depth e.depth
    omega
  · have h1 := of_decide_eq_true h
    have h2 := Nat.min_le_right d.depth e.depth
    omega
theorem or_eq (hw : w.K = X.K) (hu : X.A.units + 160 < cLine) : OpR X (compareOp .Eq) (rCmpG w .eq) := by
  intro pins s' σ' H x y v u Q I rx ry ⟨σ, H0, H1, m, s, t, t2, b, r, xt, xu, e, q⟩
  have e : eqT s t t2 = some b := e
  unfold eqT at e
  split at e
  · rename_i d1 d2 e1 e2
    split at e
    · rename_i hs
      cases e
      obtain ⟨p1, c1⟩ := dpT_of r xt e1
      obtain ⟨p2, c2⟩ := dpT_of r xu e2
      obtain ⟨as, r1⟩ := Dp.reads I d1 x v (hw ▸ p1) rx
      obtain ⟨bs, r2⟩ := Dp.reads I d2 y u (hw ▸ p2) ry
      exact SeqAt.compareEq_reads r1 r2 c1 c2 (shallow_room hs hu) ⟨.bl _, H, I, rfl, q⟩
    · cases e
  · cases e
theorem or_ne (hw : w.K = X.K) (hu : X.A.units + 160 < cLine) : OpR X (compareOp .NotEq) (rCmpG w .ne) := by
  intro pins s' σ' H x y v u Q I rx ry ⟨σ, H0, H1, m, s, t, t2, b, r, xt, xu, e, q⟩
  have e : (eqT s t t2).map (!·) = some b := e
  unfold eqT at e
  split at e
  · rename_i d1 d2 e1 e2
    split at e
    · rename_i hs
      cases e
      obtain ⟨p1, c1⟩ := dpT_of r xt e1
      obtain ⟨p2, c2⟩ := dpT_of r xu e2
      obtain ⟨as, r1⟩ := Dp.reads I d1 x v (hw ▸ p1) rx
      obtain ⟨bs, r2⟩ := Dp.reads I d2 y u (hw ▸ p2) ry
      exact SeqAt.compareNe_reads r1 r2 c1 c2 (shallow_room hs hu) ⟨.bl _, H, I, rfl, q⟩
    · cases e
  · cases e
theorem or_lt : OpR X (compareOp .Lt) (rCmpG w .lt) := by
  intro pins s' σ' H x y v u Q I rx ry ⟨σ, H0, H1, m, s, t, t2, b, r, xt, xu, e, q⟩
  unfold opCmp at e
  dsimp only at e
  split at e
  · rename_i i j hi hj
    cases e
    rw [int_of xt hi] at rx
    rw [int_of xu hj] at ry
    exact op_lt pins s' σ' H _ _ v u Q I rx ry ⟨i, j, rfl, rfl, q⟩
  · cases e
theorem or_le : OpR X (compareOp .LtE) (rCmpG w .le) := by
  intro pins s' σ' H x y v u Q I rx ry ⟨σ, H0, H1, m, s, t, t2, b, r, xt, xu, e, q⟩
  unfold opCmp at e
  dsimp only at e
  split at e
  · rename_i i j hi hj
    cases e
    rw [int_of xt hi] at rx
    rw [int_of xu hj] at ry
    exact op_le pins s' σ' H _ _ v u Q I rx ry ⟨i, j, rfl, rfl, q⟩
  · cases e
theorem or_gt : OpR X (compareOp .Gt) (rCmpG w .gt) := by
  intro pins s' σ' H x y v u Q I rx ry ⟨σ, H0, H1, m, s, t, t2, b, r, xt, xu, e, q⟩
  unfold opCmp at e
  dsimp only at e
  split at e
  · rename_i i j hi hj
    cases e
    rw [int_of xt hi] at rx
    rw [int_of xu hj] at ry
    exact op_gt pins s' σ' H _ _ v u Q I rx ry ⟨i, j, rfl, rfl, q⟩
  · cases e
theorem or_ge : OpR X (compareOp .GtE) (rCmpG w .ge) := by
  intro pins s' σ' H x y v u Q I rx ry ⟨σ, H0, H1, m, s, t, t2, b, r, xt, xu, e, q⟩
  unfold opCmp at e
  dsimp only at e
  split at e
  · rename_i i j hi hj
    cases e
    rw [int_of xt hi] at rx
    rw [int_of xu hj] at ry
    exact op_ge pins s' σ' H _ _ v u Q I rx ry ⟨i, j, rfl, rfl, q⟩
  · cases e
theorem non_of {H0 H : Hp} {m : Pl} {s : S} {σ : L2.St} {t : T} {v : V} {b : Bool} (r : Rel w m s σ H) (x : RT w σ H0 m s H t v) (e : isNon t = some b) : decide (v = .non) = b := by
  cases t with
  | v a => cases a with
    | non => cases e; cases x; rfl
    | glo z => cases e
    | bl z => cases e; cases x; rfl
    | int z => cases e; cases x; exact decide_eq_false (fun z => nomatch z)
    | str z => cases e; cases x; exact decide_eq_false (fun z => nomatch z)
    | tup z => cases e; cases x; exact decide_eq_false (fun z => nomatch z)
    | lst z => cases e; cases x; exact decide_eq_false (fun z => nomatch z)
    | ref z => cases e; cases x; exact decide_eq_false (fun z => nomatch z)
    | ty z => cases e; cases x; exact decide_eq_false (fun z => nomatch z)
    | exv c ns xs => cases e; cases x <;> exact decide_eq_false (fun z => nomatch z)
  | tl a => cases e; obtain ⟨p, rfl, _⟩ := x; exact decide_eq_false (fun z => nomatch z)
  | td a => cases e; obtain ⟨p, rfl, _⟩ := x; exact decide_eq_false (fun z => nomatch z)
  | sl i => cases e
theorem or_is : OpR X (compareOp .Is) (rCmpG w .is) := by
  intro pins s' σ' H x y v u Q I rx ry ⟨σ, H0, H1, m, s, t, t2, b, r, xt, xu, e, q⟩
  unfold opCmp at e
  dsimp only at e
  split at e
  · cases xu
    exact op_isN pins s' σ' H _ _ v u Q I rx ry ⟨rfl, by rw [non_of r xt e]; exact q⟩
  · cases e
theorem or_isn : OpR X (compareOp .IsNot) (rCmpG w .isn) := by
  intro pins s' σ' H x y v u Q I rx ry ⟨σ, H0, H1, m, s, t, t2, b, r, xt, xu, e, q⟩
  unfold opCmp at e
  dsimp only at e
  split at e
  · cases xu
    obtain ⟨c, e1, e2⟩ := Option.map_eq_some_iff.mp e
    subst e2
    exact op_notN pins s' σ' H _ _ v u Q I rx ry ⟨rfl, by rw [non_of r xt e1]; exact q⟩
  · cases e
theorem key_of {m : Pl} {H : Hp} {k : A} {v : V} (h : RA w m H k v) (e : isKeyA k = true) : ∃ q, RKey k q ∧ v = kV q := by
  cases k with
  | int i => cases h; exact ⟨.inl i, .int i, rfl⟩
  | str x => cases h with | str _ h1 h2 => exact ⟨.inr x, .str x h1 h2, rfl⟩
  | _ => cases e
theorem RKey.eq_iff {a b : A} {p q : Key} (h : RKey a p) (k : RKey b q) : (a = b) ↔ (p = q) := by
  cases h <;> cases k <;> simp
def RAo (w : Wd) (m : Pl) (H : Hp) : Option A → Option V → Prop
  | some a, some v => RA w m H a v
  | none, none => True
  | _, _ => False
theorem look_of {m : Pl} {H : Hp} {k : A} {q : Key} (hk : RKey k q) : ∀ {kvs : List (A × A)} {vs : List (Key × V)}, RKVs w m H kvs vs → RAo w m H (lookA kvs k) (valV vs q)
  | _, _, .nil => trivial
  | (k', a) :: as, (q', v) :: vs, .cons h0 h1 h2 => by
    by_cases e : q' = q
    · have e2 : k' = k := (h0.eq_iff hk).mpr e
      have x1 : lookA ((k', a) :: as) k = some a := by simp [lookA, List.find?_cons, e2]
      rw [x1, valV_pos (p := (q', v)) e]
      exact h1
    · have e2 : ¬ k' = k := fun z => e ((h0.eq_iff hk).mp z)
      have x1 : lookA ((k', a) :: as) k = lookA as k := by simp [lookA, List.find?_cons, e2]
      rw [x1, valV_neg (p := (q', v)) e]
      exact look_of hk h2
theorem RAo.some {m : Pl} {H : Hp} {o : Option V} {a : A} (h : RAo w m H (some a) o) : ∃ v, o = Option.some v ∧ RA w m H a v := by
  cases o with
  | none => exact h.elim
  | some v => exact ⟨v, rfl, h⟩
theorem RAo.isSome {m : Pl} {H : Hp} {o : Option V} {a : Option A} (h : RAo w m H a o) : a.isSome = o.isSome := by
  cases a <;> cases o
  · rfl
  · exact h.elim
  · exact h.elim
  · rfl
theorem or_in (hw : w.K = X.K) (hu : X.A.units + 160 < cLine) : OpR X (compareOp .In) (rCmpG w .inn) := by
  intro pins s' σ' H x y v u Q I rx ry ⟨σ, H0, H1, m, s, t, t2, b, r, xt, xu, e, q⟩
  have e : inT s t t2 = some b := e
  unfold inT at e
  split at e
  · rename_i kvs hd
    split at e
    · rename_i k hk
      split at e
      · rename_i hkey
        cases e
        obtain ⟨p, vs, e1, q1, z1⟩ := dct_of r xu hd
        obtain ⟨kk, e2, e3⟩ := key_of (a_of xt hk) hkey
        rw [e1] at ry
        rw [e3] at rx
        cases (show u = Value.ref p from ry)
        refine d_in (by omega) I (.inl ⟨vs, kk, q1, rfl, rfl⟩) rx fun s'' I' => ⟨.bl _, H, I', ?_, q⟩
        rw [(look_of e2 z1).isSome]
        rfl
      · cases e
    · cases e
  · split at e
    · rename_i z hz
      split at e
      · rename_i c hc
        split at e
        · rename_i n hn
          cases e
          obtain ⟨e1, _, _⟩ := str_of xu hz
          obtain ⟨e2, _, _⟩ := str_of xt hc
          have ec : c = ⟨#[n]⟩ := by
            obtain ⟨⟨l⟩⟩ := c
            have : l = [n] := hn
            rw [this]
          rw [e1] at ry
          rw [e2, ec] at rx
          exact op_in_sign pins s' σ' H _ _ v u Q I rx ry ⟨n, z, rfl, rfl, q⟩
        · cases e
      · cases e
    · split at e
      · rename_i ys hy
        split at e
        · rename_i d ds h1 h2
          split at e
          · rename_i hs
            cases e
            obtain ⟨p1, c1⟩ := dpT_of r xt h1
            obtain ⟨as, r1⟩ := Dp.reads I d x v (hw ▸ p1) rx
            obtain ⟨p, vs, e1, q1, l1, z1⟩ := seq_of r xu hy
            obtain ⟨p2, c2⟩ := dp_ofs z1 h2
            have room : X.A.units + 1 + min (PyData.depthAll ds) d.depth < cLine := by
              rw [Bool.or_eq_true] at hs
              rcases hs with h | h
              · have h1 := of_decide_eq_true h
                have h2 := Nat.min_le_left (PyData.depthAll ds) d.depth
                omega
              · have h1 := of_decide_eq_true h
                have h2 := Nat.min_le_right (PyData.depthAll ds) d.depth
                omega
            rcases q1 with q1 | q1
            · obtain ⟨bs, r2⟩ := Dp.reads I (.list ds) y u (by rw [e1]; exact .lst (hw ▸ q1) (hw ▸ p2)) ry
              exact SeqAt.in_list_reads r2 r1 c2 c1 room ⟨.bl _, H, I, rfl, q⟩
            · obtain ⟨bs, r2⟩ := Dp.reads I (.tuple ds) y u (by rw [e1]; exact .tup (hw ▸ q1) (hw ▸ p2)) ry
              exact SeqAt.in_tuple_reads r2 r1 c2 c1 room ⟨.bl _, H, I, rfl, q⟩
          · cases e
        · cases e
      · cases e
theorem or_nin (hw : w.K = X.K) (hu : X.A.units + 160 < cLine) : OpR X (compareOp .NotIn) (rCmpG w .nin) := by
  intro pins s' σ' H x y v u Q I rx ry ⟨σ, H0, H1, m, s, t, t2, b0, r, xt, xu, e0, q⟩
  obtain ⟨b, e, eb⟩ := Option.map_eq_some_iff.mp (show (inT s t t2).map (!·) = some b0 from e0)
  subst eb
  unfold inT at e
  split at e
  · rename_i kvs hd
    split at e
    · rename_i k hk
      split at e
      · rename_i hkey
        cases e
        obtain ⟨p, vs, e1, q1, z1⟩ := dct_of r xu hd
        obtain ⟨kk, e2, e3⟩ := key_of (a_of xt hk) hkey
        rw [e1] at ry
        rw [e3] at rx
        cases (show u = Value.ref p from ry)
        refine d_notIn (by omega) I (.inl ⟨vs, kk, q1, rfl, rfl⟩) rx fun s'' I' => ⟨.bl _, H, I', ?_, q⟩
        rw [(look_of e2 z1).isSome]
        rfl
      · cases e
    · cases e
  · split at e
    · rename_i z hz
      split at e
      · rename_i c hc
        split at e
        · rename_i n hn
          cases e
          obtain ⟨e1, _, _⟩ := str_of xu hz
          obtain ⟨e2, _, _⟩ := str_of xt hc
          have ec : c = ⟨#[n]⟩ := by
            obtain ⟨⟨l⟩⟩ := c
            have : l = [n] := hn
            rw [this]
          rw [e1] at ry
          rw [e2, ec] at rx
          exact op_notIn_sign pins s' σ' H _ _ v u Q I rx ry ⟨n, z, rfl, rfl, q⟩
        · cases e
      · cases e
    · split at e
      · rename_i ys hy
        split at e
        · rename_i d ds h1 h2
          split at e
          · rename_i hs
            cases e
            obtain ⟨p1, c1⟩ := dpT_of r xt h1
            obtain ⟨as, r1⟩ := Dp.reads I d x v (hw ▸ p1) rx
            obtain ⟨p, vs, e1, q1, l1, z1⟩ := seq_of r xu hy
            obtain ⟨p2, c2⟩ := dp_ofs z1 h2
            have room : X.A.units + 1 + min (PyData.depthAll ds) d.depth < cLine := by
              rw [Bool.or_eq_true] at hs
              rcases hs with h | h
              · have h1 := of_decide_eq_true h
                have h2 := Nat.min_le_left (PyData.depthAll ds) d.depth
                omega
              · have h1 := of_decide_eq_true h
                have h2 := Nat.min_le_right (PyData.depthAll ds) d.depth
                omega
            rcases q1 with q1 | q1
            · obtain ⟨bs, r2⟩ := Dp.reads I (.list ds) y u (by rw [e1]; exact .lst (hw ▸ q1) (hw ▸ p2)) ry
              exact SeqAt.notIn_list_reads r2 r1 c2 c1 room ⟨.bl _, H, I, rfl, q⟩
            · obtain ⟨bs, r2⟩ := Dp.reads I (.tuple ds) y u (by rw [e1]; exact .tup (hw ▸ q1) (hw ▸ p2)) ry
              exact SeqAt.notIn_tuple_reads r2 r1 c2 c1 room ⟨.bl _, H, I, rfl, q⟩
          · cases e
        · cases e
      · cases e
theorem RAs.atI {m : Pl} {H : Hp} {as : List A} {vs : List V} {i : Int} {a : A} (h : RAs w m H as vs) (e : L2.atI as i = some a) : ∃ v, L2.atI vs i = some v ∧ RA w m H a v := by
  unfold L2.atI at e ⊢
  rw [← h.len]
  cases q : L2.ixN as.length i with
  | none => rw [q] at e; cases e
  | some j =>
    rw [q] at e
    obtain ⟨v, e1, e2⟩ := h.get (show as[j]? = some a from e)
    exact ⟨v, e1, e2⟩
theorem strOk_one {z : Str} {n : Nat} (h : PyData.strOk z = true) (e : n ∈ z.cps.toList) : PyData.strOk ⟨#[n]⟩ = true := by
  have h1 := Array.all_eq_true_iff_forall_mem.mp h n (by simpa using e)
  show (#[n]).all (· < 0x110000) = true
  simpa using h1
theorem or_idx (hw : w.K = X.K) (hu : X.A.units + 160 < cLine) : IxR X (rOpG w opIdx) := by
  intro value slice pins s' σ' H x y v u Q I rx ry ⟨W, σ, H0, H1, G, m, s, t, t2, r, g, xt, xu, h⟩ hs
  unfold opIdx at h
  split at h
  · rename_i kvs hd
    split at h
    · rename_i k hk
      split at h
      · rename_i hkey
        split at h
        · rename_i a ha
          obtain ⟨p, vs, e1, q1, z1⟩ := dct_of r xt hd
          obtain ⟨kk, e2, e3⟩ := key_of (a_of xu hk) hkey
          rw [e1] at rx
          rw [e3] at ry
          cases (show v = Value.ref p from rx)
          have lk := look_of e2 z1
          rw [ha] at lk
          obtain ⟨z, ez, rz⟩ := lk.some
          have g : DGet H p (kV kk) (some z) := .inl ⟨vs, kk, q1, rfl, ez.symm⟩
          exact tail_any (dict_typeIs I g) PySem.F.slot_dict_getitem.lookup (d_getItem (by omega) I g ry fun w' s'' I' rw' => ⟨z, H, I', rw', h.fin r rz⟩) hs
        · exact h.elim
      · exact h.elim
    · exact h.elim
  · split at h
    · rename_i j hj
      rw [int_of xu hj] at ry
      split at h
      · rename_i z hz
        obtain ⟨e1, o1, l1⟩ := str_of xt hz
        rw [e1] at rx
        split at h
        · rename_i c hc
          have hm : c ∈ z.cps.toList := by
            unfold L2.atI at hc
            obtain ⟨k, _, hk⟩ := Option.bind_eq_some_iff.mp hc
            exact List.mem_of_getElem? hk
          exact ix_str value slice pins s' σ' H _ _ v u Q I rx ry ⟨z, j, c, rfl, rfl, by rw [lim_eq]; exact l1, hc, h.fin r (.str _ (strOk_one o1 hm) (by show 1 ≤ Lim; decide))⟩ hs
        · exact h.elim
      · split at h
        · rename_i xs hx
          obtain ⟨p, vs, e1, q1, l1, z1⟩ := seq_of r xt hx
          rw [e1] at rx
          split at h
          · rename_i a ha
            obtain ⟨z, ez, rz⟩ := z1.atI ha
            rcases q1 with q1 | q1
            · exact ix_list value slice pins s' σ' H _ _ v u Q I rx ry ⟨p, vs, j, z, rfl, rfl, hw ▸ q1, ez, h.fin r rz⟩ hs
            · exact ix_tup value slice pins s' σ' H _ _ v u Q I rx ry ⟨p, vs, j, z, rfl, rfl, hw ▸ q1, ez, h.fin r rz⟩ hs
          · exact h.elim
        · exact h.elim
    · exact h.elim
theorem RAs.cut {m : Pl} {H : Hp} {as : List A} {vs : List V} (h : RAs w m H as vs) (lo hi : Option Int) : RAs w m H (cutA as lo hi) (cutV vs lo hi) := by
  unfold cutA cutV
  rw [← h.len]
  exact (h.drop _).take _
theorem cutA_len {α : Type} (xs : List α) (lo hi : Option Int) : (cutA xs lo hi).length ≤ xs.length := by
  unfold cutA
  rw [List.length_take, List.length_drop]
  omega
def rSlG (w : Wd) : V → Option Int → Option Int → Hp → VK → Prop := fun x lo hi H Q => ∃ (W : WX) (σ : L2.St) (H0 G : Hp) (m : Pl) (s : S) (t : T), Rel w m s σ H ∧ Gone G H ∧ RT w σ H0 m s H t x ∧ Pst w W (rT w) G m s σ H (opSlc t lo hi s) Q
theorem or_slc (hw : w.K = X.K) : SlR X (rSlG w) := by
  intro pins s' σ' H x v vl vu lo hi sl Q I rx hs pl pu ⟨W, σ, H0, G, m, s, t, r, g, xt, h⟩
  unfold opSlc at h
  split at h
  · rename_i z hz
    obtain ⟨e1, o1, l1⟩ := str_of xt hz
    rw [e1] at rx
    refine sl_str pins s' σ' H _ v vl vu lo hi sl Q I rx hs pl pu ⟨z, rfl, by rw [lim_eq]; exact l1, h.fin r (.str _ ?_ ?_)⟩
    · refine Array.all_eq_true_iff_forall_mem.mpr fun n hn => ?_
      have hn : n ∈ ((z.cps.toList.drop (HT.sIx z.length 0 lo)).take (HT.sIx z.length z.length hi - HT.sIx z.length 0 lo)).toArray := hn
      have h2 : n ∈ z.cps.toList := List.mem_of_mem_drop (List.mem_of_mem_take (by simpa using hn))
      exact Array.all_eq_true_iff_forall_mem.mp o1 n (by simpa using h2)
    · show ((z.cps.toList.drop (HT.sIx z.length 0 lo)).take (HT.sIx z.length z.length hi - HT.sIx z.length 0 lo)).toArray.size ≤ Lim
      rw [List.size_toArray, List.length_take, List.length_drop]
      have : z.cps.toList.length = z.length := by simp [Str.length]
      omega
  · split at h
    · rename_i xs hx
      obtain ⟨p, vs, e1, q1, l1, z1⟩ := tup_of xt hx
      rw [e1] at rx
      have zl : (cutA xs lo hi).length ≤ Lim := Nat.le_trans (cutA_len _ _ _) l1
      refine sl_tupA pins s' σ' H _ v vl vu lo hi sl Q I rx hs pl pu ⟨p, vs, rfl, hw ▸ q1, fun e => ?_, fun _ p' hp => ?_⟩
      · have ec : cutV vs lo hi = vs := by
          unfold cutV
          rw [e.1, e.2]
          simp
        refine h.fin r (.tup q1 zl ?_)
        have := z1.cut lo hi
        rw [ec] at this
        exact this
      · exact h.new r g hp (.tup (SqT.of upd_same) zl (RAs.stb (stb_new hp) (z1.cut lo hi)))
    · split at h
      · rename_i xs hx
        obtain ⟨p, vs, e1, q1, l1, z1⟩ := lst_of r xt hx
        rw [e1] at rx
        refine sl_list pins s' σ' H _ v vl vu lo hi sl Q I rx hs pl pu ⟨p, vs, rfl, hw ▸ q1, fun p' hp => ?_⟩
        exact h.new r g hp ⟨p', rfl, ⟨_, upd_same, Nat.le_trans (cutA_len _ _ _) l1, RAs.stb (stb_new hp) (z1.cut lo hi)⟩, tmp_new r hp⟩
      · exact h.elim
end
end CE
end CEf
section CEg
set_option maxRecDepth 100000
set_option maxHeartbeats 2000000
namespace CE
open PySem PySem.Spec PyProof.Rows L2
theorem slot_lt {s : S} {i : Nat} {c : C} (h : s.slot i = some c) : i < s.env.length := by
  unfold S.slot at h
  cases e : s.env[i]? with
  | none => rw [e] at h; cases h
  | some x => exact (List.getElem?_eq_some_iff.mp e).1
theorem slot_put {s : S} {i j : Nat} {c : C} (h : i < s.env.length) : (s.put i c).slot j = if j = i then some c else s.slot j := by
  unfold S.slot S.put
  by_cases e : j = i
  · subst e
    rw [if_pos rfl]
    show ((s.env.set j (some c))[j]?).bind id = _
    rw [List.getElem?_set_self h]
    rfl
  · rw [if_neg e]
    show ((s.env.set i (some c))[j]?).bind id = _
    rw [List.getElem?_set_ne (Ne.symm e)]
theorem own_bor {c : C} (h : c.own = true) : c.bor = false := by
  cases c with
  | l o _ => cases o <;> first | rfl | cases h
  | d o _ => cases o <;> first | rfl | cases h
  | _ => rfl
section
variable {w : Wd} {m : Pl} {s s' : S} {σ : L2.St} {H : Hp} {p : Addr} {o : HO}
/-- an own object is changed: what is locked stays -/
theorem stb_own (r : Rel w m s σ H) (hp : Own m s σ p) : Stb m H m (upd H p o) := by
  have q := r.mob hp
  refine ⟨fun _ _ h => h, fun a xs h => ?_, fun a ob u h => ?_, fun a f h => ?_⟩
  · rw [upd_ne (fun e => by rw [e] at h; rw [h] at q; exact q)]; exact h
  · rw [upd_ne (fun e => by rw [e] at h; rw [h] at q; exact q)]; exact h
  · rw [upd_ne (fun e => by rw [e] at h; rw [h] at q; exact q)]; exact h
theorem ne_upd {q : Addr} {x : HO} (h : q ≠ p) (e : H q = some x) : upd H p o q = some x := by rw [upd_ne h]; exact e
/-- the store's object at l is changed -/
theorem Rel.setSt (r : Rel w m s σ H) {l : Nat} {x x' : O} (hl : s.st[l]? = some x) (hm : m l = some p) (hx : RO w m (upd H p o) p x') : Rel w m { s with st := s.st.set l x' } σ (upd H p o) := by
  have hb : Stb m H m (upd H p o) := stb_own r (.inl ⟨l, hm⟩)
  have hlt : l < s.st.length := (List.getElem?_eq_some_iff.mp hl).1
  refine ⟨r.len, fun i c h => ?_, fun l' y h => ?_, fun l' q h => ?_, r.inj, r.ap1, r.ap2, r.ap3⟩
  · obtain ⟨v, e, z⟩ := r.slot i c h
    refine ⟨v, e, z.at hb fun q ev ho u eu => ne_upd (fun eq => ?_) eu⟩
    subst ev
    subst eq
    rcases ho with ho | ho
    · exact r.ap1 i _ ⟨e, c, h, ho⟩ l hm
    · exact r.ap3 i _ ⟨e, c, h, ho⟩ (.inl ⟨l, hm⟩)
  · by_cases e : l' = l
    · subst e
      have h2 : (s.st.set l' x')[l']? = some y := h
      rw [List.getElem?_set_self hlt] at h2
      cases h2
      exact ⟨p, hm, hx⟩
    · have h2 : (s.st.set l x')[l']? = some y := h
      rw [List.getElem?_set_ne (Ne.symm e)] at h2
      obtain ⟨q, e1, z⟩ := r.st l' y h2
      exact ⟨q, e1, z.at hb fun u eu => ne_upd (fun eq => e (by subst eq; exact r.inj _ _ _ e1 hm)) eu⟩
  · show l' < (s.st.set l x').length
    rw [List.length_set]
    exact r.dom l' q h
theorem Ext.setSt {l : Nat} {x' : O} (hm : m l = some p) : Ext m s σ H m { s with st := s.st.set l x' } σ (upd H p o) where
  mono := fun _ _ h => h
  newM := fun l _ h => .inl ⟨l, h⟩
  newS := fun _ _ h => .inl h
  bor := fun i q h => .inl h
  frame := fun q u e n => ne_upd (fun eq => n (by subst eq; exact .inl ⟨l, hm⟩)) e
  keep := fun q e => by
    by_cases h : q = p
    · subst h; rw [upd_same]; simp
    · rw [upd_ne h]; exact e
/-- a slot's own object is changed -/
theorem Rel.setOwn (r : Rel w m s σ H) {i : Nat} {c c' : C} (hi : s.slot i = some c) (ho : c.own = true) (hs : σ[i]? = some (some (.ref p))) (hc : RSl w m (upd H p o) c' (.ref p)) (ho' : c'.own = true) : Rel w m (s.put i c') σ (upd H p o) := by
  have hown : OwnS s σ i p := ⟨hs, c, hi, ho⟩
  have hb : Stb m H m (upd H p o) := stb_own r (.inr ⟨i, hown⟩)
  have hlt := slot_lt hi
  have ow : ∀ {j q}, OwnS (s.put i c') σ j q → OwnS s σ j q := fun {j q} ⟨e, d, hd, hdo⟩ => by
    rw [slot_put hlt] at hd
    by_cases h : j = i
    · subst h
      exact ⟨e, c, hi, ho⟩
    · rw [if_neg h] at hd
      exact ⟨e, d, hd, hdo⟩
  have bo : ∀ {j q}, BorS (s.put i c') σ j q → BorS s σ j q := fun {j q} ⟨e, d, hd, hdo⟩ => by
    rw [slot_put hlt] at hd
    by_cases h : j = i
    · rw [if_pos h] at hd
      cases hd
      rw [own_bor ho'] at hdo
      cases hdo
    · rw [if_neg h] at hd
      exact ⟨e, d, hd, hdo⟩
  refine ⟨by show (s.env.set i (some c')).length = _; rw [List.length_set]; exact r.len, fun j d h => ?_, fun l y h => ?_, r.dom, r.inj, fun j q h => r.ap1 j q (ow h), fun j k q h h' => r.ap2 j k q (ow h) (ow h'), fun j q h h' => r.ap3 j q (bo h) ?_⟩
  · rw [slot_put hlt] at h
    by_cases e : j = i
    · rw [if_pos e] at h
      cases h
      rw [e]
      exact ⟨_, hs, hc⟩
    · rw [if_neg e] at h
      obtain ⟨v, e1, z⟩ := r.slot j d h
      refine ⟨v, e1, z.at hb fun q ev hd u eu => ne_upd (fun eq => ?_) eu⟩
      subst ev
      subst eq
      rcases hd with hd | hd
      · exact e (r.ap2 j i _ ⟨e1, d, h, hd⟩ hown)
      · exact r.ap3 j _ ⟨e1, d, h, hd⟩ (.inr ⟨i, hown⟩)
  · obtain ⟨q, e1, z⟩ := r.st l y h
    exact ⟨q, e1, z.at hb fun u eu => ne_upd (fun eq => by subst eq; exact r.ap1 i _ hown l e1) eu⟩
  · rcases h' with h' | ⟨k, h'⟩
    · exact .inl h'
    · exact .inr ⟨k, ow h'⟩
theorem Ext.setOwn {i : Nat} {c c' : C} (hi : s.slot i = some c) (ho : c.own = true) (hs : σ[i]? = some (some (.ref p))) (ho' : c'.own = true) : Ext m s σ H m (s.put i c') σ (upd H p o) := by
  have hlt := slot_lt hi
  refine ⟨fun _ _ h => h, fun l q h => .inl ⟨l, h⟩, fun j q ⟨e, d, hd, hdo⟩ => .inl ?_, fun j q ⟨e, d, hd, hdo⟩ => .inl ?_, fun q u e n => ne_upd (fun eq => n (by subst eq; exact .inr ⟨i, hs, c, hi, ho⟩)) e, fun q e => ?_⟩
  · rw [slot_put hlt] at hd
    by_cases h : j = i
    · subst h
      exact ⟨e, c, hi, ho⟩
    · rw [if_neg h] at hd
      exact ⟨e, d, hd, hdo⟩
  · rw [slot_put hlt] at hd
    by_cases h : j = i
    · rw [if_pos h] at hd
      cases hd
      rw [own_bor ho'] at hdo
      cases hdo
    · rw [if_neg h] at hd
      exact ⟨e, d, hd, hdo⟩
  · by_cases h : q = p
    · subst h; rw [upd_same]; simp
    · rw [upd_ne h]; exact e
/-- a list that may be changed: where it stands, and what it is to change it -/
theorem setL_of {H0 : Hp} {t : T} {v : V} {xs xs' : List A} (r : Rel w m s σ H) (x : RT w σ H0 m s H t v) (e : lstOf s t = some xs) (e2 : setL s t xs' = some s') :
    ∃ p vs, v = .ref p ∧ H p = some (.lst vs) ∧ xs.length ≤ Lim ∧ RAs w m H xs vs ∧ ∀ vs', RAs w m H xs' vs' → xs'.length ≤ Lim → Rel w m s' σ (upd H p (.lst vs')) ∧ Ext m s σ H m s' σ (upd H p (.lst vs')) ∧ Stb m H m (upd H p (.lst vs')) := by
  cases t with
  | tl ys => cases e2
  | td ys => cases e2
  | sl i =>
    have e2 : (match s.slot i with
      | some (.l true _) => some (s.put i (.l true xs'))
      | _ => none) = some s' := e2
    have e : (match s.slot i with
      | some (.l _ xs) => some xs
      | _ => none) = some xs := e
    cases hc : s.slot i with
    | none => rw [hc] at e; cases e
    | some c =>
      rw [hc] at e e2
      cases c with
      | l b ys =>
        cases b with
        | false => cases e2
        | true =>
          cases e
          cases e2
          obtain ⟨u, e3, p, rfl, vs, h1, h2, h3⟩ := r.slot i _ hc
          have x2 : σ[i]? = some (some v) := x
          rw [x2] at e3
          cases e3
          refine ⟨p, vs, rfl, h1, h2, h3, fun vs' hr hl => ?_⟩
          have hb : Stb m H m (upd H p (.lst vs')) := stb_own r (.inr ⟨i, x2, _, hc, rfl⟩)
          exact ⟨r.setOwn hc rfl x2 ⟨p, rfl, vs', upd_same, hl, hr.stb hb⟩ rfl, Ext.setOwn hc rfl x2 rfl, hb⟩
      | _ => cases e
  | v a =>
    cases a with
    | ref l =>
      have e2 : (match s.st[l]? with
        | some (.lst _) => some { s with st := s.st.set l (.lst xs') }
        | _ => none) = some s' := e2
      have e : (match s.st[l]? with
        | some (.lst xs) => some xs
        | _ => none) = some xs := e
      cases hc : s.st[l]? with
      | none => rw [hc] at e; cases e
      | some c =>
        rw [hc] at e e2
        cases c with
        | lst ys =>
          cases e
          cases e2
          obtain ⟨q, e3, vs, h1, h2, h3⟩ := r.st l _ hc
          cases x with
          | ref h =>
            rw [h] at e3
            cases e3
            refine ⟨_, vs, rfl, h1, h2, h3, fun vs' hr hl => ?_⟩
            have hb : Stb m H m (upd H _ (.lst vs')) := stb_own r (.inl ⟨l, h⟩)
            exact ⟨r.setSt hc h ⟨vs', upd_same, hl, hr.stb hb⟩, Ext.setSt h, hb⟩
        | _ => cases e
    | _ => cases e2
end
end CE
end CEg
section CEh
set_option maxRecDepth 100000
set_option maxHeartbeats 2000000
namespace PySem.AutoSeq1
open PySem
theorem list_extendX_l (l : Addr) (items : Array Value) (n : Nat) (b : Addr) (items2 : Array Value) (n2 : Nat) (dd : Option Addr) (sl : Array (Option Value)) (hs0 : ¬(!items.isEmpty && Builtin.List.listTooLong (items.size + items2.size)) = true) (hs1 : items.size ≤ sizeLine) (hs2 : items.size + items2.size ≤ sizeLine + 1) :
    Meets (Builtin.«list.extend» ⟨[.ref l, .ref b], []⟩) (fun _ R s => s.heap.get? l = some { cls := .type "list", dict := none, data := .seq items n, slots := #[] } ∧ s.heap.get? b = some { cls := .type "list", dict := dd, data := .seq items2 n2, slots := sl } ∧ R (.ok (.ret Value.none)) { s with heap := s.heap.update l (Obj.mapSeq fun x => x ++ items2), toks := s.toks }) :=
  .of_wp fun prog w A R s h => by
    obtain ⟨hp, g, d, tk, os⟩ := s; obtain ⟨hl, hb, h⟩ := h; have f1 := idx_int; have f2 := sub_tuple_tuple; have f3 := sub_list_list; have f4 := sub_tuple_list; have f5 := sub_list_tuple;
    have hz' : (items ++ items2).size ≤ sizeLine + 1 := by rw [Array.size_append]; exact hs2
    wp_walk using (wpAny_updateSeq hl rfl (hz := hs1) (_hz' := hz')), wpAny_loadPart' hl, wpAny_loadPart' hb; exact ⟨_, rfl, h⟩
theorem list_extendX_t (l : Addr) (items : Array Value) (n : Nat) (b : Addr) (items2 : Array Value) (n2 : Nat) (dd : Option Addr) (sl : Array (Option Value)) (hs0 : ¬(!items.isEmpty && Builtin.List.listTooLong (items.size + items2.size)) = true) (hs1 : items.size ≤ sizeLine) (hs2 : items.size + items2.size ≤ sizeLine + 1) :
    Meets (Builtin.«list.extend» ⟨[.ref l, .ref b], []⟩) (fun _ R s => s.heap.get? l = some { cls := .type "list", dict := none, data := .seq items n, slots := #[] } ∧ s.heap.get? b = some { cls := .type "tuple", dict := dd, data := .seq items2 n2, slots := sl } ∧ R (.ok (.ret Value.none)) { s with heap := s.heap.update l (Obj.mapSeq fun x => x ++ items2), toks := s.toks }) :=
  .of_wp fun prog w A R s h => by
    obtain ⟨hp, g, d, tk, os⟩ := s; obtain ⟨hl, hb, h⟩ := h; have f1 := idx_int; have f2 := sub_tuple_tuple; have f3 := sub_list_list; have f4 := sub_tuple_list; have f5 := sub_list_tuple;
    have hz' : (items ++ items2).size ≤ sizeLine + 1 := by rw [Array.size_append]; exact hs2
    wp_walk using (wpAny_updateSeq hl rfl (hz := hs1) (_hz' := hz')), wpAny_loadPart' hl, wpAny_loadPart' hb; exact ⟨_, rfl, h⟩
end PySem.AutoSeq1
namespace CE
open PySem PySem.Spec PyProof.Rows L2
section
variable {X : Cx} {w : Wd}
def rBfG (w : Wd) (b : BF) : List V → Hp → VK → Prop := fun vs H Q => ∃ (W : WX) (σ : L2.St) (H0 G : Hp) (m : Pl) (s : S) (ts : List T), Rel w m s σ H ∧ Gone G H ∧ RTs w σ H0 m s H ts vs ∧ Pst w W (rT w) G m s σ H (opBf b ts s) Q
theorem bls_of {m : Pl} {H : Hp} : ∀ {as : List A} {vs : List V} {bs : List Bool}, RAs w m H as vs → asBls as = some bs → vs = bs.map V.bl
  | _, _, _, .nil, e => by cases e; rfl
  | _, _, _, .cons (a := a) h1 h2, e => by
    cases a with
    | bl b =>
      cases h1
      obtain ⟨cs, e1, e2⟩ := Option.map_eq_some_iff.mp (show (asBls _).map (b :: ·) = some _ from e)
      subst e2
      rw [bls_of h2 e1]
      rfl
    | _ => cases e
theorem ints_of {m : Pl} {H : Hp} : ∀ {as : List A} {vs : List V} {bs : List Int}, RAs w m H as vs → asInts as = some bs → vs = bs.map V.int
  | _, _, _, .nil, e => by cases e; rfl
  | _, _, _, .cons (a := a) h1 h2, e => by
    cases a with
    | int b =>
      cases h1
      obtain ⟨cs, e1, e2⟩ := Option.map_eq_some_iff.mp (show (asInts _).map (b :: ·) = some _ from e)
      subst e2
      rw [ints_of h2 e1]
      rfl
    | _ => cases e
theorem asInts_len : ∀ {as : List A} {bs : List Int}, asInts as = some bs → as.length = bs.length
  | [], _, e => by cases e; rfl
  | a :: as, _, e => by
    cases a with
    | int b =>
      obtain ⟨cs, e1, e2⟩ := Option.map_eq_some_iff.mp (show (asInts _).map (b :: ·) = some _ from e)
      subst e2
      simp [asInts_len e1]
    | _ => cases e
theorem RAs.ints {m : Pl} {H : Hp} : ∀ ns : List Int, RAs w m H (ns.map A.int) (ns.map V.int)
  | [] => .nil
  | n :: ns => .cons (.int n) (RAs.ints ns)
theorem insI_perm (x : Int) : ∀ ys : List Int, (insI x ys).Perm (x :: ys)
  | [] => .refl _
  | y :: ys => by
    unfold insI
    split
    · exact .refl _
    · exact ((insI_perm x ys).cons y).trans (.swap x y ys)
theorem sortI_perm : ∀ xs : List Int, (sortI xs).Perm xs
  | [] => .refl _
  | x :: xs => (insI_perm x (sortI xs)).trans ((sortI_perm xs).cons x)
theorem insI_sorted (x : Int) : ∀ ys : List Int, ys.Pairwise (· ≤ ·) → (insI x ys).Pairwise (· ≤ ·)
  | [], _ => by simp [insI]
  | y :: ys, h => by
    unfold insI
    obtain ⟨h1, h2⟩ := List.pairwise_cons.mp h
    split
    · rename_i hxy
      refine List.pairwise_cons.mpr ⟨fun z hz => ?_, h⟩
      rcases List.mem_cons.mp hz with e | hz
      · rw [e]; exact hxy
      · exact Int.le_trans hxy (h1 z hz)
    · rename_i hxy
      refine List.pairwise_cons.mpr ⟨fun z hz => ?_, insI_sorted x ys h2⟩
      rcases List.mem_cons.mp ((insI_perm x ys).mem_iff.mp hz) with e | hz
      · rw [e]; omega
      · exact h1 z hz
theorem sortI_sorted : ∀ xs : List Int, (sortI xs).Pairwise (· ≤ ·)
  | [] => .nil
  | x :: xs => insI_sorted x _ (sortI_sorted xs)
theorem strOk_str (z : String) : PyData.strOk (Str.ofString z) = true := by
  rw [Str.ofString_eq_toList]
  refine Array.all_eq_true_iff_forall_mem.mpr fun n hn => ?_
  have hn : n ∈ (z.toList.map Char.toNat).toArray := hn
  obtain ⟨c, _, e⟩ := List.mem_map.mp (by simpa using hn : n ∈ z.toList.map Char.toNat)
  subst e
  have h := c.valid
  simp only [UInt32.isValidChar, Nat.isValidChar] at h
  have e : c.toNat = c.val.toNat := rfl
  rw [e]
  exact decide_eq_true (by omega)
theorem br_len (hw : w.K = X.K) : CallR X (.builtin "len") (rBfG w .len) := by
  intro pins s' σ' H vs us Q I rv ⟨W, σ, H0, G, m, s, ts, r, g, xt, h⟩
  unfold opBf at h
  split at h
  · rename_i t
    cases xt with
    | cons x1 xn =>
    cases xn
    dsimp only at h
    split at h
    · rename_i z hz
      obtain ⟨e1, o1, l1⟩ := str_of x1 hz
      subst e1
      exact call_len_str pins s' σ' H _ us Q I rv ⟨z, rfl, by rw [lim_eq]; exact l1, h.fin r (.int _)⟩
    · split at h
      · rename_i xs hx
        obtain ⟨p, ws, e1, q1, l1, z1⟩ := seq_of r x1 hx
        subst e1
        exact call_len_seq pins s' σ' H _ us Q I rv ⟨p, ws, rfl, hw ▸ q1, by rw [← z1.len]; exact h.fin r (.int _)⟩
      · split at h
        · rename_i kvs hd
          obtain ⟨p, ws, e1, q1, z1⟩ := dct_of r x1 hd
          subst e1
          obtain ⟨u, e2, r1⟩ := vals1 rv
          subst e2
          cases r1
          have el : kvs.length = ws.length := by
            clear h hd q1
            induction z1 with
            | nil => rfl
            | cons _ _ _ ih => simp [ih]
          refine d_len I q1 fun tk s'' I' => ⟨.int ws.length, H, I', ⟨_, rfl⟩, ?_⟩
          rw [← el]
          exact h.fin r (.int _)
        · exact h.elim
  · split at h <;> first | exact h.elim | (split at h <;> exact h.elim)
  · exact h.elim
theorem br_int : CallR X (.type "int") (rBfG w .int) := by
  intro pins s' σ' H vs us Q I rv ⟨W, σ, H0, G, m, s, ts, r, g, xt, h⟩
  unfold opBf at h
  split at h
  · rename_i t
    cases xt with
    | cons x1 xn =>
    cases xn
    dsimp only at h
    split at h
    · rename_i i hi
      have e1 := int_of x1 hi
      subst e1
      exact call_int1 pins s' σ' H _ us Q I rv (.inl ⟨i, rfl, h.fin r (.int _)⟩)
    · split at h
      · rename_i k hk
        have e1 := bl_of x1 hk
        subst e1
        exact call_int1 pins s' σ' H _ us Q I rv (.inr ⟨k, rfl, h.fin r (.int _)⟩)
      · exact h.elim
  · split at h <;> first | exact h.elim | (split at h <;> exact h.elim)
  · exact h.elim
theorem br_str : CallR X (.type "str") (rBfG w .str) := by
  intro pins s' σ' H vs us Q I rv ⟨W, σ, H0, G, m, s, ts, r, g, xt, h⟩
  unfold opBf at h
  split at h
  · rename_i t
    cases xt with
    | cons x1 xn =>
    cases xn
    dsimp only at h
    split at h
    · rename_i i hi
      have e1 := int_of x1 hi
      subst e1
      split at h
      · rename_i hc
        rw [Bool.and_eq_true] at hc
        exact call_str_int pins s' σ' H _ us Q I rv ⟨i, rfl, of_decide_eq_true hc.1, h.fin r (.str _ (strOk_str _) (of_decide_eq_true hc.2))⟩
      · exact h.elim
    · exact h.elim
  · split at h <;> first | exact h.elim | (split at h <;> exact h.elim)
  · exact h.elim
theorem br_list (hw : w.K = X.K) : CallR X (.type "list") (rBfG w .list) := by
  intro pins s' σ' H vs us Q I rv ⟨W, σ, H0, G, m, s, ts, r, g, xt, h⟩
  unfold opBf at h
  split at h
  · rename_i t
    cases xt with
    | cons x1 xn =>
    cases xn
    dsimp only at h
    split at h
    · rename_i xs hx
      obtain ⟨p, ws, e1, q1, l1, z1⟩ := seq_of r x1 hx
      subst e1
      exact call_list_of pins s' σ' H _ us Q I rv ⟨p, ws, rfl, hw ▸ q1, fun l hl => h.new r g hl ⟨l, rfl, ⟨_, upd_same, l1, RAs.stb (stb_new hl) z1⟩, tmp_new r hl⟩⟩
    · exact h.elim
  · split at h <;> first | exact h.elim | (split at h <;> exact h.elim)
  · exact h.elim
theorem br_tuple (hw : w.K = X.K) : CallR X (.type "tuple") (rBfG w .tuple) := by
  intro pins s' σ' H vs us Q I rv ⟨W, σ, H0, G, m, s, ts, r, g, xt, h⟩
  unfold opBf at h
  split at h
  · rename_i t
    cases xt with
    | cons x1 xn =>
    cases xn
    dsimp only at h
    split at h
    · rename_i xs hx
      obtain ⟨p, ws, e1, q1, l1, z1⟩ := seq_of r x1 hx
      subst e1
      refine call_tuple_of pins s' σ' H _ us Q I rv ⟨p, ws, rfl, ?_⟩
      rcases q1 with q1 | q1
      · exact .inl ⟨hw ▸ q1, fun l hl => h.new r g hl (.tup (SqT.of upd_same) l1 (RAs.stb (stb_new hl) z1))⟩
      · exact .inr ⟨hw ▸ q1, h.fin r (.tup q1 l1 z1)⟩
    · exact h.elim
  · split at h <;> first | exact h.elim | (split at h <;> exact h.elim)
  · exact h.elim
theorem br_all (hw : w.K = X.K) (hc : X.calm = true) : CallR X (.builtin "all") (rBfG w .all) := by
  intro pins s' σ' H vs us Q I rv ⟨W, σ, H0, G, m, s, ts, r, g, xt, h⟩
  unfold opBf at h
  split at h
  · rename_i t
    cases xt with
    | cons x1 xn =>
    cases xn
    dsimp only at h
    split at h
    · rename_i bs hb
      obtain ⟨xs, hx, hb⟩ := Option.bind_eq_some_iff.mp hb
      obtain ⟨p, ws, e1, q1, l1, z1⟩ := lst_of r x1 hx
      subst e1
      exact cr_all hc pins s' σ' H _ us Q I rv ⟨p, bs, rfl, by rw [← bls_of z1 hb]; exact hw ▸ q1, h.fin r (.bl _)⟩
    · exact h.elim
  · split at h <;> first | exact h.elim | (split at h <;> exact h.elim)
  · exact h.elim
theorem br_any (hw : w.K = X.K) (hc : X.calm = true) : CallR X (.builtin "any") (rBfG w .any) := by
  intro pins s' σ' H vs us Q I rv ⟨W, σ, H0, G, m, s, ts, r, g, xt, h⟩
  unfold opBf at h
  split at h
  · rename_i t
    cases xt with
    | cons x1 xn =>
    cases xn
    dsimp only at h
    split at h
    · rename_i bs hb
      obtain ⟨xs, hx, hb⟩ := Option.bind_eq_some_iff.mp hb
      obtain ⟨p, ws, e1, q1, l1, z1⟩ := lst_of r x1 hx
      subst e1
      exact cr_any hc pins s' σ' H _ us Q I rv ⟨p, bs, rfl, by rw [← bls_of z1 hb]; exact hw ▸ q1, h.fin r (.bl _)⟩
    · exact h.elim
  · split at h <;> first | exact h.elim | (split at h <;> exact h.elim)
  · exact h.elim
theorem br_sum (hw : w.K = X.K) (hc : X.calm = true) : CallR X (.builtin "sum") (rBfG w .sum) := by
  intro pins s' σ' H vs us Q I rv ⟨W, σ, H0, G, m, s, ts, r, g, xt, h⟩
  unfold opBf at h
  split at h
  · rename_i t
    cases xt with
    | cons x1 xn =>
    cases xn
    dsimp only at h
    split at h
    · rename_i bs hb
      obtain ⟨xs, hx, hb⟩ := Option.bind_eq_some_iff.mp hb
      obtain ⟨p, ws, e1, q1, l1, z1⟩ := lst_of r x1 hx
      subst e1
      exact cr_sum hc pins s' σ' H _ us Q I rv ⟨p, bs, rfl, by rw [← ints_of z1 hb]; exact hw ▸ q1, h.fin r (.int _)⟩
    · exact h.elim
  · split at h <;> first | exact h.elim | (split at h <;> exact h.elim)
  · exact h.elim
theorem br_sorted (hw : w.K = X.K) : CallR X (.builtin "sorted") (rBfG w .sorted) := by
  intro pins s' σ' H vs us Q I rv ⟨W, σ, H0, G, m, s, ts, r, g, xt, h⟩
  unfold opBf at h
  split at h
  · rename_i t
    cases xt with
    | cons x1 xn =>
    cases xn
    dsimp only at h
    split at h
    · rename_i bs hb
      obtain ⟨xs, hx, hb⟩ := Option.bind_eq_some_iff.mp hb
      obtain ⟨p, ws, e1, q1, l1, z1⟩ := lst_of r x1 hx
      subst e1
      refine cr_sortedI pins s' σ' H _ us Q I rv ⟨p, bs, rfl, by rw [← ints_of z1 hb]; exact hw ▸ q1, fun ns' l hp hs hl => ?_⟩
      have e : ns' = sortI bs := PySem.W.ksm_same (hp.trans (sortI_perm bs).symm) hs (sortI_sorted bs)
      subst e
      refine h.new r g hl ⟨l, rfl, ⟨_, upd_same, ?_, RAs.ints _⟩, tmp_new r hl⟩
      rw [List.length_map, (sortI_perm bs).length_eq, ← asInts_len hb]
      exact l1
    · exact h.elim
  · split at h <;> first | exact h.elim | (split at h <;> exact h.elim)
  · exact h.elim
theorem br_min2 (hc : X.calm = true) : CallR X (.builtin "min") (rBfG w .min2) := by
  intro pins s' σ' H vs us Q I rv ⟨W, σ, H0, G, m, s, ts, r, g, xt, h⟩
  unfold opBf at h
  split at h
  · exact h.elim
  · rename_i t t2
    cases xt with
    | cons x1 xn =>
    cases xn with
    | cons x2 xn =>
    cases xn
    split at h
    · rename_i i j hi hj
      have e1 := int_of x1 hi
      have e2 := int_of x2 hj
      subst e1
      subst e2
      exact call_min2 hc pins s' σ' H _ us Q I rv ⟨i, j, rfl, h.fin r (.int _)⟩
    · exact h.elim
  · exact h.elim
theorem br_max2 (hc : X.calm = true) : CallR X (.builtin "max") (rBfG w .max2) := by
  intro pins s' σ' H vs us Q I rv ⟨W, σ, H0, G, m, s, ts, r, g, xt, h⟩
  unfold opBf at h
  split at h
  · exact h.elim
  · rename_i t t2
    cases xt with
    | cons x1 xn =>
    cases xn with
    | cons x2 xn =>
    cases xn
    split at h
    · rename_i i j hi hj
      have e1 := int_of x1 hi
      have e2 := int_of x2 hj
      subst e1
      subst e2
      exact call_max2 hc pins s' σ' H _ us Q I rv ⟨i, j, rfl, h.fin r (.int _)⟩
    · exact h.elim
  · exact h.elim
def rMtG (w : Wd) (mt : MT) : V → List V → Hp → VK → Prop := fun x vs H Q => ∃ (W : WX) (σ : L2.St) (H0 H1 G : Hp) (m : Pl) (s : S) (t : T) (ts : List T), Rel w m s σ H ∧ Gone G H ∧ RT w σ H0 m s H t x ∧ RTs w σ H1 m s H ts vs ∧ Pst w W (rT w) G m s σ H (opMt mt t ts s) Q
theorem Pst.chg {W : WX} {G : Hp} {t : T} {v : V} {Q : VK} {m m' : Pl} {s s' : S} {σ : L2.St} {H H' : Hp} (h : Pst w W (rT w) G m s σ H (.ok t s') Q) (r : Rel w m' s' σ H') (e : Ext m s σ H m' s' σ H') (x : RT w σ G m' s' H' t v) : Q v H' := h m' H' v r e x
theorem mr_append : MtR X "list.append" (rMtG w .append) := by
  intro pins s' σ' H x vs v us Q I rx rv ⟨W, σ, H0, H1, G, m, s, t, ts, r, g, xt, xs, h⟩
  cases xs with
  | nil => exact (show False from h).elim
  | cons x1 xn =>
  cases xn with
  | cons _ _ => exact (show False from h).elim
  | nil =>
  dsimp only [opMt] at h
  split at h <;> try exact h.elim
  rename_i a zs ha hz
  split at h <;> try exact h.elim
  rename_i hl
  split at h <;> try exact h.elim
  rename_i s2 hs
  obtain ⟨p, ws, e1, q1, l1, z1, fin⟩ := setL_of r xt hz hs
  subst e1
  obtain ⟨r2, e2, _⟩ := fin (ws ++ [_]) (z1.app (.cons (a_of x1 ha) .nil)) (by rw [List.length_append]; exact hl)
  exact mt_append pins s' σ' H _ _ v us Q I rx rv ⟨p, ws, _, rfl, rfl, q1, by rw [lim_eq, ← z1.len]; exact hl, h.chg r2 e2 .non⟩
/-- l.extend(a list or a tuple), any that may be read -/
def rExtL (K : PySem.W.Frag) : V → List V → Hp → VK → Prop := fun x vs H Q => ∃ l b xs zs, x = .ref l ∧ vs = [.ref b] ∧ H l = some (.lst xs) ∧ (SqL K H b zs ∨ SqT K H b zs) ∧ xs.length + zs.length ≤ sizeLine ∧ Q .non (upd H l (.lst (xs ++ zs)))
theorem mt_extL : MtR X "list.extend" (rExtL X.K) := by
  intro pins s σ H x vs v us Q I rx rv h
  obtain ⟨l, b, xs, zs, rfl, rfl, hH, hB, hz, q⟩ := h
  cases rx
  obtain ⟨u, rfl, ru⟩ := vals1 rv
  cases ru
  obtain ⟨z, its, n, r, hl, e⟩ := I.lstM hH
  have fin : ∀ its2 : List Value, Vals zs its2 → EP X pins σ Q .none { s with heap := s.heap.update l (Obj.mapSeq fun x => x ++ its2.toArray), toks := s.toks } := fun its2 r2 => by
    refine ⟨.non, _, I.lset (its' := its ++ its2) hH e (by simp) (r.append r2) ?_, rfl, q⟩
    rw [List.length_append]
    omega
  have long : ∀ its2 : List Value, Vals zs its2 → its.toArray.size + its2.toArray.size ≤ sizeLine := fun its2 r2 => by
    have := r2.length
    rw [List.size_toArray, List.size_toArray]
    omega
  have nl : ∀ its2 : List Value, Vals zs its2 → ¬ (!its.toArray.isEmpty && Builtin.List.listTooLong (its.toArray.size + its2.toArray.size)) = true := fun its2 r2 => by
    rw [notLongL (long its2 r2), Bool.and_false]
    exact Bool.false_ne_true
  rcases hB with hB | hB
  · obtain ⟨its2, r2, hl2, _⟩ := I.list hB
    obtain ⟨⟨cls2, dd2, data2, sl2⟩, ho2, hc2, n2, hd2⟩ := hl2.isList
    simp only at hc2 hd2
    subst hc2 hd2
    have h1 := long its2 r2
    exact call_meets PySem.F.slot_list_extend ⟨_, e, rfl⟩ PySem.F.entry_list_extend (PySem.F.args_list_extend_2 _ _)
      (AutoSeq1.list_extendX_l l its.toArray n b its2.toArray n2 dd2 sl2 (nl its2 r2) (by omega) (by omega)) ⟨e, ho2, fin its2 r2⟩
  · obtain ⟨its2, r2, ⟨⟨cls2, dd2, data2, sl2⟩, ho2, hc2, n2, hd2⟩, _⟩ := I.tuple hB
    simp only at hc2 hd2
    subst hc2 hd2
    have h1 := long its2 r2
    exact call_meets PySem.F.slot_list_extend ⟨_, e, rfl⟩ PySem.F.entry_list_extend (PySem.F.args_list_extend_2 _ _)
      (AutoSeq1.list_extendX_t l its.toArray n b its2.toArray n2 dd2 sl2 (nl its2 r2) (by omega) (by omega)) ⟨e, ho2, fin its2 r2⟩
theorem mr_extend (hw : w.K = X.K) : MtR X "list.extend" (rMtG w .extend) := by
  intro pins s' σ' H x vs v us Q I rx rv ⟨W, σ, H0, H1, G, m, s, t, ts, r, g, xt, xs, h⟩
  cases xs with
  | nil => exact (show False from h).elim
  | cons x1 xn =>
  cases xn with
  | cons _ _ => exact (show False from h).elim
  | nil =>
  dsimp only [opMt] at h
  split at h <;> try exact h.elim
  rename_i ys zs ha hz
  split at h <;> try exact h.elim
  rename_i hl
  split at h <;> try exact h.elim
  rename_i s2 hs
  obtain ⟨p, ws, e1, q1, l1, z1, fin⟩ := setL_of r xt hz hs
  obtain ⟨p2, us2, e2, q2, l2, z2⟩ := seq_of r x1 ha
  subst e1
  subst e2
  obtain ⟨r2, e2, _⟩ := fin (ws ++ us2) (z1.app z2) (by rw [List.length_append]; exact hl)
  exact mt_extL pins s' σ' H _ _ v us Q I rx rv ⟨p, p2, ws, us2, rfl, rfl, q1, hw ▸ q2, by rw [lim_eq, ← z1.len, ← z2.len]; exact hl, h.chg r2 e2 .non⟩
theorem mr_pop : MtR X "list.pop" (rMtG w .pop) := by
  intro pins s' σ' H x vs v us Q I rx rv ⟨W, σ, H0, H1, G, m, s, t, ts, r, g, xt, xs, h⟩
  cases xs with
  | cons _ _ => exact (show False from h).elim
  | nil =>
  dsimp only [opMt] at h
  split at h <;> try exact h.elim
  rename_i zs hz
  split at h <;> try exact h.elim
  rename_i a ha
  split at h <;> try exact h.elim
  rename_i s2 hs
  obtain ⟨p, ws, e1, q1, l1, z1, fin⟩ := setL_of r xt hz hs
  subst e1
  obtain ⟨y, ey, ry⟩ := z1.get ha
  obtain ⟨r2, e2, b2⟩ := fin ws.dropLast z1.dropLast (by rw [List.length_dropLast]; omega)
  rw [z1.len] at ey
  exact mt_pop pins s' σ' H _ _ v us Q I rx rv ⟨p, ws, y, rfl, rfl, q1, ey, h.chg r2 e2 (RA.stb b2 ry)⟩
theorem mr_popat : MtR X "list.pop" (rMtG w .popat) := by
  intro pins s' σ' H x vs v us Q I rx rv ⟨W, σ, H0, H1, G, m, s, t, ts, r, g, xt, xs, h⟩
  cases xs with
  | nil => exact (show False from h).elim
  | cons x1 xn =>
  cases xn with
  | cons _ _ => exact (show False from h).elim
  | nil =>
  dsimp only [opMt] at h
  split at h <;> try exact h.elim
  rename_i i zs hi hz
  split at h <;> try exact h.elim
  rename_i k hk
  split at h <;> try exact h.elim
  rename_i a ha
  split at h <;> try exact h.elim
  rename_i s2 hs
  obtain ⟨p, ws, e1, q1, l1, z1, fin⟩ := setL_of r xt hz hs
  subst e1
  have e3 := int_of x1 hi
  subst e3
  obtain ⟨y, ey, ry⟩ := z1.get ha
  obtain ⟨r2, e2, b2⟩ := fin (ws.eraseIdx k) (z1.eraseIdx k) (Nat.le_trans (List.length_eraseIdx_le _ _) l1)
  obtain ⟨k1, k2, k3, k4⟩ := ixN_seq hk
  rw [z1.len] at k1 k3 k4
  have hl : ws.length ≤ 16777216 := by rw [← z1.len]; exact l1
  exact mt_popAt pins s' σ' H _ _ v us Q I rx rv ⟨p, ws, i, k, y, rfl, rfl, q1, by omega, by omega, k1, ey, h.chg r2 e2 (RA.stb b2 ry)⟩
/-- l.index(x): the first place of an equal one, data of any depth -/
theorem index_of {pins : List (Addr × Obj)} {s : Shared} {σ : L2.St} {H : Hp} {a : Addr} {xs : List V} {y : V} {u : Value} {d : PyData} {ds : List PyData} {j : Nat} {z : PyData} {Q : VK} (I : Inv X pins σ H s) (hs : SqL X.K H a xs) (ha : DpAll X.K H xs ds) (hy : Dp X.K H y d) (ry : RelV y u)
    (hxs : PyData.canLayAll0 ds = true) (hd : d.canLay0 = true) (hroom : X.A.units + 1 + min (PyData.depthAll ds) d.depth < cLine) (hz : ds[j]? = some z) (hzj : PyData.eqv z d = true) (hno : ∀ (m : Nat) (z' : PyData), m < j → ds[m]? = some z' → PyData.eqv z' d = false) (q : Q (.int (j : Nat)) H) :
    wpAny (model X.prog X.w) X.A (call (.builtin "list.index") [.ref a, u]) (EP X pins σ Q) X.xe s := by
  obtain ⟨bs, r1⟩ := Dp.reads I d y u hy ry
  obtain ⟨its, rv, ⟨⟨cls, dd, data, sls⟩, n, ho, hc, hdn, hdt⟩, hlen⟩ := I.list hs
  simp only at hc hdt
  subst hc hdt
  obtain ⟨as, h4⟩ := Dp.readsAll I ds _ its ha rv
  have hn : its.length = ds.length := SeqAt.ReadsAll.length ds its as h4
  have hmap : its.map (SeqAt.readOf s.heap) = ds := SeqAt.readsAll_map ds its as hxs h4
  have hvl := rv.length
  have hsl := sizeLine_eq
  obtain ⟨hjd, _⟩ := List.getElem?_eq_some_iff.mp hz
  have hjl : j < its.length := by omega
  have hj : j < its.toArray.size := by simpa using hjl
  have at_ : ∀ (m : Nat) (hm : m < its.toArray.size) (z' : PyData), ds[m]? = some z' → SeqAt.readOf s.heap its.toArray[m] = z' := by
    intro m hm z' hz'
    have hml : m < its.length := by simpa using hm
    rw [← hmap, List.getElem?_map, List.getElem?_eq_getElem hml] at hz'
    have e1 : SeqAt.readOf s.heap its[m] = z' := Option.some.inj (show some (SeqAt.readOf s.heap its[m]) = some z' from hz')
    simpa using e1
  refine call_meets PySem.F.slot_list_index ⟨_, ho, rfl⟩ PySem.F.entry_list_index (PySem.F.args_list_index_2 _ _)
    (SeqAt.list_indexAt a its.toArray n dd sls u (fun u => PyData.eqv (SeqAt.readOf s.heap u) d) j hj (by omega) ?_ ?_) ⟨ho, SeqAt.items_eqAt (vs := its.toArray) (show ReadsAll s.heap its.toArray.toList ds as from h4) r1 hxs hd hroom, ?_⟩
  · show PyData.eqv (SeqAt.readOf s.heap its.toArray[j]) d = true
    rw [at_ j hj z hz]
    exact hzj
  · intro m hm hmj
    have hmd : m < ds.length := by omega
    have hz' : ds[m]? = some ds[m] := List.getElem?_eq_getElem hmd
    show PyData.eqv (SeqAt.readOf s.heap its.toArray[m]) d = false
    rw [at_ m hm _ hz']
    exact hno m _ hmj hz'
  · exact ⟨.int (j : Nat), H, I.tok _, ⟨_, rfl⟩, q⟩
theorem mr_index (hw : w.K = X.K) (hu : X.A.units + 160 < cLine) : MtR X "list.index" (rMtG w .index) := by
  intro pins s' σ' H x vs v us Q I rx rv ⟨W, σ, H0, H1, G, m, s, t, ts, r, g, xt, xs, h⟩
  cases xs with
  | nil => exact (show False from h).elim
  | cons x1 xn =>
  cases xn with
  | cons _ _ => exact (show False from h).elim
  | nil =>
  dsimp only [opMt] at h
  split at h <;> try exact h.elim
  rename_i zs d hz hd
  split at h <;> try exact h.elim
  rename_i ds hds
  split at h <;> try exact h.elim
  rename_i hs
  split at h <;> try exact h.elim
  rename_i k hk
  obtain ⟨p, ws, e1, q1, l1, z1⟩ := lst_of r xt hz
  obtain ⟨p1, c1⟩ := dpT_of r x1 hd
  obtain ⟨p2, c2⟩ := dp_ofs z1 hds
  subst e1
  cases rx
  obtain ⟨u, rfl, ru⟩ := vals1 rv
  obtain ⟨hlt, hkt, hkf⟩ := List.findIdx?_eq_some_iff_getElem.mp hk
  have room : X.A.units + 1 + min (PyData.depthAll ds) d.depth < cLine := by
    rw [Bool.or_eq_true] at hs
    rcases hs with h | h
    · have h1 := of_decide_eq_true h
      have h2 := Nat.min_le_left (PyData.depthAll ds) d.depth
      omega
    · have h1 := of_decide_eq_true h
      have h2 := Nat.min_le_right (PyData.depthAll ds) d.depth
      omega
  refine index_of I (hw ▸ q1) (hw ▸ p2) (hw ▸ p1) ru c2 c1 room (List.getElem?_eq_getElem hlt) hkt (fun i z' hi hz' => ?_) (h.fin r (.int _))
  have hi2 : i < ds.length := by omega
  rw [List.getElem?_eq_getElem hi2] at hz'
  cases hz'
  simpa using hkf i hi
end
end CE
end CEh
section CEgd
set_option maxRecDepth 100000
set_option maxHeartbeats 2000000
namespace CE
open PySem PySem.Spec PyProof.Rows L2
section
variable {w : Wd} {m : Pl} {s s' : S} {σ : L2.St} {H : Hp}
theorem RKVs.len : ∀ {as : List (A × A)} {vs : List (Key × V)}, RKVs w m H as vs → as.length = vs.length
  | _, _, .nil => rfl
  | _, _, .cons _ _ h => congrArg Nat.succ h.len
theorem RKVs.app : ∀ {as bs : List (A × A)} {vs us : List (Key × V)}, RKVs w m H as vs → RKVs w m H bs us → RKVs w m H (as ++ bs) (vs ++ us)
  | _, _, _, _, .nil, h => h
  | _, _, _, _, .cons a b t, h => .cons a b (t.app h)
theorem RKVs.any {k : A} {q : Key} (hk : RKey k q) : ∀ {as : List (A × A)} {vs : List (Key × V)}, RKVs w m H as vs → as.any (fun p => decide (p.1 = k)) = vs.any (fun p => decide (p.1 = q))
  | _, _, .nil => rfl
  | _, _, .cons h0 h1 h2 => by
    rw [List.any_cons, List.any_cons, h2.any hk]
    congr 1
    exact decide_eq_decide.mpr (h0.eq_iff hk)
theorem RKVs.map {k a : A} {q : Key} {v : V} (hk : RKey k q) (ha : RA w m H a v) : ∀ {as : List (A × A)} {vs : List (Key × V)}, RKVs w m H as vs → RKVs w m H (as.map fun p => if p.1 = k then (p.1, a) else p) (vs.map fun kv => if kv.1 = q then (kv.1, v) else kv)
  | _, _, .nil => .nil
  | _, _, .cons (k := k') (q := q') h0 h1 h2 => by
    rw [List.map_cons, List.map_cons]
    by_cases e : k' = k
    · rw [if_pos e, if_pos ((h0.eq_iff hk).mp e)]
      exact .cons h0 ha (h2.map hk ha)
    · rw [if_neg e, if_neg (fun z => e ((h0.eq_iff hk).mpr z))]
      exact .cons h0 h1 (h2.map hk ha)
theorem RKVs.put {k a : A} {q : Key} {v : V} (hk : RKey k q) (ha : RA w m H a v) {as : List (A × A)} {vs : List (Key × V)} (h : RKVs w m H as vs) : RKVs w m H (putA as k a) (putK vs q v) := by
  unfold putA putK
  rw [h.any hk]
  split
  · exact h.map hk ha
  · exact h.app (.cons hk ha .nil)
/-- a dict that may be changed: where it stands, and what it is to change it -/
theorem setD_of {H0 : Hp} {t : T} {v : V} {xs xs' : List (A × A)} (r : Rel w m s σ H) (x : RT w σ H0 m s H t v) (e : dctOf s t = some xs) (e2 : setD s t xs' = some s') :
    ∃ p vs, v = .ref p ∧ H p = some (.dK vs) ∧ RKVs w m H xs vs ∧ ∀ vs', RKVs w m H xs' vs' → Rel w m s' σ (upd H p (.dK vs')) ∧ Ext m s σ H m s' σ (upd H p (.dK vs')) ∧ Stb m H m (upd H p (.dK vs')) := by
  cases t with
  | tl ys => cases e2
  | td ys => cases e2
  | sl i =>
    have e2 : (match s.slot i with
      | some (.d true _) => some (s.put i (.d true xs'))
      | _ => none) = some s' := e2
    have e : (match s.slot i with
      | some (.d _ xs) => some xs
      | _ => none) = some xs := e
    cases hc : s.slot i with
    | none => rw [hc] at e; cases e
    | some c =>
      rw [hc] at e e2
      cases c with
      | d b ys =>
        cases b with
        | false => cases e2
        | true =>
          cases e
          cases e2
          obtain ⟨u, e3, p, rfl, vs, h1, h3⟩ := r.slot i _ hc
          have x2 : σ[i]? = some (some v) := x
          rw [x2] at e3
          cases e3
          refine ⟨p, vs, rfl, h1, h3, fun vs' hr => ?_⟩
          have hb : Stb m H m (upd H p (.dK vs')) := stb_own r (.inr ⟨i, x2, _, hc, rfl⟩)
          exact ⟨r.setOwn hc rfl x2 ⟨p, rfl, vs', upd_same, hr.stb hb⟩ rfl, Ext.setOwn hc rfl x2 rfl, hb⟩
      | _ => cases e
  | v a =>
    cases a with
    | ref l =>
      have e2 : (match s.st[l]? with
        | some (.dct _) => some { s with st := s.st.set l (.dct xs') }
        | _ => none) = some s' := e2
      have e : (match s.st[l]? with
        | some (.dct xs) => some xs
        | _ => none) = some xs := e
      cases hc : s.st[l]? with
      | none => rw [hc] at e; cases e
      | some c =>
        rw [hc] at e e2
        cases c with
        | dct ys =>
          cases e
          cases e2
          obtain ⟨q, e3, vs, h1, h3⟩ := r.st l _ hc
          cases x with
          | ref h =>
            rw [h] at e3
            cases e3
            refine ⟨_, vs, rfl, h1, h3, fun vs' hr => ?_⟩
            have hb : Stb m H m (upd H _ (.dK vs')) := stb_own r (.inl ⟨l, h⟩)
            exact ⟨r.setSt hc h ⟨vs', upd_same, hr.stb hb⟩, Ext.setSt h, hb⟩
        | _ => cases e
    | _ => cases e2
end
end CE
end CEgd
section CEi
set_option maxRecDepth 100000
set_option maxHeartbeats 2000000
namespace CE
open PySem PySem.Spec PyProof.Rows L2
/-- an expression is evaluated as f says, as a value and as a test -/
structure Snd (X : Cx) (w : Wd) (W : WX) (e : Expr) (f : S → R T) : Prop where
  pe : PE X e (tE w W f)
  pt : PT X e (tB (tE w W f))
/-- .. whose truth is that of its value -/
theorem Snd.of {X : Cx} {w : Wd} {W : WX} {e : Expr} {f : S → R T} (h : PE X e (tE w W f)) (he : ∀ whole, isTrue e X.env whole = (do let v ← whole; standAt e.pos; holding [v] (truthy v))) : Snd X w W e f := ⟨h, pt_val h he⟩
section
variable {X : Cx} {w : Wd} {W : WX} {σ : L2.St} {H : Hp}
theorem snd_non {j pos} : Snd X w W (.Constant .none j pos) (fun s => .ok (.v .non) s) := .of (pe_non.imp fun σ H Q ⟨m, s, r, h⟩ => h.fin r .non) (by intro _; rfl)
theorem snd_bl {b j pos} : Snd X w W (.Constant (.bool b) j pos) (fun s => .ok (.v (.bl b)) s) := .of (pe_bl.imp fun σ H Q ⟨m, s, r, h⟩ => h.fin r (.bl b)) (by intro _; rfl)
theorem snd_int {b j pos} : Snd X w W (.Constant (.int b) j pos) (fun s => .ok (.v (.int b)) s) := .of (pe_int.imp fun σ H Q ⟨m, s, r, h⟩ => h.fin r (.int b)) (by intro _; rfl)
theorem snd_str {b j pos} (h1 : PyData.strOk b = true) (h2 : b.length ≤ Lim) : Snd X w W (.Constant (.str b) j pos) (fun s => .ok (.v (.str b)) s) := .of (pe_str.imp fun σ H Q ⟨m, s, r, h⟩ => h.fin r (.str b h1 h2)) (by intro _; rfl)
theorem snd_var {i : Nat} {x : Str} {pos : Pos} (hN : X.N[i]? = some x) (hv : Vis X.env.scope x) (hd : (x == ("__debug__" : Str)) = false) (hcd : (x == ("__classdict__" : Str)) = false) {f : S → R T}
    (hf : ∀ s, f s = match s.slot i with
    | some (.v a) => .ok (.v a) s
    | some (.l _ _) => .ok (.sl i) s
    | some (.d _ _) => .ok (.sl i) s
    | _ => .stuck) : Snd X w W (.Name x pos) f := by
  refine .of ((pe_var hN hv hd hcd).imp fun σ H Q ⟨m, s, r, h⟩ => ?_) (by intro _; rfl)
  rw [hf s] at h
  cases hc : s.slot i with
  | none => rw [hc] at h; exact h.elim
  | some c =>
    rw [hc] at h
    obtain ⟨v, e, z⟩ := r.slot i c hc
    cases c with
    | v a => exact ⟨v, e, h.fin r z⟩
    | l o xs => exact ⟨v, e, h.fin r (show RT w σ H m s H (.sl i) v from e)⟩
    | d o xs => exact ⟨v, e, h.fin r (show RT w σ H m s H (.sl i) v from e)⟩
    | x c fs => exact h.elim
/-- a name of the module -/
theorem snd_glo {x : Str} {v : V} {u : Value} {pos : Pos} {a : A} (hg : Gl X x) (hm : X.mg x = some u) (rv : RelV v u) (ha : ∀ m H, RA w m H a v) (hd : (x == ("__debug__" : Str)) = false) : Snd X w W (.Name x pos) (fun s => .ok (.v a) s) :=
  .of ((pe_glob hg hm rv hd).imp fun σ H Q ⟨m, s, r, h⟩ => h.fin r (ha m H)) (by intro _; rfl)
theorem tE_op {fa fb : S → R T} {f : T → T → S → R T} {Q : VK} (h : tE w W (fun s => (fa s).bind fun x s1 => (fb s1).bind fun y s2 => f x y s2) σ H Q) : tOp (rOpG w f) (tE w W fa) (tE w W fb) σ H Q := by
  obtain ⟨m, s, r, h⟩ := h
  refine ⟨m, s, r, (Pst.bind (rr := rT w) h).mono fun v H1 ⟨x, s1, m1, _, r1, e1, x1, h1⟩ => ⟨m1, s1, r1, (Pst.bind (rr := rT w) h1).mono fun u H2 ⟨y, s2, m2, _, r2, e2, x2, h2⟩ => ?_⟩⟩
  exact ⟨W, σ, H, H1, H, m2, s2, x, y, r2, (e1.trans e2).gone, x1.ext r1 e2, x2, h2⟩
theorem snd_bin {op : Operator} {o : BinO} {a b : Expr} {pos : Pos} {fa fb : S → R T} (ho : OpR X (binaryOp op) (rOpG w (opBin o))) (ha : Snd X w W a fa) (hb : Snd X w W b fb) :
    Snd X w W (.BinOp a op b pos) (fun s => (fa s).bind fun x s1 => (fb s1).bind fun y s2 => opBin o x y s2) :=
  .of ((pe_op ho ha.pe hb.pe).imp fun σ H Q h => tE_op h) (by intro _; rfl)
theorem snd_neg {a : Expr} {pos : Pos} {fa : S → R T} (ha : Snd X w W a fa) :
    Snd X w W (.UnaryOp .USub a pos) (fun s => (fa s).bind fun x s1 => match asInt x with
    | some i => .ok (.v (.int (-i))) s1
    | none => .stuck) := by
  refine .of ((pe_un un_neg ha.pe).imp fun σ H Q ⟨m, s, r, h⟩ => ⟨m, s, r, (Pst.bind (rr := rT w) h).mono fun v H1 ⟨x, s1, m1, _, r1, e1, x1, h1⟩ => ?_⟩) (by intro _; rfl)
  split at h1
  · rename_i i hi
    exact ⟨i, int_of x1 hi, h1.fin r1 (.int _)⟩
  · exact h1.elim
theorem tE_cmp {o : CmpO} {fa fb : S → R T} {Q : VK} (h : tE w W (fun s => (fa s).bind fun x s1 => (fb s1).bind fun y s2 => match opCmp o x y s2 with
    | some k => .ok (.v (.bl k)) s2
    | none => .stuck) σ H Q) : tOp (rCmpG w o) (tE w W fa) (tE w W fb) σ H Q := by
  obtain ⟨m, s, r, h⟩ := h
  refine ⟨m, s, r, (Pst.bind (rr := rT w) h).mono fun v H1 ⟨x, s1, m1, _, r1, e1, x1, h1⟩ => ⟨m1, s1, r1, (Pst.bind (rr := rT w) h1).mono fun u H2 ⟨y, s2, m2, _, r2, e2, x2, h2⟩ => ?_⟩⟩
  split at h2
  · rename_i k hk
    exact ⟨σ, H, H1, m2, s2, x, y, k, r2, x1.ext r1 e2, x2, hk, h2.fin r2 (.bl k)⟩
  · exact h2.elim
theorem snd_cmp {op : CmpOp} {o : CmpO} {a b : Expr} {pos : Pos} {fa fb : S → R T} (ho : OpR X (compareOp op) (rCmpG w o)) (ha : Snd X w W a fa) (hb : Snd X w W b fb) (hm : behindInMarks op b = false) :
    Snd X w W (.Compare a [op] [b] pos) (fun s => (fa s).bind fun x s1 => (fb s1).bind fun y s2 => match opCmp o x y s2 with
    | some k => .ok (.v (.bl k)) s2
    | none => .stuck) :=
  ⟨(pe_cmpR ho ha.pe hb.pe hm).imp fun σ H Q h => tE_cmp h, (pt_cmpR ho ha.pe hb.pe hm).imp fun σ H Q h => tE_cmp h⟩
theorem tE_cmp2 {o p : CmpO} {fa fb fc : S → R T} {Q : VK} (h : tE w W (fun s => (fa s).bind fun x s1 => (fb s1).bind fun y s2 => match opCmp o x y s2 with
    | some true => (fc s2).bind fun z s3 => match opCmp p y z s3 with
      | some k => .ok (.v (.bl k)) s3
      | none => .stuck
    | some false => .ok (.v (.bl false)) s2
    | none => .stuck) σ H Q) : tChain (rCmpG w o) (rCmpG w p) (tE w W fa) (tE w W fb) (tE w W fc) σ H Q := by
  obtain ⟨m, s, r, h⟩ := h
  refine ⟨m, s, r, (Pst.bind (rr := rT w) h).mono fun v H1 ⟨x, s1, m1, _, r1, e1, x1, h1⟩ => ⟨m1, s1, r1, (Pst.bind (rr := rT w) h1).mono fun u H2 ⟨y, s2, m2, _, r2, e2, x2, h2⟩ => ?_⟩⟩
  split at h2
  · rename_i hk
    refine ⟨σ, H, H1, m2, s2, x, y, true, r2, x1.ext r1 e2, x2, hk, true, rfl, ?_⟩
    rw [if_pos rfl]
    refine ⟨m2, s2, r2, (Pst.bind (rr := rT w) h2).mono fun u3 H3 ⟨z, s3, m3, _, r3, e3, x3, h3⟩ => ?_⟩
    split at h3
    · rename_i k hk3
      exact ⟨σ, H1, H2, m3, s3, y, z, k, r3, x2.ext r2 e3, x3, hk3, h3.fin r3 (.bl k)⟩
    · exact h3.elim
  · rename_i hk
    refine ⟨σ, H, H1, m2, s2, x, y, false, r2, x1.ext r1 e2, x2, hk, false, rfl, ?_⟩
    rw [if_neg Bool.false_ne_true]
    exact h2.fin r2 (.bl false)
  · exact h2.elim
theorem snd_cmp2 {op op' : CmpOp} {o p : CmpO} {a b c : Expr} {pos : Pos} {fa fb fc : S → R T} (ho : OpR X (compareOp op) (rCmpG w o)) (hp : OpR X (compareOp op') (rCmpG w p)) (ha : Snd X w W a fa) (hb : Snd X w W b fb) (hc : Snd X w W c fc) (hm : lastMarks [op, op'] [b, c] = false) :
    Snd X w W (.Compare a [op, op'] [b, c] pos) (fun s => (fa s).bind fun x s1 => (fb s1).bind fun y s2 => match opCmp o x y s2 with
    | some true => (fc s2).bind fun z s3 => match opCmp p y z s3 with
      | some k => .ok (.v (.bl k)) s3
      | none => .stuck
    | some false => .ok (.v (.bl false)) s2
    | none => .stuck) :=
  ⟨(pe_chain ho hp ha.pe hb.pe hc.pe hm).imp fun σ H Q h => tE_cmp2 h, (pt_chain ho hp ha.pe hb.pe hc.pe hm).imp fun σ H Q h => tE_cmp2 h⟩
theorem snd_not {a : Expr} {pos : Pos} {fa : S → R T} (ha : Snd X w W a fa) :
    Snd X w W (.UnaryOp .Not a pos) (fun s => (fa s).bind fun x s1 => match asBl x with
    | some k => .ok (.v (.bl (!k))) s1
    | none => .stuck) := by
  refine ⟨(pe_not ha.pe).imp fun σ H Q ⟨m, s, r, h⟩ => ⟨m, s, r, (Pst.bind (rr := rT w) h).mono fun v H1 ⟨x, s1, m1, _, r1, e1, x1, h1⟩ => ?_⟩, (pt_not ha.pt).imp fun σ H Q ⟨m, s, r, h⟩ => ⟨m, s, r, (Pst.bind (rr := rT w) h).mono fun v H1 ⟨x, s1, m1, _, r1, e1, x1, h1⟩ => ?_⟩⟩
  · split at h1
    · rename_i k hk
      exact ⟨k, bl_of x1 hk, h1.fin r1 (.bl _)⟩
    · exact h1.elim
  · split at h1
    · rename_i k hk
      obtain ⟨c, e, q⟩ := h1.fin r1 (.bl (!k))
      cases e
      exact ⟨k, bl_of x1 hk, q⟩
    · exact h1.elim
structure SndB (X : Cx) (w : Wd) (W : WX) (e : Expr) (f : S → R T) : Prop where
  pe : PE X e (tE w W f)
  pw : PW X e (tB (tE w W f))
theorem SndB.snd {e : Expr} {f : S → R T} (h : SndB X w W e f) : Snd X w W e f := ⟨h.pe, h.pw.pt⟩
theorem snd_and1 {a : Expr} {pos : Pos} {fa : S → R T} (ha : Snd X w W a fa) : SndB X w W (.BoolOp .And [a] pos) fa := ⟨pe_one ha.pe, pw_and1 ha.pt⟩
theorem snd_or1 {a : Expr} {pos : Pos} {fa : S → R T} (ha : Snd X w W a fa) : SndB X w W (.BoolOp .Or [a] pos) fa := ⟨pe_one ha.pe, pw_or1 ha.pt⟩
theorem snd_and {a b : Expr} {rest : List Expr} {pos : Pos} {fa fb : S → R T} (ha : Snd X w W a fa) (hb : SndB X w W (.BoolOp .And (b :: rest) pos) fb) :
    SndB X w W (.BoolOp .And (a :: b :: rest) pos) (fun s => (fa s).bind fun x s1 => match asBl x with
    | some true => fb s1
    | some false => .ok (.v (.bl false)) s1
    | none => .stuck) := by
  refine ⟨(pe_and ha.pe hb.pe).imp fun σ H Q ⟨m, s, r, h⟩ => ⟨m, s, r, (Pst.bind (rr := rT w) h).mono fun v H1 ⟨x, s1, m1, _, r1, e1, x1, h1⟩ => ?_⟩, (pw_and ha.pt hb.pw).imp fun σ H Q ⟨m, s, r, h⟩ => ⟨m, s, r, (Pst.bind (rr := rT w) h).mono fun v H1 ⟨x, s1, m1, _, r1, e1, x1, h1⟩ => ?_⟩⟩
  · split at h1
    · rename_i hk
      exact ⟨true, bl_of x1 hk, iteT ⟨m1, s1, r1, h1.back e1.gone⟩⟩
    · rename_i hk
      exact ⟨false, bl_of x1 hk, iteF (h1.fin r1 (.bl false))⟩
    · exact h1.elim
  · split at h1
    · rename_i hk
      exact ⟨true, bl_of x1 hk, iteT ⟨m1, s1, r1, h1.back e1.gone⟩⟩
    · rename_i hk
      refine ⟨false, bl_of x1 hk, iteF ?_⟩
      obtain ⟨c, e, q⟩ := h1.fin r1 (.bl false)
      cases e
      exact q
    · exact h1.elim
theorem snd_or {a b : Expr} {rest : List Expr} {pos : Pos} {fa fb : S → R T} (ha : Snd X w W a fa) (hb : SndB X w W (.BoolOp .Or (b :: rest) pos) fb) :
    SndB X w W (.BoolOp .Or (a :: b :: rest) pos) (fun s => (fa s).bind fun x s1 => match asBl x with
    | some true => .ok (.v (.bl true)) s1
    | some false => fb s1
    | none => .stuck) := by
  refine ⟨(pe_or ha.pe hb.pe).imp fun σ H Q ⟨m, s, r, h⟩ => ⟨m, s, r, (Pst.bind (rr := rT w) h).mono fun v H1 ⟨x, s1, m1, _, r1, e1, x1, h1⟩ => ?_⟩, (pw_or ha.pt hb.pw).imp fun σ H Q ⟨m, s, r, h⟩ => ⟨m, s, r, (Pst.bind (rr := rT w) h).mono fun v H1 ⟨x, s1, m1, _, r1, e1, x1, h1⟩ => ?_⟩⟩
  · split at h1
    · rename_i hk
      exact ⟨true, bl_of x1 hk, iteT (h1.fin r1 (.bl true))⟩
    · rename_i hk
      exact ⟨false, bl_of x1 hk, iteF ⟨m1, s1, r1, h1.back e1.gone⟩⟩
    · exact h1.elim
  · split at h1
    · rename_i hk
      refine ⟨true, bl_of x1 hk, iteT ?_⟩
      obtain ⟨c, e, q⟩ := h1.fin r1 (.bl true)
      cases e
      exact q
    · rename_i hk
      exact ⟨false, bl_of x1 hk, iteF ⟨m1, s1, r1, h1.back e1.gone⟩⟩
    · exact h1.elim
theorem pt_ifE {c a b : Expr} {pos : Pos} {tA ta tb : TT} (hc : PT X c tA) (ha : PT X a ta) (hb : PT X b tb) : PT X (.IfExp c a b pos) (fun σ H Q => tA σ H fun k H1 => if k = true then ta σ H1 Q else tb σ H1 Q) := by
  refine ⟨fun pins s σ H Q I h => ?_⟩
  show wpAny _ _ (do if ← isTrue c X.env (eval c X.env) then isTrue a X.env (eval a X.env) else isTrue b X.env (eval b X.env)) _ _ _
  refine wpAny_bind (thn (hc.run pins s σ H _ I h) fun k s1 ⟨H1, I1, q1⟩ => ?_)
  cases k with
  | true => exact ha.run pins s1 σ H1 Q I1 q1
  | false => exact hb.run pins s1 σ H1 Q I1 q1
theorem snd_ite {c a b : Expr} {pos : Pos} {fc fa fb : S → R T} (hc : Snd X w W c fc) (ha : Snd X w W a fa) (hb : Snd X w W b fb) :
    Snd X w W (.IfExp c a b pos) (fun s => (fc s).bind fun x s1 => match asBl x with
    | some true => fa s1
    | some false => fb s1
    | none => .stuck) := by
  refine ⟨(pe_ifExp hc.pt ha.pe hb.pe).imp fun σ H Q ⟨m, s, r, h⟩ => ⟨m, s, r, (Pst.bind (rr := rT w) h).mono fun v H1 ⟨x, s1, m1, _, r1, e1, x1, h1⟩ => ?_⟩, (pt_ifE hc.pt ha.pt hb.pt).imp fun σ H Q ⟨m, s, r, h⟩ => ⟨m, s, r, (Pst.bind (rr := rT w) h).mono fun v H1 ⟨x, s1, m1, _, r1, e1, x1, h1⟩ => ?_⟩⟩
  all_goals
    split at h1
    · rename_i hk
      exact ⟨true, bl_of x1 hk, iteT ⟨m1, s1, r1, h1.back e1.gone⟩⟩
    · rename_i hk
      exact ⟨false, bl_of x1 hk, iteF ⟨m1, s1, r1, h1.back e1.gone⟩⟩
    · exact h1.elim
theorem snd_idx (hw : w.K = X.K) (hu : X.A.units + 160 < cLine) {a b : Expr} {pos : Pos} {fa fb : S → R T} (ha : Snd X w W a fa) (hb : Snd X w W b fb) (hs : PlainIx b) :
    Snd X w W (.Subscript a b pos) (fun s => (fa s).bind fun x s1 => (fb s1).bind fun y s2 => opIdx x y s2) :=
  .of ((pe_ix (or_idx hw hu) ha.pe hb.pe hs).imp fun σ H Q h => tE_op h) (by intro _; rfl)
structure SndO (X : Cx) (w : Wd) (W : WX) (e : Option Expr) (f : S → R (Option Int)) : Prop where
  po : PO X e (tO w W f)
theorem snd_ono : SndO X w W none (fun s => .ok none s) := by
  refine ⟨⟨fun pins s σ H Q I h => ?_⟩⟩
  obtain ⟨m, s', r, h⟩ := h
  exact po_none.run pins s σ H Q I (h.fin r rfl)
theorem snd_oso {e : Expr} {f : S → R T} (h : Snd X w W e f) : SndO X w W (some e) (fun s => (f s).bind fun t s1 => match asInt t with
    | some i => .ok (some i) s1
    | none => .stuck) := by
  refine ⟨⟨fun pins s σ H Q I ⟨m, s', r, h'⟩ => (po_some h.pe).run pins s σ H Q I ⟨m, s', r, (Pst.bind (rr := rT w) h').mono fun v H1 ⟨x, s1, m1, _, r1, e1, x1, h1⟩ => ?_⟩⟩⟩
  split at h1
  · rename_i i hi
    exact ⟨i, int_of x1 hi, h1.fin r1 rfl⟩
  · exact h1.elim
theorem snd_slc (hw : w.K = X.K) {a : Expr} {lo hi : Option Expr} {pos p2 : Pos} {fa : S → R T} {fl fh : S → R (Option Int)} (ha : Snd X w W a fa) (hl : SndO X w W lo fl) (hh : SndO X w W hi fh) :
    Snd X w W (.Subscript a (.Slice lo hi none p2) pos) (fun s => (fa s).bind fun x s1 => (fl s1).bind fun l s2 => (fh s2).bind fun u s3 => opSlc x l u s3) := by
  refine .of ((pe_slice (or_slc hw) ha.pe hl.po hh.po).imp fun σ H Q ⟨m, s, r, h⟩ => ⟨m, s, r, (Pst.bind (rr := rT w) h).mono fun v H1 ⟨x, s1, m1, _, r1, e1, x1, h1⟩ => ?_⟩) (by intro _; rfl)
  refine ⟨m1, s1, r1, (Pst.bind (rr := rEq) h1).mono fun l H2 ⟨l', s2, m2, _, r2, e2, x2, h2⟩ => ?_⟩
  refine ⟨m2, s2, r2, (Pst.bind (rr := rEq) h2).mono fun u H3 ⟨u', s3, m3, _, r3, e3, x3, h3⟩ => ?_⟩
  cases x2
  cases x3
  exact ⟨W, σ, H, H, m3, s3, x, r3, ((e1.trans e2).trans e3).gone, (x1.ext r1 e2).ext r2 e3, h3⟩
structure SndA (X : Cx) (w : Wd) (W : WX) (es : List Expr) (f : S → R (List T)) : Prop where
  pa : PA X es (tA w W f)
theorem snd_anil : SndA X w W [] (fun s => .ok [] s) := ⟨pa_nil.imp fun σ H Q ⟨m, s, r, h⟩ => h.fin r .nil⟩
theorem snd_acons {e : Expr} {es : List Expr} {f : S → R T} {fs : S → R (List T)} (h : Snd X w W e f) (hs : SndA X w W es fs) (he : starEach (e :: es) X.env = (false, eval e X.env) :: starEach es X.env) :
    SndA X w W (e :: es) (fun s => (f s).bind fun t s1 => (fs s1).bind fun ts s2 => .ok (t :: ts) s2) := by
  refine ⟨(pa_cons h.pe hs.pa he).imp fun σ H Q ⟨m, s, r, h⟩ => ⟨m, s, r, (Pst.bind (rr := rT w) h).mono fun v H1 ⟨x, s1, m1, _, r1, e1, x1, h1⟩ => ⟨m1, s1, r1, (Pst.bind (rr := rTs w) h1).mono fun vs H2 ⟨xs, s2, m2, _, r2, e2, x2, h2⟩ => ?_⟩⟩⟩
  exact h2.fin r2 (.cons (x1.ext r1 e2) (x2.back e1.gone))
end
end CE
end CEi
section CEj
set_option maxRecDepth 100000
set_option maxHeartbeats 2000000
namespace CE
open PySem PySem.Spec PyProof.Rows L2
def notStar : Expr → Bool
  | .Starred _ _ => false
  | _ => true
theorem star_cons {e : Expr} {es : List Expr} {env : Env} (h : notStar e = true) : starEach (e :: es) env = (false, eval e env) :: starEach es env := by
  cases e <;> first | rfl | cases h
theorem star_any {pos : Pos} {env : Env} : ∀ {es : List Expr}, es.all notStar = true → (backTo pos (starEach es env)).any (·.1) = false
  | [], _ => rfl
  | e :: es, h => by
    simp only [List.all_cons, Bool.and_eq_true] at h
    rw [star_cons h.1]
    exact star_any (es := es) h.2
theorem star_all {pos : Pos} {env : Env} : ∀ {es : List Expr}, es.all notStar = true → (backTo pos (starEach es env)).all (fun x => !x.1) = true
  | [], _ => rfl
  | e :: es, h => by
    simp only [List.all_cons, Bool.and_eq_true] at h
    rw [star_cons h.1]
    exact star_all (es := es) h.2
/-- no call without arguments (it might be super()) -/
def baseOk : Expr → Bool
  | .Call _ [] [] _ => false
  | _ => true
theorem base_of {o : Expr} {f : Str} {env : Env} (h : baseOk o = true) : attributeBase o f env (eval o env) = eval o env := by
  cases o with
  | Call f as ks p => cases as with
    | nil => cases ks with
      | nil => cases h
      | cons k ks => cases f <;> rfl
    | cons a as => cases f <;> cases ks <;> rfl
  | _ => rfl
section
variable {X : Cx} {w : Wd} {W : WX} {σ : L2.St} {H : Hp}
theorem tE_bf {b : BF} {fs : S → R (List T)} {Q : VK} (h : tE w W (fun s => (fs s).bind fun ts s1 => opBf b ts s1) σ H Q) : tCB (rBfG w b) (tA w W fs) σ H Q := by
  obtain ⟨m, s, r, h⟩ := h
  refine ⟨m, s, r, (Pst.bind (rr := rTs w) h).mono fun vs H1 ⟨ts, s1, m1, _, r1, e1, x1, h1⟩ => ?_⟩
  exact ⟨W, σ, H, H, m1, s1, ts, r1, e1.gone, x1, h1⟩
theorem snd_bfB {b : BF} {id : String} {x : Str} {p pos : Pos} {e : Expr} {es : List Expr} {fs : S → R (List T)} (hc : CallR X (.builtin id) (rBfG w b)) (hg : Gl X x) (hm : X.mg x = none) (hv : bootBuiltins x = some (.builtin id)) (ha : SndA X w W (e :: es) fs)
    (hst : (e :: es).all notStar = true) (hn : x ≠ "__name__") (hdb : (x == ("__debug__" : Str)) = false) : Snd X w W (.Call (.Name x p) (e :: es) [] pos) (fun s => (fs s).bind fun ts s1 => opBf b ts s1) := by
  have hst2 := hst
  simp only [List.all_cons, Bool.and_eq_true] at hst2
  exact .of ((pe_callB hc hg hm hv ha.pa hn hdb (star_cons hst2.1) (star_any hst2.2)).imp fun σ H Q h => tE_bf h) (by intro _; rfl)
theorem snd_bfT {b : BF} {id : String} {x : Str} {p pos : Pos} {e : Expr} {es : List Expr} {fs : S → R (List T)} (hc : CallR X (.type id) (rBfG w b)) (hg : Gl X x) (hm : X.mg x = none) (hv : bootBuiltins x = some (.type id)) (ha : SndA X w W (e :: es) fs)
    (hst : (e :: es).all notStar = true) (hn : x ≠ "__name__") (hdb : (x == ("__debug__" : Str)) = false) : Snd X w W (.Call (.Name x p) (e :: es) [] pos) (fun s => (fs s).bind fun ts s1 => opBf b ts s1) := by
  have hst2 := hst
  simp only [List.all_cons, Bool.and_eq_true] at hst2
  exact .of ((pe_callTy hc hg hm hv ha.pa hn hdb (star_cons hst2.1) (star_any hst2.2)).imp fun σ H Q h => tE_bf h) (by intro _; rfl)
/-- the name of a built-in -/
def bfName : BF → Str
  | .len => "len"
  | .int => "int"
  | .str => "str"
  | .list => "list"
  | .tuple => "tuple"
  | .all => "all"
  | .any => "any"
  | .sum => "sum"
  | .min2 => "min"
  | .max2 => "max"
  | .sorted => "sorted"
theorem snd_bf {b : BF} {x : Str} {p pos : Pos} {e : Expr} {es : List Expr} {fs : S → R (List T)} (hw : w.K = X.K) (hc : X.calm = true) (hx : x = bfName b) (hg : Gl X x) (hm : X.mg x = none) (ha : SndA X w W (e :: es) fs) (hst : (e :: es).all notStar = true) :
    Snd X w W (.Call (.Name x p) (e :: es) [] pos) (fun s => (fs s).bind fun ts s1 => opBf b ts s1) := by
  subst hx
  cases b with
  | len => exact snd_bfB (br_len hw) hg hm (by decide +kernel) ha hst (by decide +kernel) (by decide +kernel)
  | int => exact snd_bfT br_int hg hm (by decide +kernel) ha hst (by decide +kernel) (by decide +kernel)
  | str => exact snd_bfT br_str hg hm (by decide +kernel) ha hst (by decide +kernel) (by decide +kernel)
  | list => exact snd_bfT (br_list hw) hg hm (by decide +kernel) ha hst (by decide +kernel) (by decide +kernel)
  | tuple => exact snd_bfT (br_tuple hw) hg hm (by decide +kernel) ha hst (by decide +kernel) (by decide +kernel)
  | all => exact snd_bfB (br_all hw hc) hg hm (by decide +kernel) ha hst (by decide +kernel) (by decide +kernel)
  | any => exact snd_bfB (br_any hw hc) hg hm (by decide +kernel) ha hst (by decide +kernel) (by decide +kernel)
  | sum => exact snd_bfB (br_sum hw hc) hg hm (by decide +kernel) ha hst (by decide +kernel) (by decide +kernel)
  | min2 => exact snd_bfB (br_min2 hc) hg hm (by decide +kernel) ha hst (by decide +kernel) (by decide +kernel)
  | max2 => exact snd_bfB (br_max2 hc) hg hm (by decide +kernel) ha hst (by decide +kernel) (by decide +kernel)
  | sorted => exact snd_bfB (br_sorted hw) hg hm (by decide +kernel) ha hst (by decide +kernel) (by decide +kernel)
theorem tyV_list {H0 : Hp} {m : Pl} {s : S} {t : T} {v : V} {xs : List A} (hw : w.K = X.K) (r : Rel w m s σ H) (x : RT w σ H0 m s H t v) (e : lstOf s t = some xs) : tyV X.K "list" v H := by
  obtain ⟨q, vs, rfl, a, _, _⟩ := lst_of r x e
  exact .inl ⟨rfl, vs, hw ▸ a⟩
theorem tE_mt {mt : MT} {fo : S → R T} {fs : S → R (List T)} {Q : VK} (hw : w.K = X.K) (hk : ∀ s x, rcvOk mt s x = true → ∃ xs, lstOf s x = some xs) (h : tE w W (fun s => (fo s).bind fun x s1 => if rcvOk mt s1 x then (fs s1).bind fun ts s2 => opMt mt x ts s2 else .stuck) σ H Q) :
    tBM X.K "list" (rMtG w mt) (tE w W fo) (tA w W fs) σ H Q := by
  obtain ⟨m, s, r, h⟩ := h
  refine ⟨m, s, r, (Pst.bind (rr := rT w) h).mono fun v H1 ⟨x, s1, m1, _, r1, e1, x1, h1⟩ => ?_⟩
  split at h1
  · rename_i hr
    obtain ⟨xs, hx⟩ := hk _ _ hr
    refine ⟨tyV_list hw r1 x1 hx, m1, s1, r1, (Pst.bind (rr := rTs w) h1).mono fun vs H2 ⟨ts, s2, m2, _, r2, e2, x2, h2⟩ => ?_⟩
    exact ⟨W, σ, H, H1, H, m2, s2, x, ts, r2, (e1.trans e2).gone, x1.ext r1 e2, x2, h2⟩
  · exact h1.elim
theorem tE_mt0 {mt : MT} {fo : S → R T} {Q : VK} (hw : w.K = X.K) (hk : ∀ s x, rcvOk mt s x = true → ∃ xs, lstOf s x = some xs) (h : tE w W (fun s => (fo s).bind fun x s1 => if rcvOk mt s1 x then (R.ok [] s1).bind fun ts s2 => opMt mt x ts s2 else .stuck) σ H Q) :
    tBM0 X.K "list" (rMtG w mt) (tE w W fo) σ H Q := by
  obtain ⟨m, s, r, h⟩ := h
  refine ⟨m, s, r, (Pst.bind (rr := rT w) h).mono fun v H1 ⟨x, s1, m1, _, r1, e1, x1, h1⟩ => ?_⟩
  split at h1
  · rename_i hr
    obtain ⟨xs, hx⟩ := hk _ _ hr
    exact ⟨tyV_list hw r1 x1 hx, W, σ, H, H1, H, m1, s1, x, [], r1, e1.gone, x1, .nil, h1⟩
  · exact h1.elim
def mtName : MT → Str
  | .append => "append"
  | .pop => "pop"
  | .popat => "pop"
  | .extend => "extend"
  | .index => "index"
  | .get => "get"
  | .get2 => "get"
  | .setd => "setdefault"
def mtArgs : MT → Bool
  | .pop => false
  | _ => true
/-- a method of lists, with arguments -/
theorem snd_mtL {mt : MT} {x : Str} {id : String} {o e : Expr} {es : List Expr} {apos cpos : Pos} {fo : S → R T} {fs : S → R (List T)} (hw : w.K = X.K) (slot : Slot "list" x id) (hty : typeOf (.builtin id) = pure (.type "method_descriptor"))
    (hm : MtR X id (rMtG w mt)) (hk : ∀ s x, rcvOk mt s x = true → ∃ xs, lstOf s x = some xs) (ho : Snd X w W o fo) (ha : SndA X w W (e :: es) fs) (hb : baseOk o = true) (hl : (apos.endLine == cpos.line) = true) (hst : (e :: es).all notStar = true) (hn : (e :: es).length < 30) :
    Snd X w W (.Call (.Attribute o x apos) (e :: es) [] cpos) (fun s => (fo s).bind fun x s1 => if rcvOk mt s1 x then (fs s1).bind fun ts s2 => opMt mt x ts s2 else .stuck) := by
  have hst2 := hst
  simp only [List.all_cons, Bool.and_eq_true] at hst2
  refine .of ((pe_bm PySem.F.plainAttrs_list slot hty hm ho.pe ha.pa (base_of hb) ?_ hl (star_cons hst2.1) (star_any hst2.2)).imp fun σ H Q h => tE_mt hw hk h) (by intro _; rfl)
  rw [star_all hst]
  simp only [List.length_cons, List.length_nil, List.isEmpty_nil, if_true, Bool.true_and, Bool.and_eq_true, decide_eq_true_eq]
  refine ⟨rfl, ?_⟩
  simp only [List.length_cons] at hn
  omega
theorem snd_mtL0 {mt : MT} {x : Str} {id : String} {o : Expr} {apos cpos : Pos} {fo : S → R T} (hw : w.K = X.K) (slot : Slot "list" x id) (hty : typeOf (.builtin id) = pure (.type "method_descriptor"))
    (hm : MtR X id (rMtG w mt)) (hk : ∀ s x, rcvOk mt s x = true → ∃ xs, lstOf s x = some xs) (ho : Snd X w W o fo) (hb : baseOk o = true) (hl : (apos.endLine == cpos.line) = true) :
    Snd X w W (.Call (.Attribute o x apos) [] [] cpos) (fun s => (fo s).bind fun x s1 => if rcvOk mt s1 x then (R.ok [] s1).bind fun ts s2 => opMt mt x ts s2 else .stuck) :=
  .of ((pe_bm0 PySem.F.plainAttrs_list slot hty hm ho.pe (base_of hb) hl).imp fun σ H Q h => tE_mt0 hw hk h) (by intro _; rfl)
/-- the methods of lists -/
def mtL : MT → Bool
  | .get => false
  | .get2 => false
  | .setd => false
  | _ => true
theorem snd_mt {mt : MT} {x : Str} {o e : Expr} {es : List Expr} {apos cpos : Pos} {fo : S → R T} {fs : S → R (List T)} (hw : w.K = X.K) (hu : X.A.units + 160 < cLine) (hx : x = mtName mt) (hml : mtL mt = true) (hma : mtArgs mt = true) (ho : Snd X w W o fo) (ha : SndA X w W (e :: es) fs) (hb : baseOk o = true) (hl : (apos.endLine == cpos.line) = true) (hst : (e :: es).all notStar = true) (hn : (e :: es).length < 30) :
    Snd X w W (.Call (.Attribute o x apos) (e :: es) [] cpos) (fun s => (fo s).bind fun x s1 => if rcvOk mt s1 x then (fs s1).bind fun ts s2 => opMt mt x ts s2 else .stuck) := by
  subst hx
  have hk : ∀ m : MT, mtL m = true → ∀ s x, rcvOk m s x = true → ∃ xs, lstOf s x = some xs := fun m h s x e => by
    cases m <;> first | exact Option.isSome_iff_exists.mp e | cases h
  cases mt with
  | append => exact snd_mtL hw PySem.F.slot_list_append PySem.F.type_list_append mr_append (hk _ hml) ho ha hb hl hst hn
  | extend => exact snd_mtL hw PySem.F.slot_list_extend PySem.F.type_list_extend (mr_extend hw) (hk _ hml) ho ha hb hl hst hn
  | popat => exact snd_mtL hw PySem.F.slot_list_pop PySem.F.type_list_pop mr_popat (hk _ hml) ho ha hb hl hst hn
  | index => exact snd_mtL hw PySem.F.slot_list_index PySem.F.type_list_index (mr_index hw hu) (hk _ hml) ho ha hb hl hst hn
  | _ => first | exact absurd hma Bool.false_ne_true | exact absurd hml Bool.false_ne_true
theorem snd_mt0 {mt : MT} {x : Str} {o : Expr} {apos cpos : Pos} {fo : S → R T} (hw : w.K = X.K) (hx : x = mtName mt) (hma : mtArgs mt = false) (ho : Snd X w W o fo) (hb : baseOk o = true) (hl : (apos.endLine == cpos.line) = true) :
    Snd X w W (.Call (.Attribute o x apos) [] [] cpos) (fun s => (fo s).bind fun x s1 => if rcvOk mt s1 x then (R.ok [] s1).bind fun ts s2 => opMt mt x ts s2 else .stuck) := by
  subst hx
  cases mt with
  | pop => exact snd_mtL0 hw PySem.F.slot_list_pop PySem.F.type_list_pop mr_pop (fun s x e => Option.isSome_iff_exists.mp e) ho hb hl
  | _ => cases hma
theorem snd_dget {o y : Expr} {apos cpos : Pos} {fo fy : S → R T} (hu : X.A.units + 160 < cLine) (ho : Snd X w W o fo) (hy : Snd X w W y fy) (hb : baseOk o = true) (hl : (apos.endLine == cpos.line) = true) (hs : notStar y = true) :
    Snd X w W (.Call (.Attribute o "get" apos) [y] [] cpos) (fun s => (fo s).bind fun x s1 => if (dctOf s1 x).isSome then (fy s1).bind fun y s2 => match dctOf s2 x, asA y with
    | some kvs, some q => if isKeyA q then .ok (.v ((lookA kvs q).getD .non)) s2 else .stuck
    | _, _ => .stuck else .stuck) := by
  have hM : M1 X o "get" apos y cpos := ⟨base_of hb, by rw [star_cons hs] <;> rfl, hl, by rw [star_cons hs] <;> rfl⟩
  refine .of ((pe_dget1 (by omega) ho.pe hy.pe hM).imp fun σ H Q ⟨m, s, r, h⟩ => ⟨m, s, r, (Pst.bind (rr := rT w) h).mono fun v H1 ⟨x, s1, m1, _, r1, e1, x1, h1⟩ => ?_⟩) (by intro _; rfl)
  split at h1
  · rename_i hd
    obtain ⟨kvs0, hk0⟩ := Option.isSome_iff_exists.mp hd
    obtain ⟨p, vs0, rfl, q0, _⟩ := dct_of r1 x1 hk0
    refine ⟨p, rfl, .inl ⟨_, q0⟩, m1, s1, r1, (Pst.bind (rr := rT w) h1).mono fun u H2 ⟨t, s2, m2, _, r2, e2, x2, h2⟩ => ?_⟩
    have x1' := x1.ext r1 e2
    split at h2
    · rename_i kvs q hkv hq
      split at h2
      · rename_i hkq
        obtain ⟨p', vs, ev, hp, hr⟩ := dct_of r2 x1' hkv
        cases ev
        obtain ⟨k, hk, ek⟩ := key_of (a_of x2 hq) hkq
        refine ⟨valV vs k, .inl ⟨vs, k, hp, ek, rfl⟩, ?_⟩
        have z := look_of hk hr
        cases e : lookA kvs q with
        | none =>
          rw [e] at z h2
          cases e3 : valV vs k with
          | none => exact h2.fin r2 .non
          | some v => rw [e3] at z; exact z.elim
        | some a =>
          rw [e] at z h2
          obtain ⟨v, e3, ra⟩ := z.some
          rw [e3]
          exact h2.fin r2 ra
      · exact h2.elim
    · exact h2.elim
  · exact h1.elim
theorem snd_dget2 {o y z : Expr} {apos cpos : Pos} {fo fy fz : S → R T} (hu : X.A.units + 160 < cLine) (ho : Snd X w W o fo) (hy : Snd X w W y fy) (hz : Snd X w W z fz) (hb : baseOk o = true) (hl : (apos.endLine == cpos.line) = true) (hs : notStar y = true) (hs2 : notStar z = true) :
    Snd X w W (.Call (.Attribute o "get" apos) [y, z] [] cpos) (fun s => (fo s).bind fun x s1 => if (dctOf s1 x).isSome then (fy s1).bind fun y s2 => (fz s2).bind fun z s3 => match dctOf s3 x, asA y, asA z with
    | some kvs, some q, some e => if isKeyA q then .ok (.v ((lookA kvs q).getD e)) s3 else .stuck
    | _, _, _ => .stuck else .stuck) := by
  have hM : M2 X o "get" apos y z cpos := ⟨base_of hb, by rw [star_cons hs, star_cons hs2] <;> rfl, hl, by rw [star_cons hs, star_cons hs2] <;> rfl⟩
  refine .of ((pe_dget2 (by omega) ho.pe hy.pe hz.pe hM).imp fun σ H Q ⟨m, s, r, h⟩ => ⟨m, s, r, (Pst.bind (rr := rT w) h).mono fun v H1 ⟨x, s1, m1, _, r1, e1, x1, h1⟩ => ?_⟩) (by intro _; rfl)
  split at h1
  · rename_i hd
    obtain ⟨kvs0, hk0⟩ := Option.isSome_iff_exists.mp hd
    obtain ⟨p, vs0, rfl, q0, _⟩ := dct_of r1 x1 hk0
    refine ⟨p, rfl, .inl ⟨_, q0⟩, m1, s1, r1, (Pst.bind (rr := rT w) h1).mono fun u H2 ⟨t, s2, m2, _, r2, e2, x2, h2⟩ => ⟨m2, s2, r2, (Pst.bind (rr := rT w) h2).mono fun u3 H3 ⟨t3, s3, m3, _, r3, e3, x3, h3⟩ => ?_⟩⟩
    have x1' := (x1.ext r1 e2).ext r2 e3
    have x2' := x2.ext r2 e3
    split at h3
    · rename_i kvs q e hkv hq he
      split at h3
      · rename_i hkq
        obtain ⟨p', vs, ev, hp, hr⟩ := dct_of r3 x1' hkv
        cases ev
        obtain ⟨k, hk, ek⟩ := key_of (a_of x2' hq) hkq
        refine ⟨valV vs k, .inl ⟨vs, k, hp, ek, rfl⟩, ?_⟩
        have z := look_of hk hr
        cases e4 : lookA kvs q with
        | none =>
          rw [e4] at z h3
          cases e5 : valV vs k with
          | none => exact h3.fin r3 (a_of x3 he)
          | some v => rw [e5] at z; exact z.elim
        | some a =>
          rw [e4] at z h3
          obtain ⟨v, e5, ra⟩ := z.some
          rw [e5]
          exact h3.fin r3 ra
      · exact h3.elim
    · exact h3.elim
  · exact h1.elim
theorem as_of {H0 : Hp} {m : Pl} {s : S} : ∀ {ts : List T} {vs : List V} {as : List A}, RTs w σ H0 m s H ts vs → asAs ts = some as → RAs w m H as vs
  | _, _, _, .nil, e => by cases e; exact .nil
  | _, _, _, .cons (t := t) (ts := ts) h hs, e => by
    unfold asAs at e
    split at e
    · rename_i a as e1 e2
      cases e
      exact .cons (a_of h e1) (as_of hs e2)
    · cases e
theorem snd_tup {es : List Expr} {x1 : Nat} {pos : Pos} {fs : S → R (List T)} (ha : SndA X w W es fs) :
    Snd X w W (.Tuple es x1 pos) (fun s => (fs s).bind fun ts s1 => match asAs ts with
    | some xs => if xs.length ≤ Lim then .ok (.v (.tup xs)) s1 else .stuck
    | none => .stuck) := by
  refine .of ((pe_tup ha.pa).imp fun σ H Q ⟨m, s, r, h⟩ => ⟨m, s, r, (Pst.bind (rr := rTs w) h).mono fun vs H1 ⟨ts, s1, m1, _, r1, e1, x1, h1⟩ => ?_⟩) (by intro _; rfl)
  split at h1
  · rename_i xs hx
    split at h1
    · rename_i hl
      have q := as_of x1 hx
      exact ⟨by rw [lim_eq, ← q.len]; exact hl, fun p hp => h1.new r1 e1.gone hp (.tup (SqT.of upd_same) hl (RAs.stb (stb_new hp) q))⟩
    · exact h1.elim
  · exact h1.elim
theorem snd_lst {es : List Expr} {pos : Pos} {fs : S → R (List T)} (ha : SndA X w W es fs) :
    Snd X w W (.List es pos) (fun s => (fs s).bind fun ts s1 => match asAs ts with
    | some xs => if xs.length ≤ Lim then .ok (.tl xs) s1 else .stuck
    | none => .stuck) := by
  refine .of ((pe_lst ha.pa).imp fun σ H Q ⟨m, s, r, h⟩ => ⟨m, s, r, (Pst.bind (rr := rTs w) h).mono fun vs H1 ⟨ts, s1, m1, _, r1, e1, x1, h1⟩ => ?_⟩) (by intro _; rfl)
  split at h1
  · rename_i xs hx
    split at h1
    · rename_i hl
      have q := as_of x1 hx
      exact ⟨by rw [lim_eq, ← q.len]; exact hl, fun p hp => h1.new r1 e1.gone hp ⟨p, rfl, ⟨_, upd_same, hl, RAs.stb (stb_new hp) q⟩, tmp_new r1 hp⟩⟩
    · exact h1.elim
  · exact h1.elim
theorem snd_dic0 {pos : Pos} : Snd X w W (.Dict [] [] pos) (fun s => .ok (.td []) s) := by
  refine .of (pe_dnewK.imp fun σ H Q ⟨m, s, r, h⟩ => fun p hp => ?_) (by intro _; rfl)
  exact h.new r (fun _ h => h) hp ⟨p, rfl, ⟨_, upd_same, .nil⟩, tmp_new r hp⟩
end
end CE
end CEj
section CEk
set_option maxRecDepth 100000
set_option maxHeartbeats 2000000
namespace CE
open PySem PySem.Spec PyProof.Rows L2
theorem setσ {σ : L2.St} {i j : Nat} {v u : V} (h : (σ.set i (some v))[j]? = some (some u)) : (j = i ∧ u = v) ∨ (j ≠ i ∧ σ[j]? = some (some u)) := by
  by_cases e : j = i
  · subst e
    by_cases hl : j < σ.length
    · rw [List.getElem?_set_self hl] at h
      cases h
      exact .inl ⟨rfl, rfl⟩
    · rw [List.getElem?_eq_none (by rw [List.length_set]; omega)] at h
      cases h
  · rw [List.getElem?_set_ne (Ne.symm e)] at h
    exact .inr ⟨e, h⟩
section
variable {w : Wd} {m m0 : Pl} {s s0 : S} {σ σ0 : L2.St} {H H0 : Hp}
theorem RSl.ref {c : C} {v : V} (h : RSl w m H c v) (k : c.own = true ∨ c.bor = true) : ∃ p, v = .ref p ∧ H p ≠ none := by
  cases c with
  | v a => rcases k with k | k <;> cases k
  | x c fs => rcases k with k | k <;> cases k
  | l o xs => cases o with
    | true => obtain ⟨p, e, vs, a, _⟩ := h; exact ⟨p, e, by rw [a]; simp⟩
    | false => obtain ⟨p, e, vs, a, _⟩ := h; rcases a with a | ⟨_, a⟩ <;> exact ⟨p, e, by rw [a]; simp⟩
  | d o xs => cases o with
    | true => obtain ⟨p, e, vs, a, _⟩ := h; exact ⟨p, e, by rw [a]; simp⟩
    | false => obtain ⟨p, e, vs, a, _⟩ := h; rcases a with a | ⟨_, a⟩ <;> exact ⟨p, e, by rw [a]; simp⟩
theorem own_put {i j : Nat} {c : C} {v : V} {q : Addr} (hi : i < s.env.length) (h : OwnS (s.put i c) (σ.set i (some v)) j q) : (j = i ∧ v = .ref q ∧ c.own = true) ∨ (j ≠ i ∧ OwnS s σ j q) := by
  obtain ⟨e, d, hd, hdo⟩ := h
  rw [slot_put hi] at hd
  rcases setσ e with ⟨e1, e2⟩ | ⟨hne, e2⟩
  · rw [if_pos e1] at hd
    cases hd
    exact .inl ⟨e1, e2.symm, hdo⟩
  · rw [if_neg hne] at hd
    exact .inr ⟨hne, e2, d, hd, hdo⟩
theorem bor_put {i j : Nat} {c : C} {v : V} {q : Addr} (hi : i < s.env.length) (hb : c.bor = false) (h : BorS (s.put i c) (σ.set i (some v)) j q) : BorS s σ j q := by
  obtain ⟨e, d, hd, hdo⟩ := h
  rw [slot_put hi] at hd
  rcases setσ e with ⟨e1, e2⟩ | ⟨hne, e2⟩
  · rw [if_pos e1] at hd
    cases hd
    rw [hb] at hdo
    cases hdo
  · rw [if_neg hne] at hd
    exact ⟨e2, d, hd, hdo⟩
/-- a slot is set -/
theorem Rel.put (r : Rel w m s σ H) {i : Nat} {c : C} {v : V} (hi : i < s.env.length) (hc : RSl w m H c v) (ho : c.own = true → ∀ p, v = .ref p → ¬ Own m s σ p ∧ ∀ j, ¬ BorS s σ j p) (hb : c.bor = false) : Rel w m (s.put i c) (σ.set i (some v)) H := by
  have hiσ : i < σ.length := by rw [← r.len]; exact hi
  refine ⟨by show (s.env.set i (some c)).length = _; rw [List.length_set, List.length_set]; exact r.len, fun j d h => ?_, r.st, r.dom, r.inj, fun j q h => ?_, fun j k q h h' => ?_, fun j q h h' => ?_⟩
  · rw [slot_put hi] at h
    by_cases e : j = i
    · rw [if_pos e] at h
      cases h
      subst e
      exact ⟨v, List.getElem?_set_self hiσ, hc⟩
    · rw [if_neg e] at h
      obtain ⟨u, e1, z⟩ := r.slot j d h
      exact ⟨u, by rw [List.getElem?_set_ne (Ne.symm e)]; exact e1, z⟩
  · rcases own_put hi h with ⟨_, e, o⟩ | ⟨_, h⟩
    · exact fun l hl => (ho o q e).1 (.inl ⟨l, hl⟩)
    · exact r.ap1 j q h
  · rcases own_put hi h with ⟨e1, e, o⟩ | ⟨e1, h⟩
    · rcases own_put hi h' with ⟨e2, _, _⟩ | ⟨e2, h'⟩
      · rw [e1, e2]
      · exact absurd (.inr ⟨k, h'⟩) (ho o q e).1
    · rcases own_put hi h' with ⟨e2, e, o⟩ | ⟨e2, h'⟩
      · exact absurd (.inr ⟨j, h⟩) (ho o q e).1
      · exact r.ap2 j k q h h'
  · have h := bor_put hi hb h
    rcases h' with h' | ⟨k, h'⟩
    · exact r.ap3 j q h (.inl h')
    · rcases own_put hi h' with ⟨_, e, o⟩ | ⟨_, h'⟩
      · exact (ho o q e).2 j h
      · exact r.ap3 j q h (.inr ⟨k, h'⟩)
theorem Ext.put {H1 : Hp} (x : Ext m0 s0 σ0 H0 m s σ H1) {i : Nat} {c : C} {v : V} (hi : i < s.env.length) (ho : c.own = true → ∀ p, v = .ref p → H0 p = none) (hb : c.bor = false) : Ext m0 s0 σ0 H0 m (s.put i c) (σ.set i (some v)) H1 := by
  refine ⟨x.mono, x.newM, fun j q h => ?_, fun j q h => x.bor j q (bor_put hi hb h), x.frame, x.keep⟩
  rcases own_put hi h with ⟨_, e, o⟩ | ⟨_, h⟩
  · exact .inr (ho o q e)
  · exact x.newS j q h
theorem put_of {H1 : Hp} (r : Rel w m s σ H1) (x : Ext m0 s0 σ0 H0 m s σ H1) {i : Nat} {t : T} {v : V} {s' : S} (hi : i < s.env.length) (hx : RT w σ H0 m s H1 t v) (h : putT s i t = .ok () s') :
    Rel w m s' (σ.set i (some v)) H1 ∧ Ext m0 s0 σ0 H0 m s' (σ.set i (some v)) H1 := by
  cases t with
  | v a => cases h; exact ⟨r.put hi hx (fun z => nomatch z) rfl, x.put hi (fun z => nomatch z) rfl⟩
  | sl i => cases h
  | tl xs =>
    cases h
    obtain ⟨p, rfl, hl, ht⟩ := hx
    refine ⟨r.put hi ⟨p, rfl, hl⟩ (fun _ q e => ?_) rfl, x.put hi (fun _ q e => ?_) rfl⟩
    · cases e; exact ht.2
    · cases e; exact ht.1
  | td xs =>
    cases h
    obtain ⟨p, rfl, hl, ht⟩ := hx
    refine ⟨r.put hi ⟨p, rfl, hl⟩ (fun _ q e => ?_) rfl, x.put hi (fun _ q e => ?_) rfl⟩
    · cases e; exact ht.2
    · cases e; exact ht.1
theorem stb_mob {p : Addr} {o : HO} (q : Mob (H p)) : Stb m H m (upd H p o) := by
  refine ⟨fun _ _ h => h, fun a xs h => ?_, fun a ob u h => ?_, fun a f h => ?_⟩
  · rw [upd_ne (fun e => by rw [e] at h; rw [h] at q; exact q)]; exact h
  · rw [upd_ne (fun e => by rw [e] at h; rw [h] at q; exact q)]; exact h
  · rw [upd_ne (fun e => by rw [e] at h; rw [h] at q; exact q)]; exact h
theorem Rel.tmp (r : Rel w m s σ H) {p : Addr} {o : HO} (q : Mob (H p)) (h1 : ¬ Own m s σ p) (h2 : ∀ j, ¬ BorS s σ j p) : Rel w m s σ (upd H p o) := by
  have hb : Stb m H m (upd H p o) := stb_mob q
  refine ⟨r.len, fun i c h => ?_, fun l x h => ?_, r.dom, r.inj, r.ap1, r.ap2, r.ap3⟩
  · obtain ⟨v, e, z⟩ := r.slot i c h
    refine ⟨v, e, z.at hb fun q ev ho u eu => ne_upd (fun eq => ?_) eu⟩
    subst ev
    subst eq
    rcases ho with ho | ho
    · exact h1 (.inr ⟨i, e, c, h, ho⟩)
    · exact h2 i ⟨e, c, h, ho⟩
  · obtain ⟨q, e, z⟩ := r.st l x h
    exact ⟨q, e, z.at hb fun u eu => ne_upd (fun eq => by subst eq; exact h1 (.inl ⟨l, e⟩)) eu⟩
/-- what is new is changed -/
theorem Ext.touch {H1 : Hp} (x : Ext m0 s0 σ0 H0 m s σ H1) {p : Addr} {o : HO} (h : H0 p = none) : Ext m0 s0 σ0 H0 m s σ (upd H1 p o) := by
  refine ⟨x.mono, x.newM, x.newS, x.bor, fun q u e n => ?_, fun q e => ?_⟩
  · rw [upd_ne (fun z => by rw [z, h] at e; cases e)]; exact x.frame q u e n
  · by_cases z : q = p
    · rw [z, upd_same]; simp
    · rw [upd_ne z]; exact x.keep q e
/-- a slot's own object is given away: the slot holds a value -/
theorem Rel.give (r : Rel w m s σ H) {i : Nat} {p : Addr} {c : C} {a : A} {o : HO} (hi : s.slot i = some c) (ho : c.own = true) (hs : σ[i]? = some (some (.ref p))) (ha : RA w m (upd H p o) a (.ref p)) : Rel w m (s.put i (.v a)) σ (upd H p o) := by
  have hlt := slot_lt hi
  have hown : OwnS s σ i p := ⟨hs, c, hi, ho⟩
  have hb : Stb m H m (upd H p o) := stb_own r (.inr ⟨i, hown⟩)
  have ow : ∀ {j q}, OwnS (s.put i (.v a)) σ j q → j ≠ i ∧ OwnS s σ j q := fun {j q} ⟨e, d, hd, hdo⟩ => by
    rw [slot_put hlt] at hd
    by_cases h : j = i
    · rw [if_pos h] at hd; cases hd; cases hdo
    · rw [if_neg h] at hd; exact ⟨h, e, d, hd, hdo⟩
  have bo : ∀ {j q}, BorS (s.put i (.v a)) σ j q → BorS s σ j q := fun {j q} ⟨e, d, hd, hdo⟩ => by
    rw [slot_put hlt] at hd
    by_cases h : j = i
    · rw [if_pos h] at hd; cases hd; cases hdo
    · rw [if_neg h] at hd; exact ⟨e, d, hd, hdo⟩
  refine ⟨by show (s.env.set i _).length = _; rw [List.length_set]; exact r.len, fun j d h => ?_, fun l y h => ?_, r.dom, r.inj, fun j q h => r.ap1 j q (ow h).2, fun j k q h h' => r.ap2 j k q (ow h).2 (ow h').2, fun j q h h' => r.ap3 j q (bo h) ?_⟩
  · rw [slot_put hlt] at h
    by_cases e : j = i
    · rw [if_pos e] at h
      cases h
      rw [e]
      exact ⟨_, hs, ha⟩
    · rw [if_neg e] at h
      obtain ⟨v, e1, z⟩ := r.slot j d h
      refine ⟨v, e1, z.at hb fun q ev hd u eu => ne_upd (fun eq => ?_) eu⟩
      subst ev
      subst eq
      rcases hd with hd | hd
      · exact e (r.ap2 j i _ ⟨e1, d, h, hd⟩ hown)
      · exact r.ap3 j _ ⟨e1, d, h, hd⟩ (.inr ⟨i, hown⟩)
  · obtain ⟨q, e1, z⟩ := r.st l y h
    exact ⟨q, e1, z.at hb fun u eu => ne_upd (fun eq => by subst eq; exact r.ap1 i _ hown l e1) eu⟩
  · rcases h' with h' | ⟨k, h'⟩
    · exact .inl h'
    · exact .inr ⟨k, (ow h').2⟩
theorem Ext.give {i : Nat} {p : Addr} {c : C} {a : A} {o : HO} (hi : s.slot i = some c) (ho : c.own = true) (hs : σ[i]? = some (some (.ref p))) : Ext m s σ H m (s.put i (.v a)) σ (upd H p o) := by
  have hlt := slot_lt hi
  refine ⟨fun _ _ h => h, fun l q h => .inl ⟨l, h⟩, fun j q ⟨e, d, hd, hdo⟩ => .inl ?_, fun j q ⟨e, d, hd, hdo⟩ => .inl ?_, fun q u e n => ne_upd (fun eq => n (by subst eq; exact .inr ⟨i, hs, c, hi, ho⟩)) e, fun q e => ?_⟩
  · rw [slot_put hlt] at hd
    by_cases h : j = i
    · rw [if_pos h] at hd; cases hd; cases hdo
    · rw [if_neg h] at hd; exact ⟨e, d, hd, hdo⟩
  · rw [slot_put hlt] at hd
    by_cases h : j = i
    · rw [if_pos h] at hd; cases hd; cases hdo
    · rw [if_neg h] at hd; exact ⟨e, d, hd, hdo⟩
  · by_cases h : q = p
    · subst h; rw [upd_same]; simp
    · rw [upd_ne h]; exact e
end
/-- behind a part, seen from the start -/
theorem Pst.bind0 {α β α' β' : Type} {w : Wd} {W : WX} {rr : RR α β} {rr' : RR α' β'} {H0 : Hp} {m : Pl} {s : S} {σ : L2.St} {H : Hp} {r : R α} {k : α → S → R α'} {Q : β' → Hp → Prop} (h : Pst w W rr' H0 m s σ H (r.bind k) Q) :
    Pst w W rr H m s σ H r (fun b H1 => ∃ a s1 m1, r = .ok a s1 ∧ Rel w m1 s1 σ H1 ∧ Ext m s σ H m1 s1 σ H1 ∧ rr σ H m1 s1 H1 a b ∧ Pst w W rr' H0 m s σ H (k a s1) Q) := by
  cases r with
  | ok a s1 => exact fun m1 H1 b r1 e1 x1 => ⟨a, s1, m1, rfl, r1, e1, x1, h⟩
  | exc c fs s' => exact h
  | stuck => exact h
/-- a test's truth is that of its value -/
def plainT : Expr → Bool
  | .UnaryOp .Not _ _ => false
  | .BoolOp _ _ _ => false
  | .IfExp _ _ _ _ => false
  | .Compare _ _ _ _ => false
  | _ => true
theorem plainT_ok {e : Expr} {env : Env} (h : plainT e = true) : ∀ whole, isTrue e env whole = (do let v ← whole; standAt e.pos; holding [v] (truthy v)) := by
  intro whole
  cases e with
  | UnaryOp op a p => cases op <;> first | rfl | cases h
  | _ => first | rfl | cases h
section
variable {X : Cx} {w : Wd} {W : WX}
theorem pe_post {e : Expr} {f : S → R T} {k : T → S → R T} (h : PE X e (tE w W f))
    (hk : ∀ (pins : List (Addr × Obj)) (sh : Shared) (σ : L2.St) (H H1 : Hp) (m m1 : Pl) (s s1 : S) (a : T) (v : V) (u : Value) (Q : VK), Inv X pins σ H1 sh → RelV v u → Rel w m s σ H → Rel w m1 s1 σ H1 → Ext m s σ H m1 s1 σ H1 → RT w σ H m1 s1 H1 a v → Pst w W (rT w) H m s σ H (k a s1) Q → EP X pins σ Q u sh) :
    PE X e (tE w W (fun s => (f s).bind k)) := by
  refine ⟨fun pins s0 σ H Q I ⟨m, s, r, hq⟩ => ?_⟩
  refine thn (h.run pins s0 σ H _ I ⟨m, s, r, Pst.bind0 (rr := rT w) hq⟩) fun u s1 ⟨v, H1, I1, rv, a, s2, m1, _, r1, e1, x1, q⟩ => ?_
  exact hk pins s1 σ H H1 m m1 s s2 a v u Q I1 rv r r1 e1 x1 q
theorem snd_frz {e : Expr} {f : S → R T} (h : Snd X w W e f) (hp : plainT e = true) : Snd X w W e (fun s => (f s).bind frzT) := by
  refine .of (pe_post h.pe fun pins sh σ H H1 m m1 s s1 a v u Q I1 rv r r1 e1 x1 q => ?_) (plainT_ok hp)
  cases a with
  | v a => exact ⟨v, H1, I1, rv, q m1 H1 v r1 e1 x1⟩
  | td xs => exact (show False from q).elim
  | tl xs =>
    obtain ⟨p, rfl, ⟨vs, ha, hl, hr⟩, ht⟩ := x1
    obtain ⟨od, I2⟩ := I1.lock ha trivial
    have qm : Mob (H1 p) := by rw [ha]; trivial
    exact ⟨.ref p, _, I2, rv, q m1 _ (.ref p) (r1.tmp qm ht.2.1 ht.2.2) (e1.touch ht.1) (.lst (.inl ⟨od, upd_same⟩) hl (RAs.stb (stb_mob qm) hr))⟩
  | sl i =>
    unfold frzT at q
    dsimp only at q
    cases hc : s1.slot i with
    | none => rw [hc] at q; exact (show False from q).elim
    | some c =>
      rw [hc] at q
      cases c with
      | l b xs =>
        cases b with
        | false => exact (show False from q).elim
        | true =>
          obtain ⟨v', e2, p, ev, vs, ha, hl, hr⟩ := r1.slot i _ hc
          have x2 : σ[i]? = some (some v) := x1
          rw [x2] at e2
          cases e2
          subst ev
          obtain ⟨od, I2⟩ := I1.lock ha trivial
          have qm : Mob (H1 p) := by rw [ha]; trivial
          have ra : RA w m1 (upd H1 p (.frz od (.lst vs))) (.lst xs) (.ref p) := .lst (.inl ⟨od, upd_same⟩) hl (RAs.stb (stb_mob qm) hr)
          exact ⟨.ref p, _, I2, rv, q m1 _ (.ref p) (r1.give hc rfl x2 ra) (e1.trans (Ext.give hc rfl x2)) ra⟩
      | _ => exact (show False from q).elim
end
end CE
end CEk
section CEl
set_option maxRecDepth 100000
set_option maxHeartbeats 2000000
namespace CE
open PySem PySem.Spec PyProof.Rows L2
section
variable {w : Wd} {m m0 : Pl} {s s0 : S} {σ σ0 : L2.St} {H H0 : Hp} {p : Addr} {o : O}
/-- a new place -/
def plc (m : Pl) (s : S) (p : Addr) : Pl := fun l => if l = s.st.length then some p else m l
theorem plc_mono (r : Rel w m s σ H) {l : Nat} {q : Addr} (h : m l = some q) : plc m s p l = some q := by
  have := r.dom l q h
  unfold plc
  rw [if_neg (by omega)]
  exact h
theorem plc_cases {l : Nat} {q : Addr} (h : plc m s p l = some q) : (l = s.st.length ∧ q = p) ∨ m l = some q := by
  unfold plc at h
  split at h
  · rename_i e
    cases h
    exact .inl ⟨e, rfl⟩
  · exact .inr h
theorem own_new {q : Addr} (h : Own (plc m s p) (s.new o) σ q) : q = p ∨ Own m s σ q := by
  rcases h with ⟨l, h⟩ | ⟨i, h⟩
  · rcases plc_cases h with ⟨_, e⟩ | h
    · exact .inl e
    · exact .inr (.inl ⟨l, h⟩)
  · exact .inr (.inr ⟨i, h⟩)
theorem Rel.place (r : Rel w m s σ H) (h1 : ¬ Own m s σ p) (h2 : ∀ j, ¬ BorS s σ j p) (ho : RO w m H p o) : Rel w (plc m s p) (s.new o) σ H := by
  have hb : Stb m H (plc m s p) H := ⟨fun l q h => plc_mono r h, fun _ _ h => h, fun _ _ _ h => h, fun _ _ h => h⟩
  refine ⟨r.len, fun i c h => ?_, fun l x h => ?_, fun l q h => ?_, fun l l' q h h' => ?_, fun i q h l hl => ?_, r.ap2, fun i q h h' => ?_⟩
  · obtain ⟨v, e, z⟩ := r.slot i c h
    exact ⟨v, e, z.at hb fun _ _ _ _ e => e⟩
  · have h : (s.st ++ [o])[l]? = some x := h
    by_cases e : l < s.st.length
    · rw [List.getElem?_append_left e] at h
      obtain ⟨q, e1, z⟩ := r.st l x h
      exact ⟨q, plc_mono r e1, z.at hb fun _ e => e⟩
    · rw [List.getElem?_append_right (by omega)] at h
      have e0 : l - s.st.length = 0 := by
        cases q : l - s.st.length with
        | zero => rfl
        | succ n => rw [q] at h; simp at h
      rw [e0] at h
      cases h
      have el : l = s.st.length := by omega
      refine ⟨p, by unfold plc; rw [if_pos el], ho.at hb fun _ e => e⟩
  · show l < (s.st ++ [o]).length
    rw [List.length_append]
    rcases plc_cases h with ⟨e, _⟩ | h
    · simp; omega
    · have := r.dom l q h; omega
  · rcases plc_cases h with ⟨e, e2⟩ | h
    · rcases plc_cases h' with ⟨e', _⟩ | h'
      · omega
      · exact absurd (.inl ⟨l', e2 ▸ h'⟩) h1
    · rcases plc_cases h' with ⟨_, e2⟩ | h'
      · exact absurd (.inl ⟨l, e2 ▸ h⟩) h1
      · exact r.inj l l' q h h'
  · rcases plc_cases hl with ⟨_, e2⟩ | hl
    · exact h1 (.inr ⟨i, e2 ▸ h⟩)
    · exact r.ap1 i q h l hl
  · rcases own_new h' with e | h'
    · exact h2 i (e ▸ h)
    · exact r.ap3 i q h h'
theorem Ext.place {H1 : Hp} (x : Ext m0 s0 σ0 H0 m s σ H1) (r : Rel w m s σ H1) (h : H0 p = none) : Ext m0 s0 σ0 H0 (plc m s p) (s.new o) σ H1 := by
  refine ⟨fun l q e => plc_mono r (x.mono l q e), fun l q hq => ?_, x.newS, x.bor, x.frame, x.keep⟩
  rcases plc_cases hq with ⟨_, e⟩ | hq
  · exact .inr (e ▸ h)
  · exact x.newM l q hq
end
section
variable {X : Cx} {w : Wd} {W : WX}
theorem plc_at {m : Pl} {s : S} {p : Addr} : plc m s p s.st.length = some p := by unfold plc; rw [if_pos rfl]
theorem snd_prm {e : Expr} {f : S → R T} (h : Snd X w W e f) (hp : plainT e = true) : Snd X w W e (fun s => (f s).bind prmT) := by
  refine .of (pe_post h.pe fun pins sh σ H H1 m m1 s s1 a v u Q I1 rv r r1 e1 x1 q => ?_) (plainT_ok hp)
  cases a with
  | v a => exact ⟨v, H1, I1, rv, q m1 H1 v r1 e1 x1⟩
  | sl i => exact (show False from q).elim
  | tl xs =>
    obtain ⟨p, rfl, hl, ht⟩ := x1
    exact ⟨.ref p, H1, I1, rv, q (plc m1 s1 p) H1 (.ref p) (r1.place ht.2.1 ht.2.2 hl) (e1.place r1 ht.1) (.ref plc_at)⟩
  | td xs =>
    obtain ⟨p, rfl, hl, ht⟩ := x1
    exact ⟨.ref p, H1, I1, rv, q (plc m1 s1 p) H1 (.ref p) (r1.place ht.2.1 ht.2.2 hl) (e1.place r1 ht.1) (.ref plc_at)⟩
def tyN : Ty → String
  | .int => "int" | .str => "str" | .bool => "bool" | .tuple => "tuple" | .list => "list" | .dict => "dict" | .object => "object"
def vtyN : VTy → String
  | .non => "NoneType" | .bool => "bool" | .int => "int" | .str => "str" | .tuple => "tuple" | .list => "list" | .dict => "dict"
theorem kit_all : ([VTy.non, .bool, .int, .str, .tuple, .list, .dict].all fun a => [Ty.int, .str, .bool, .tuple, .list, .dict, .object].all fun b => decide (kitB (vtyN a) (tyN b) = some (isTy a b))) = true := by decide +kernel
theorem kit_of2 (a : VTy) (b : Ty) : kitB (vtyN a) (tyN b) = some (isTy a b) := by
  have h := kit_all
  simp only [List.all_eq_true, decide_eq_true_eq] at h
  exact h a (by cases a <;> simp) b (by cases b <;> simp)
theorem kitAny_ty {K : PySem.W.Frag} (a : VTy) : ∀ ts : List Ty, PySem.W.kitAny K (.type (vtyN a)) (ts.map fun t => Value.type (tyN t)) = some (ts.any (isTy a))
  | [] => rfl
  | t :: ts => kitAny_cons (kit_ty (kit_of2 a t)) (fun h => by rw [kitAny_ty a ts, List.any_cons, h, Bool.false_or]) (fun h => by rw [List.any_cons, h, Bool.true_or])
theorem ty_of {σ : L2.St} {H H0 : Hp} {m : Pl} {s : S} {t : T} {v : V} {n : VTy} (r : Rel w m s σ H) (x : RT w σ H0 m s H t v) (e : typeT s t = some n) : TyX w.K H v (.type (vtyN n)) := by
  unfold typeT at e
  split at e
  · rename_i xs hx
    cases e
    obtain ⟨p, vs, rfl, q, _⟩ := lst_of r x hx
    rcases q with (q | ⟨o, q⟩) | ⟨o, its, k, hk, hc, _⟩
    · exact .base (.lst q)
    · exact .base (.frz q)
    · exact .kList hk hc
  · split at e
    · rename_i kvs hd
      cases e
      obtain ⟨p, vs, rfl, q, _⟩ := dct_of r x hd
      rcases q with q | ⟨o, q⟩
      · exact .base (.dK q)
      · exact .fDict q
    · split at e
      · cases e; cases x; exact .base .non
      · cases e; cases x; exact .base (.bl _)
      · cases e; cases x; exact .base (.int _)
      · cases e; cases x; exact .base (.str _)
      · cases e
        cases x with
        | tup h1 h2 h3 =>
          rcases h1 with (q | ⟨o, q⟩) | ⟨o, its, k, hk, hc, _⟩
          · exact .base (.tup q)
          · exact .fTuple q
          · exact .kTuple hk hc
      · cases e
/-- the class that an isinstance names -/
def isiOf (c : Str) : Option Ty := if c = "int" then some .int else if c = "str" then some .str else if c = "bool" then some .bool else if c = "tuple" then some .tuple else if c = "list" then some .list else if c = "dict" then some .dict else if c = "object" then some .object else none
theorem isi_boot {c : Str} {t : Ty} (h : isiOf c = some t) : bootBuiltins c = some (.type (tyN t)) ∧ c ≠ "__name__" ∧ (c == ("__debug__" : Str)) = false := by
  unfold isiOf at h
  split at h
  · rename_i e; subst e; cases h; exact ⟨by decide +kernel, by decide +kernel, by decide +kernel⟩
  split at h
  · rename_i e; subst e; cases h; exact ⟨by decide +kernel, by decide +kernel, by decide +kernel⟩
  split at h
  · rename_i e; subst e; cases h; exact ⟨by decide +kernel, by decide +kernel, by decide +kernel⟩
  split at h
  · rename_i e; subst e; cases h; exact ⟨by decide +kernel, by decide +kernel, by decide +kernel⟩
  split at h
  · rename_i e; subst e; cases h; exact ⟨by decide +kernel, by decide +kernel, by decide +kernel⟩
  split at h
  · rename_i e; subst e; cases h; exact ⟨by decide +kernel, by decide +kernel, by decide +kernel⟩
  split at h
  · rename_i e; subst e; cases h; exact ⟨by decide +kernel, by decide +kernel, by decide +kernel⟩
  · cases h
/-- a built-in's name, not hidden -/
structure BltN (X : Cx) (x : Str) : Prop where
  gl : Gl X x
  mg : X.mg x = none
theorem pe_cls {c : Str} {t : Ty} {pos : Pos} (h : isiOf c = some t) (b : BltN X c) : PE X (.Name c pos) (tC (.ty (tyN t))) :=
  let ⟨h1, h2, h3⟩ := isi_boot h
  pe_bltn b.gl b.mg h1 rfl h2 h3
theorem snd_isi1 {e : Expr} {c : Str} {t : Ty} {p pc pos : Pos} {f : S → R T} (hw : w.K = X.K) (bi : BltN X "isinstance") (h : isiOf c = some t) (b : BltN X c) (ha : Snd X w W e f) (hs : notStar e = true) :
    Snd X w W (.Call (.Name "isinstance" p) [e, .Name c pc] [] pos) (fun s => (f s).bind fun x s1 => match opIsi s1 x [t] with
    | some k => .ok (.v (.bl k)) s1
    | none => .stuck) := by
  have hA := pa_cons ha.pe (pa_cons (pe_cls (pos := pc) h b) pa_nil) (star_cons hs)
  refine .of ((pe_callB call_isi bi.gl bi.mg (by decide +kernel) hA (by decide +kernel) (by decide +kernel) (star_cons hs) rfl).imp fun σ H Q ⟨m, s, r, h⟩ => ⟨m, s, r, (Pst.bind (rr := rT w) h).mono fun v H1 ⟨x, s1, m1, _, r1, e1, x1, h1⟩ => ?_⟩) (by intro _; rfl)
  split at h1
  · rename_i k hk
    unfold opIsi at hk
    cases hn : typeT s1 x with
    | none => rw [hn] at hk; cases hk
    | some n =>
      rw [hn] at hk
      have hk : some ([t].any (isTy n)) = some k := hk
      refine ⟨v, .ty (tyN t), _, _, k, rfl, .ty _, hw ▸ ty_of r1 x1 hn, ?_, h1.fin r1 (.bl k)⟩
      rw [kit_ty (kit_of2 n t)]
      simpa using hk
  · exact h1.elim
def isiAll : List Expr → Option (List Ty)
  | [] => some []
  | .Name c _ :: es => match isiOf c, isiAll es with
    | some t, some ts => some (t :: ts)
    | _, _ => none
  | _ => none
def clsNames : List Expr → List Str
  | [] => []
  | .Name c _ :: es => c :: clsNames es
  | _ :: es => clsNames es
def tTys (ts : List Ty) : TA := fun _ H Q => Q (ts.map fun t => V.ty (tyN t)) H
theorem pa_cls : ∀ {es : List Expr} {ts : List Ty}, isiAll es = some ts → (∀ c ∈ clsNames es, BltN X c) → PA X es (tTys ts)
  | [], _, h, _ => by cases h; exact pa_nil
  | .Name c p :: es, _, h, b => by
    unfold isiAll at h
    split at h
    · rename_i t ts h1 h2
      cases h
      exact (pa_cons (pe_cls (pos := p) h1 (b c (by simp [clsNames]))) (pa_cls h2 fun c hc => b c (by simp [clsNames, hc])) rfl).imp fun σ H Q h => h
    · cases h
theorem cls_paired : ∀ ts : List Ty, Paired ClsV (ts.map fun t => V.ty (tyN t)) (ts.map fun t => Value.type (tyN t))
  | [] => .nil
  | t :: ts => .cons (.ty _) (cls_paired ts)
theorem snd_isiT {e : Expr} {es : List Expr} {ts : List Ty} {p pc pos : Pos} {k : Nat} {f : S → R T} (hw : w.K = X.K) (bi : BltN X "isinstance") (h : isiAll es = some ts) (b : ∀ c ∈ clsNames es, BltN X c) (hl : ts.length ≤ 1000) (ha : Snd X w W e f) (hs : notStar e = true) :
    Snd X w W (.Call (.Name "isinstance" p) [e, .Tuple es k pc] [] pos) (fun s => (f s).bind fun x s1 => match opIsi s1 x ts with
    | some k => .ok (.v (.bl k)) s1
    | none => .stuck) := by
  have hA := pa_cons ha.pe (pa_cons (pe_tup (x1 := k) (pos := pc) (pa_cls h b)) pa_nil) (star_cons hs)
  refine .of ((pe_callB call_isiT bi.gl bi.mg (by decide +kernel) hA (by decide +kernel) (by decide +kernel) (star_cons hs) rfl).imp fun σ H Q ⟨m, s, r, h⟩ => ⟨m, s, r, (Pst.bind (rr := rT w) h).mono fun v H1 ⟨x, s1, m1, _, r1, e1, x1, h1⟩ => ?_⟩) (by intro _; rfl)
  split at h1
  · rename_i k hk
    unfold opIsi at hk
    cases hn : typeT s1 x with
    | none => rw [hn] at hk; cases hk
    | some n =>
      rw [hn] at hk
      have hk : some (ts.any (isTy n)) = some k := hk
      refine ⟨by rw [List.length_map, lim_eq]; show _ ≤ 16777216; omega, fun q hq => ?_⟩
      have r2 : Rel w m1 s1 σ (upd H1 q (.tup (ts.map fun t => V.ty (tyN t)))) := r1.new hq
      have x2 := x1.ext r1 (Ext.newO hq (o := .tup (ts.map fun t => V.ty (tyN t))))
      refine ⟨v, q, _, _, _, k, rfl, upd_same, cls_paired ts, hw ▸ ty_of r2 x2 hn, ?_, ?_⟩
      · rw [kitAny_ty, hk]
      · exact h1.new r1 e1.gone hq (.bl k)
  · exact h1.elim
end
end CE
end CEl
section CEm
set_option maxRecDepth 100000
set_option maxHeartbeats 2000000
namespace CE
open PySem PySem.Spec PyProof.Rows L2
section
variable {w : Wd} {m m' : Pl} {s s' : S} {σ σ' : L2.St} {H H' H0 : Hp} {st st' : List O}
theorem own_nil {p : Addr} : Own m ⟨[], st⟩ [] p ↔ ∃ l, m l = some p := by
  refine ⟨fun h => ?_, fun h => .inl h⟩
  rcases h with h | ⟨i, h, _⟩
  · exact h
  · cases h
theorem bor_nil {i : Nat} {p : Addr} : ¬ BorS ⟨[], st⟩ [] i p := fun ⟨h, _⟩ => by cases h
theorem Rel.down (r : Rel w m s σ H) : Rel w m ⟨[], s.st⟩ [] H :=
  ⟨rfl, fun i c h => (by cases h), r.st, r.dom, r.inj, fun i p ⟨h, _⟩ => (by cases h), fun i j p ⟨h, _⟩ => (by cases h), fun i p h => (bor_nil h).elim⟩
theorem Rel.thereO (r : Rel w m s σ H) {i : Nat} {p : Addr} (h : OwnS s σ i p) : H p ≠ none := by
  obtain ⟨e, c, hc, ho⟩ := h
  obtain ⟨v, e1, z⟩ := r.slot i c hc
  rw [e] at e1
  cases e1
  obtain ⟨q, e2, z⟩ := z.ref (.inl ho)
  cases e2
  exact z
theorem Rel.thereB (r : Rel w m s σ H) {i : Nat} {p : Addr} (h : BorS s σ i p) : H p ≠ none := by
  obtain ⟨e, c, hc, ho⟩ := h
  obtain ⟨v, e1, z⟩ := r.slot i c hc
  rw [e] at e1
  cases e1
  obtain ⟨q, e2, z⟩ := z.ref (.inr ho)
  cases e2
  exact z
/-- behind a call: the caller's state -/
theorem Rel.up (r : Rel w m s σ H) (r' : Rel w m' ⟨[], st'⟩ [] H') (e : Ext m ⟨[], s.st⟩ [] H m' ⟨[], st'⟩ [] H') : Rel w m' { s with st := st' } σ H' ∧ Ext m s σ H m' { s with st := st' } σ H' := by
  have hb : Stb m H m' H' := e.stb r.down
  -- what the caller has stands
  have stay : ∀ {i p}, OwnS s σ i p ∨ BorS s σ i p → (∀ l, m l ≠ some p) := fun {i p} h => by
    rcases h with h | h
    · exact r.ap1 i p h
    · exact fun l hl => r.ap3 i p h (.inl ⟨l, hl⟩)
  have there : ∀ {i p}, OwnS s σ i p ∨ BorS s σ i p → H p ≠ none := fun {i p} h => h.elim r.thereO r.thereB
  have notin : ∀ {i p}, OwnS s σ i p ∨ BorS s σ i p → ∀ l, m' l ≠ some p := fun {i p} h l hl => by
    rcases e.new p (.inl ⟨l, hl⟩) with q | q
    · obtain ⟨l', q⟩ := own_nil.mp q
      exact stay h l' q
    · exact there h q
  refine ⟨⟨r.len, fun i c h => ?_, r'.st, r'.dom, r'.inj, fun i p h => notin (.inl h), r.ap2, fun i p h h' => ?_⟩, e.mono, e.newM, fun i p h => .inl h, fun i p h => .inl h, fun p o h n => ?_, e.keep⟩
  · obtain ⟨v, e1, z⟩ := r.slot i c h
    refine ⟨v, e1, z.at hb fun q ev ho u eu => e.frame q u eu fun y => ?_⟩
    obtain ⟨l, y⟩ := own_nil.mp y
    subst ev
    rcases ho with ho | ho
    · exact stay (.inl ⟨e1, c, h, ho⟩) l y
    · exact stay (.inr ⟨e1, c, h, ho⟩) l y
  · rcases h' with ⟨l, h'⟩ | ⟨j, h'⟩
    · exact notin (.inr h) l h'
    · exact r.ap3 i p h (.inr ⟨j, h'⟩)
  · exact e.frame p o h fun z => n (.inl (own_nil.mp z))
theorem RT.up {t : T} {v : V} (r : Rel w m s σ H) (g : Gone H0 H) (h : RT w [] H m' ⟨[], st'⟩ H' t v) : RT w σ H0 m' { s with st := st' } H' t v := by
  have tmp : ∀ {p}, Tmp H m' ⟨[], st'⟩ [] p → Tmp H0 m' { s with st := st' } σ p := fun {p} ⟨h0, h1, h2⟩ => by
    refine ⟨g p h0, fun z => ?_, fun i z => r.thereB (show BorS s σ i p from z) h0⟩
    rcases z with z | ⟨i, z⟩
    · exact h1 (.inl z)
    · exact r.thereO (show OwnS s σ i p from z) h0
  cases t with
  | v a => exact h
  | sl i => cases (show (none : Option (Option V)) = some (some v) from h)
  | tl xs => obtain ⟨p, e, hl, ht⟩ := h; exact ⟨p, e, hl, tmp ht⟩
  | td xs => obtain ⟨p, e, hl, ht⟩ := h; exact ⟨p, e, hl, tmp ht⟩
end
def Arg (w : Wd) (m : Pl) (H : Hp) (c : C) (v : V) : Prop := RSl w m H c v ∧ c.own = false ∧ (c.bor = true → ∀ p, v = .ref p → ∀ l, m l ≠ some p)
inductive RArgs (w : Wd) (m : Pl) (H : Hp) : List C → List V → Prop
  | nil : RArgs w m H [] []
  | cons {c : C} {cs : List C} {v : V} {vs : List V} : Arg w m H c v → RArgs w m H cs vs → RArgs w m H (c :: cs) (v :: vs)
theorem RArgs.len {w : Wd} {m : Pl} {H : Hp} : ∀ {cs : List C} {vs : List V}, RArgs w m H cs vs → cs.length = vs.length
  | _, _, .nil => rfl
  | _, _, .cons _ h => congrArg Nat.succ h.len
theorem RArgs.get {w : Wd} {m : Pl} {H : Hp} : ∀ {cs : List C} {vs : List V} {i : Nat} {c : C}, RArgs w m H cs vs → cs[i]? = some c → ∃ v, vs[i]? = some v ∧ Arg w m H c v
  | _, _, _, _, .nil, e => by simp at e
  | _, _, 0, _, .cons r _, e => by simp at e; subst e; exact ⟨_, rfl, r⟩
  | _, _, i + 1, c, .cons _ t, e => by
    obtain ⟨u, h1, h2⟩ := RArgs.get (i := i) (c := c) t (by simpa using e)
    exact ⟨u, by simpa using h1, h2⟩
theorem RArgs.app {w : Wd} {m : Pl} {H : Hp} : ∀ {cs ds : List C} {vs us : List V}, RArgs w m H cs vs → RArgs w m H ds us → RArgs w m H (cs ++ ds) (vs ++ us)
  | _, _, _, _, .nil, s => s
  | _, _, _, _, .cons r t, s => .cons r (t.app s)
theorem RArgs.vals {w : Wd} {m : Pl} {H : Hp} : ∀ {as : List A} {vs : List V}, RAs w m H as vs → RArgs w m H (as.map .v) vs
  | _, _, .nil => .nil
  | _, _, .cons r t => .cons ⟨r, rfl, fun z => nomatch z⟩ (RArgs.vals t)
theorem arg_of {w : Wd} {m : Pl} {s : S} {σ : L2.St} {H H0 : Hp} {t : T} {v : V} {c : C} (r : Rel w m s σ H) (x : RT w σ H0 m s H t v) (h : argC s t = some c) : Arg w m H c v := by
  cases t with
  | v a => cases h; exact ⟨x, rfl, fun z => nomatch z⟩
  | tl xs =>
    cases h
    obtain ⟨p, rfl, hl, ht⟩ := x
    exact ⟨⟨p, rfl, hl.rb⟩, rfl, fun _ q e l hl => ht.2.1 (by cases e; exact .inl ⟨l, hl⟩)⟩
  | td xs =>
    cases h
    obtain ⟨p, rfl, hl, ht⟩ := x
    exact ⟨⟨p, rfl, hl.rb⟩, rfl, fun _ q e l hl => ht.2.1 (by cases e; exact .inl ⟨l, hl⟩)⟩
  | sl i =>
    have h : (match s.slot i with
      | some (.l _ xs) => some (C.l false xs)
      | some (.d _ kvs) => some (.d false kvs)
      | _ => none) = some c := h
    have x : σ[i]? = some (some v) := x
    cases hc : s.slot i with
    | none => rw [hc] at h; cases h
    | some k =>
      rw [hc] at h
      obtain ⟨u, e, z⟩ := r.slot i k hc
      rw [x] at e
      cases e
      have ap : ∀ (ho : k.own = true ∨ k.bor = true) p, v = .ref p → ∀ l, m l ≠ some p := fun ho p e l hl => by
        subst e
        rcases ho with ho | ho
        · exact r.ap1 i p ⟨x, k, hc, ho⟩ l hl
        · exact r.ap3 i p ⟨x, k, hc, ho⟩ (.inl ⟨l, hl⟩)
      cases k with
      | l o xs =>
        cases h
        cases o with
        | true => obtain ⟨p, e, z⟩ := z; exact ⟨⟨p, e, z.rb⟩, rfl, fun _ => ap (.inl rfl)⟩
        | false => obtain ⟨p, e, z⟩ := z; exact ⟨⟨p, e, z⟩, rfl, fun _ => ap (.inr rfl)⟩
      | d o xs =>
        cases h
        cases o with
        | true => obtain ⟨p, e, z⟩ := z; exact ⟨⟨p, e, z.rb⟩, rfl, fun _ => ap (.inl rfl)⟩
        | false => obtain ⟨p, e, z⟩ := z; exact ⟨⟨p, e, z⟩, rfl, fun _ => ap (.inr rfl)⟩
      | _ => cases h
theorem args_of {w : Wd} {m : Pl} {s : S} {σ : L2.St} {H H0 : Hp} (r : Rel w m s σ H) : ∀ {ts : List T} {vs : List V} {cs : List C}, RTs w σ H0 m s H ts vs → argCs s ts = some cs → RArgs w m H cs vs
  | _, _, _, .nil, e => by cases e; exact .nil
  | _, _, _, .cons h hs, e => by
    unfold argCs at e
    split at e
    · rename_i c cs e1 e2
      cases e
      exact .cons (arg_of r h e1) (args_of r hs e2)
    · cases e
def rcR (r : RC) : R T := match r with
  | .ok t st => .ok t ⟨[], st⟩
  | .exc c fs st => .exc c fs ⟨[], st⟩
  | .stuck => .stuck
/-- the promise of a def that does as f says -/
def spG (w : Wd) (f : List C → List O → RC) : Sp := fun vs H Q E => ∃ (m : Pl) (st : List O) (cs : List C), Rel w m ⟨[], st⟩ [] H ∧ RArgs w m H cs vs ∧ Pst w (fun cls d _ H' => E cls d H') (rT w) H m ⟨[], st⟩ [] H (rcR (f cs st)) Q
/-- a call's outcome at the caller -/
theorem call_pst {w : Wd} {W : WX} {m : Pl} {s : S} {σ : L2.St} {H H0 : Hp} {rc : RC} {Q : VK} (r : Rel w m s σ H) (g : Gone H0 H) (h : Pst w W (rT w) H0 m s σ H (rc.res s) Q) : Pst w (fun cls d _ H' => W cls d σ H') (rT w) H m ⟨[], s.st⟩ [] H (rcR rc) Q := by
  cases rc with
  | ok t st' =>
    intro m' H' b r' e' x'
    obtain ⟨r2, e2⟩ := r.up r' e'
    exact h m' H' b r2 e2 (x'.up r g)
  | exc c fs st' =>
    intro m' H' cls d r' e' x'
    obtain ⟨r2, e2⟩ := r.up r' e'
    exact h m' H' cls d r2 e2 x'
  | stuck => exact h
section
variable {X : Cx} {w : Wd} {W : WX}
theorem tE_call {f : List C → List O → RC} {fs : S → R (List T)} {ds : List A} {dvs : List V} {σ : L2.St} {H : Hp} {Q : VK} (hd : ∀ m H, RAs w m H ds dvs) (h : tE w W (fun s => (fs s).bind fun ts s1 => match argCs s1 ts with
    | some cs => (f (cs ++ ds.map .v) s1.st).res s1
    | none => .stuck) σ H Q) : tCallSD (spG w f) dvs (WE W) (tA w W fs) σ H Q := by
  obtain ⟨m, s, r, h⟩ := h
  refine ⟨m, s, r, (Pst.bind (rr := rTs w) h).mono fun vs H1 ⟨ts, s1, m1, _, r1, e1, x1, h1⟩ => ?_⟩
  split at h1
  · rename_i cs hcs
    exact ⟨m1, s1.st, _, r1.down, (args_of r1 x1 hcs).app (RArgs.vals (hd m1 H1)), call_pst r1 e1.gone h1⟩
  · exact h1.elim
variable {CX : CXT} {k : Nat} {a : Addr} {fd : FuncData} {ps : List Str} {dvs : List V} {ds : List Value} {x : Str} {p pos : Pos} {e : Expr} {es : List Expr}
theorem pe_callSD0 {sp : Sp} {E : L2.St → XK} (F : FnOk X.prog X.w X.K X.mg X.base CX k a fd ps sp) (hr : Room k X.A) (hg : Gl X x) (hm : X.mg x = some (.ref a)) (hk : PySem.W.keepIn X.K (.ref a) = true) (hb : Binds X.K fd ps ds) (hd : Vals dvs ds) (hx : ∀ σ, PassesAt CX X σ (E σ))
    (hdb : (x == ("__debug__" : Str)) = false) : PE X (.Call (.Name x p) [] [] pos) (tCallSD sp dvs E tNil) := by
  refine ⟨fun pins s σ H Q I h => ?_⟩
  refine wpAny_Call_Name_kw (ld_glob I hg hm ?_ hdb)
  exact PySem.W.callWith_K0 I.kIn hk (run_fnSD (us := []) F hr hb hd (hx σ) I .nil h)
theorem snd_call {f : List C → List O → RC} {fs : S → R (List T)} {das : List A} (F : FnOk X.prog X.w X.K X.mg X.base CX k a fd ps (spG w f)) (hr : Room k X.A) (hg : Gl X x) (hm : X.mg x = some (.ref a)) (hk : PySem.W.keepIn X.K (.ref a) = true) (hb : Binds X.K fd ps ds) (hd : Vals dvs ds)
    (hx : ∀ σ, PassesAt CX X σ (WE W σ)) (hds : ∀ m H, RAs w m H das dvs) (ha : SndA X w W (e :: es) fs) (hst : (e :: es).all notStar = true) (hdb : (x == ("__debug__" : Str)) = false) :
    Snd X w W (.Call (.Name x p) (e :: es) [] pos) (fun s => (fs s).bind fun ts s1 => match argCs s1 ts with
    | some cs => (f (cs ++ das.map .v) s1.st).res s1
    | none => .stuck) := by
  have hst2 := hst
  simp only [List.all_cons, Bool.and_eq_true] at hst2
  exact .of ((pe_callSD F hr hg hm hk hb hd hx ha.pa hdb (star_cons hst2.1) (star_any hst2.2)).imp fun σ H Q h => tE_call hds h) (by intro _; rfl)
theorem snd_call0 {f : List C → List O → RC} {das : List A} (F : FnOk X.prog X.w X.K X.mg X.base CX k a fd ps (spG w f)) (hr : Room k X.A) (hg : Gl X x) (hm : X.mg x = some (.ref a)) (hk : PySem.W.keepIn X.K (.ref a) = true) (hb : Binds X.K fd ps ds) (hd : Vals dvs ds)
    (hx : ∀ σ, PassesAt CX X σ (WE W σ)) (hds : ∀ m H, RAs w m H das dvs) (hdb : (x == ("__debug__" : Str)) = false) :
    Snd X w W (.Call (.Name x p) [] [] pos) (fun s => (R.ok [] s).bind fun ts s1 => match argCs s1 ts with
    | some cs => (f (cs ++ das.map .v) s1.st).res s1
    | none => .stuck) :=
  .of ((pe_callSD0 F hr hg hm hk hb hd hx hdb).imp fun σ H Q h => (by
    have q := tE_call (fs := fun s => R.ok [] s) hds h
    obtain ⟨m, s, r, q⟩ := q
    exact q.fin r .nil)) (by intro _; rfl)
end
end CE
end CEm
section CEmc
set_option maxRecDepth 100000
set_option maxHeartbeats 2000000
namespace CE
open PySem PySem.Spec PyProof.Rows L2
section
variable {w : Wd} {m : Pl} {s s' : S} {σ : L2.St} {H H0 : Hp}
theorem RFs.lookup {f : Str} : ∀ {fs : List (Str × A)} {gs : List (Str × V)}, RFs w m H fs gs → (∀ a, fs.lookup f = some a → ∃ v, gs.lookup f = some v ∧ RA w m H a v) ∧ (fs.lookup f = none → gs.lookup f = none)
  | _, _, .nil => ⟨fun a h => (by cases h), fun h => rfl⟩
  | _, _, .cons (f := g) (a := b) (as := as) (v := u) (vs := us) r t => by
    obtain ⟨h1, h2⟩ := t.lookup (f := f)
    by_cases e : (f == g) = true
    · refine ⟨fun a h => ?_, fun h => ?_⟩
      · rw [List.lookup_cons, e] at h ⊢
        cases h
        exact ⟨u, rfl, r⟩
      · rw [List.lookup_cons, e] at h
        cases h
    · have e : (f == g) = false := by simpa using e
      refine ⟨fun a h => ?_, fun h => ?_⟩
      · rw [List.lookup_cons, e] at h ⊢
        exact h1 a h
      · rw [List.lookup_cons, e] at h ⊢
        exact h2 h
theorem RFs.put {f : Str} {a : A} {v : V} (ra : RA w m H a v) : ∀ {fs : List (Str × A)} {gs : List (Str × V)}, RFs w m H fs gs → RFs w m H (putFA f a fs) (putF f v gs)
  | _, _, .nil => .cons ra .nil
  | _, _, .cons (f := g) r t => by
    unfold putFA putF
    by_cases e : g = f
    · subst e
      rw [if_pos rfl, if_pos rfl]
      exact .cons ra t
    · rw [if_neg e, if_neg e]
      exact .cons r (t.put ra)
theorem RFs.len : ∀ {fs : List (Str × A)} {gs : List (Str × V)}, RFs w m H fs gs → fs.length = gs.length
  | _, _, .nil => rfl
  | _, _, .cons _ t => congrArg Nat.succ t.len
/-- an instance: where it stands -/
theorem inst_of {x : T} {v : V} {k : Str} {fs : List (Str × A)} (r : Rel w m s σ H) (h : RT w σ H0 m s H x v) (e : instOf s x = some (k, fs)) :
    ∃ l a C dx fs', x = .v (.ref l) ∧ s.st[l]? = some (.ins k fs) ∧ m l = some a ∧ v = .ref a ∧ w.ca k = some C ∧ H a = some (.ins C dx fs') ∧ RFs w m H fs fs' := by
  unfold instOf at e
  split at e
  · rename_i l
    split at e
    · rename_i k' fs0 hl
      cases e
      obtain ⟨p, e1, C, dx, fs', hc, hp, rf⟩ := r.st l _ hl
      cases h with
      | ref hm => rw [hm] at e1; cases e1; exact ⟨l, p, C, dx, fs', rfl, hl, hm, rfl, hc, hp, rf⟩
    · cases e
  · cases e
theorem setF_of {fl : Str → Str → Bool} {x : T} {v : V} {f : Str} {a : A} {y : V} (r : Rel w m s σ H) (h : RT w σ H0 m s H x v) (ra : RA w m H a y) (e : setF fl s x f a = some s') :
    ∃ k p C dx fs', (instOf s x).map (·.1) = some k ∧ v = .ref p ∧ w.ca k = some C ∧ fl k f = true ∧ H p = some (.ins C dx fs') ∧ fs'.length < 1000 ∧ Rel w m s' σ (upd H p (.ins C dx (putF f y fs'))) ∧ Ext m s σ H m s' σ (upd H p (.ins C dx (putF f y fs'))) ∧ Stb m H m (upd H p (.ins C dx (putF f y fs'))) := by
  unfold setF at e
  split at e
  · rename_i l
    split at e
    · rename_i k fs hl
      split at e
      · rename_i hb
        cases e
        rw [Bool.and_eq_true] at hb
        obtain ⟨p, e1, C, dx, fs', hc, hp, rf⟩ := r.st l _ hl
        cases h with
        | ref hm =>
          rw [hm] at e1
          cases e1
          have hbs : Stb m H m (upd H p (.ins C dx (putF f y fs'))) := stb_own r (.inl ⟨l, hm⟩)
          exact ⟨k, p, C, dx, fs', (by unfold instOf; dsimp only; rw [hl] <;> rfl), rfl, hc, hb.1, hp, by rw [← rf.len]; exact of_decide_eq_true hb.2, r.setSt hl hm ⟨C, dx, _, hc, upd_same, (rf.put ra).stb hbs⟩, Ext.setSt hm, hbs⟩
      · cases e
    · cases e
  · cases e
end
section
variable {X : Cx} {w : Wd} {W : WX}
/-- what is known of the classes -/
def ClsOk (X : Cx) (w : Wd) (fl : Str → Str → Bool) : Prop := ∀ k C f, w.ca k = some C → fl k f = true → Cls X.K C ∧ NoAttr X.K C f
theorem snd_fld {fl : Str → Str → Bool} {e : Expr} {f : Str} {pos : Pos} {fe : S → R T} (hc : ClsOk X w fl) (he : Snd X w W e fe) (hb : baseOk e = true) :
    Snd X w W (.Attribute e f pos) (fun s => (fe s).bind fun x s1 => match instOf s1 x with
    | some (k, fs) => if fl k f then match fs.lookup f with
      | some a => .ok (.v a) s1
      | none => .stuck else .stuck
    | none => .stuck) := by
  refine .of ((pe_fld he.pe (base_of hb)).imp fun σ H Q ⟨m, s, r, h⟩ => ⟨m, s, r, (Pst.bind (rr := rT w) h).mono fun v H1 ⟨x, s1, m1, _, r1, e1, x1, h1⟩ => ?_⟩) (by intro _; rfl)
  split at h1
  · rename_i k fs hi
    split at h1
    · rename_i hf
      split at h1
      · rename_i a ha
        obtain ⟨l, p, C, dx, fs', _, _, _, rfl, hca, hp, rf⟩ := inst_of r1 x1 hi
        obtain ⟨y, hy, ry⟩ := rf.lookup.1 a ha
        obtain ⟨c1, c2⟩ := hc k C f hca hf
        exact ⟨p, C, dx, fs', y, rfl, hp, c1, c2, hy, h1.fin r1 ry⟩
      · exact h1.elim
    · exact h1.elim
  · exact h1.elim
/-- o.f as a target -/
def gFld (K : PySem.W.Frag) (to : TE) (f : Str) : TG := fun v σ H Q => to σ H fun o H1 => ∃ a C dx fs, o = .ref a ∧ H1 a = some (.ins C dx fs) ∧ Cls K C ∧ NoAttr K C f ∧ fs.length < 1000 ∧ Q σ (upd H1 a (.ins C dx (putF f v fs)))
theorem pg_fld {o : Expr} {f : Str} {pos : Pos} {to : TE} (ho : PE X o to) : PG X (.Attribute o f pos) (gFld X.K to f) := by
  refine ⟨fun pins s σ H v u Q I r h => ?_⟩
  show wpAny _ _ (do
    let ov ← holding [u] (eval o X.env)
    standAt pos.atName
    holding [u, ov] (setAttr ov f u)
    release [u, ov] []) _ _ _
  refine wpAny_bind (wpAny_holding (thn (ho.run pins s σ H _ I h) fun ov s1 ⟨x, H1, I1, r1, a, C, dx, fs, ex, ea, c, n, hl, q⟩ => ?_))
  subst ex
  obtain rfl : ov = Value.ref a := r1
  refine wpAny_bind (wpAny_standAt (wpAny_bind (wpAny_holding ?_)))
  exact setattr_ok I1 ea c n hl r fun s2 I2 => wpAny_release ⟨σ, _, I2, q⟩
/-- what is known of a method -/
def MthOk (X : Cx) (w : Wd) (CX : CXT) (call : CallF) (k : Str) (mn : Str) (i : Nat) : Prop := ∀ C, w.ca k = some C → Cls X.K C ∧ ∃ (a : Addr) (n : Nat) (fd : FuncData) (ps : List Str), Meth X.K C mn a ∧ FnOk X.prog X.w X.K X.mg X.base CX n a fd ps (spG w (call i)) ∧ Room n X.A ∧ Binds X.K fd ps []
def tMethX (X : Cx) (CX : CXT) (E : L2.St → XK) (mn : Str) (ta : TE) (t : TA) : TE := fun σ H Q => ta σ H fun x H1 => ∃ a C dx fs g n fd ps sp, x = .ref a ∧ H1 a = some (.ins C dx fs) ∧ Cls X.K C ∧ Meth X.K C mn g ∧ fs.lookup mn = none ∧
  FnOk X.prog X.w X.K X.mg X.base CX n g fd ps sp ∧ Room n X.A ∧ Binds X.K fd ps [] ∧ t σ H1 fun vs H2 => sp (x :: (vs ++ [])) H2 Q (E σ)
variable {CX : CXT} {mn : Str} {o e : Expr} {es : List Expr} {ta : TE} {t : TA} {apos pos : Pos} {E : L2.St → XK}
theorem pe_methX {pl : Sem Bool} (he : PE X o ta) (hx : ∀ σ, PassesAt CX X σ (E σ)) (ha : PA X (e :: es) t)
    (hst : starEach (e :: es) X.env = (false, eval e X.env) :: starEach es X.env) (hpl : (backTo pos (starEach es X.env)).any (·.1) = false)
    (ht : eval (.Call (.Attribute o mn apos) (e :: es) [] pos) X.env = (do
      let ov ← eval o X.env
      standAt apos.atName
      let (f, first) ← holding [ov] (getMethod ov mn pl)
      callWith pos f first (backTo pos (starEach (e :: es) X.env)) (backToKw pos (keywordEach [] X.env)))) :
    PE X (.Call (.Attribute o mn apos) (e :: es) [] pos) (tMethX X CX E mn ta t) := by
  refine ⟨fun pins s σ H Q I h => ?_⟩
  refine PySem.W.methodCall_KW (pl := pl) (thn (he.run pins s σ H _ I h) fun u s1 ⟨x, H1, I1, rx, a, C, dx, fs, g, n, fd, ps, sp, ex, ea, c, hm, l, F, hr, hb, q⟩ => ?_) ht
  subst ex
  obtain rfl : u = Value.ref a := rx
  refine getmeth_ok I1 ea c hm l ?_
  refine PySem.W.callWith_K (first := [.ref a]) (h₀ := X.base) I.ok.mod.kin hm.kp (thn (ha.run pos pins s1 σ H1 _ I1 q) fun us s2 ⟨vs, H2, I2, r, q2⟩ => ⟨I2.kIn, ?_⟩) hst hpl
  exact run_fnSD (us := .ref a :: us) (vs := .ref a :: vs) F hr hb .nil (hx σ) I2 (.cons rfl r) q2
theorem pe_methX0 {pl : Sem Bool} (he : PE X o ta) (hx : ∀ σ, PassesAt CX X σ (E σ))
    (ht : eval (.Call (.Attribute o mn apos) [] [] pos) X.env = (do
      let ov ← eval o X.env
      standAt apos.atName
      let (f, first) ← holding [ov] (getMethod ov mn pl)
      callWith pos f first (backTo pos (starEach [] X.env)) (backToKw pos (keywordEach [] X.env)))) :
    PE X (.Call (.Attribute o mn apos) [] [] pos) (tMethX X CX E mn ta tNil) := by
  refine ⟨fun pins s σ H Q I h => ?_⟩
  refine PySem.W.methodCall_KW (pl := pl) (thn (he.run pins s σ H _ I h) fun u s1 ⟨x, H1, I1, rx, a, C, dx, fs, g, n, fd, ps, sp, ex, ea, c, hm, l, F, hr, hb, q⟩ => ?_) ht
  subst ex
  obtain rfl : u = Value.ref a := rx
  refine getmeth_ok I1 ea c hm l ?_
  exact PySem.W.callWith_K0 (first := [.ref a]) I1.kIn hm.kp (run_fnSD (us := [.ref a]) (vs := [.ref a]) F hr hb .nil (hx σ) I1 (.cons rfl .nil) q)
def mcF (meth : Str → Str → Option Nat) (call : CallF) (mn : Str) (fo : S → R T) (fs : S → R (List T)) : S → R T := fun s => (fo s).bind fun x s1 => match instOf s1 x with
    | some (k, fl) => match fl.lookup mn, meth k mn with
      | none, some f => (fs s1).bind fun ts s2 => match argC s2 x, argCs s2 ts with
        | some x', some cs => (call f (x' :: cs) s2.st).res s2
        | _, _ => .stuck
      | _, _ => .stuck
    | none => .stuck
theorem tE_mc {meth : Str → Str → Option Nat} {call : CallF} {fo : S → R T} {fs : S → R (List T)} {σ : L2.St} {H : Hp} {Q : VK} (hM : ∀ k i, meth k mn = some i → MthOk X w CX call k mn i) (h : tE w W (mcF meth call mn fo fs) σ H Q) : tMethX X CX (WE W) mn (tE w W fo) (tA w W fs) σ H Q := by
  obtain ⟨m, s, r, h⟩ := h
  refine ⟨m, s, r, (Pst.bind (rr := rT w) h).mono fun v H1 ⟨x, s1, m1, _, r1, e1, x1, h1⟩ => ?_⟩
  split at h1
  · rename_i k fl hi
    split at h1
    · rename_i f hl hm
      obtain ⟨l, p, C, dx, fs', ex, _, hml, rfl, hca, hp, rf⟩ := inst_of r1 x1 hi
      obtain ⟨c, a, n, fd, ps, hme, F, hr, hb⟩ := hM k f hm C hca
      refine ⟨p, C, dx, fs', a, n, fd, ps, _, rfl, hp, c, hme, rf.lookup.2 hl, F, hr, hb, m1, s1, r1, (Pst.bind (rr := rTs w) h1).mono fun vs H2 ⟨ts, s2, m2, _, r2, e2, x2, h2⟩ => ?_⟩
      subst ex
      have x1' := x1.ext r1 e2
      split at h2
      · rename_i x' cs hx' hcs
        cases hx'
        rw [List.append_nil]
        exact ⟨m2, s2.st, _, r2.down, .cons (c := .v (.ref l)) ⟨x1', rfl, fun z => (by cases z)⟩ (args_of r2 x2 hcs), call_pst r2 (e1.trans e2).gone h2⟩
      · exact h2.elim
    · exact h1.elim
  · exact h1.elim
/-- the form of a method call: no super -/
theorem mc_eval {o : Expr} {mn : Str} {args : List Expr} {apos pos : Pos} {env : Env} (hb : baseOk o = true) (hl : (apos.endLine == pos.line) = true) (hn : args.length < 30) (hs : args.all notStar = true) :
    ∃ pl : Sem Bool, eval (.Call (.Attribute o mn apos) args [] pos) env = (do
      let ov ← eval o env
      standAt apos.atName
      let (f, first) ← holding [ov] (getMethod ov mn pl)
      callWith pos f first (backTo pos (starEach args env)) (backToKw pos (keywordEach [] env))) := by
  refine ⟨do return (← importBound o env).getD true, ?_⟩
  have few : methodCallForm args.length (backTo pos (starEach args env)) (backToKw pos (keywordEach [] env)) = true := by
    unfold methodCallForm
    rw [star_all hs]
    simp [keywordEach, backToKw, hn]
  have e1 : eval (.Call (.Attribute o mn apos) args [] pos) env = (do
      let ov ← attributeBase o mn env (eval o env)
      standAt apos.atName
      methodCall o mn apos pos env ov args.length (backTo pos (starEach args env)) (backToKw pos (keywordEach [] env))) := rfl
  rw [e1, base_of hb]
  unfold methodCall calleeOf methodCallPos
  rw [few, hl]
  rfl
/-- o.m(..) -/
theorem snd_mc {meth : Str → Str → Option Nat} {call : CallF} {fo : S → R T} {fs : S → R (List T)} {args : List Expr} (hM : ∀ k i, meth k mn = some i → MthOk X w (L2.CX X.prog X.w) call k mn i) (tk : Takes X W) (ho : Snd X w W o fo) (ha : SndA X w W args fs) (h0 : args = [] → fs = fun s => .ok [] s)
    (hb : baseOk o = true) (hl : (apos.endLine == pos.line) = true) (hn : args.length < 30) (hs : args.all notStar = true) : Snd X w W (.Call (.Attribute o mn apos) args [] pos) (mcF meth call mn fo fs) := by
  obtain ⟨pl, ht⟩ := mc_eval (env := X.env) (mn := mn) hb hl hn hs
  cases args with
  | nil =>
    refine .of ((pe_methX0 (pl := pl) ho.pe (fun σ => passAt tk σ) ht).imp fun σ H Q h => ?_) (by intro _; rfl)
    have q := tE_mc hM h
    obtain ⟨m, s, r, q⟩ := q
    refine ⟨m, s, r, Pst.mono q fun v H1 ⟨a, C, dx, fs', g, n, fd, ps, sp, q1, q2, q3, q4, q5, q6, q7, q8, q9⟩ => ⟨a, C, dx, fs', g, n, fd, ps, sp, q1, q2, q3, q4, q5, q6, q7, q8, ?_⟩⟩
    rw [h0 rfl] at q9
    obtain ⟨m1, s1, r1, q9⟩ := q9
    exact q9.fin r1 .nil
  | cons y ys =>
    have hs2 := hs
    simp only [List.all_cons, Bool.and_eq_true] at hs2
    exact .of ((pe_methX (pl := pl) ho.pe (fun σ => passAt tk σ) ha.pa (star_cons hs2.1) (star_any hs2.2) ht).imp fun σ H Q h => tE_mc hM h) (by intro _; rfl)
end
end CE
end CEmc
section CEmd
set_option maxRecDepth 100000
set_option maxHeartbeats 2000000
namespace CE
open PySem PySem.Spec PyProof.Rows L2
theorem RArgs.ext {w : Wd} {m m' : Pl} {H H' : Hp} (b : Stb m H m' H') (fr : ∀ p o, H p = some o → H' p = some o) (nw : ∀ l p, m' l = some p → m l = some p ∨ H p = none) : ∀ {cs : List C} {vs : List V}, RArgs w m H cs vs → RArgs w m' H' cs vs
  | _, _, .nil => .nil
  | _, _, .cons ⟨h1, h2, h3⟩ t => .cons ⟨h1.at b fun q _ _ o e => fr q o e, h2, fun hb p ev l hl => by
      rcases nw l p hl with z | z
      · exact h3 hb p ev l z
      · obtain ⟨q, e, nz⟩ := h1.ref (.inr hb)
        rw [ev] at e
        cases e
        exact nz z⟩ (t.ext b fr nw)
section
variable {X : Cx} {CX : CXT} {k : Nat} {f C : Addr} {fd : FuncData} {ps : List Str} {sp : Sp} {dvs : List V} {ds : List Value} {E : L2.St → XK} {x : Str} {p pos : Pos} {e : Expr} {es : List Expr} {t : TA}
theorem run_makeSD {pins : List (Addr × Obj)} {σ : L2.St} {H : Hp} {s : Shared} {Q : VK} {us : List Value} {vs : List V} (M : Mk X.K C f) (F : FnOk X.prog X.w X.K X.mg X.base CX k f fd ps sp) (hr : Room (k + 1) X.A) (hb : Binds X.K fd ps ds) (hd : Vals dvs ds)
    (hx : PassesAt CX X σ (E σ)) (I : Inv X pins σ H s) (r : Vals vs us)
    (h : ∀ x dx, H x = none → H dx = none → dx ≠ x → sp (.ref x :: (vs ++ dvs)) (upd (upd H dx (.own x)) x (.ins C dx [])) (fun v H2 => v = .non ∧ Q (.ref x) H2) (E σ)) :
    wpAny (model X.prog X.w) X.A (call (.ref C) us) (EP X pins σ Q) X.xe s := by
  have hq := h (s.heap.objs.size + 1) s.heap.objs.size (I.hok.fresh (Nat.le_succ _)) (I.hok.fresh (Nat.le_refl _)) (Nat.ne_of_lt (Nat.lt_succ_self _))
  have I2 := Inv.made (C := C) I
  have r2 : Vals (V.ref (s.heap.objs.size + 1) :: (vs ++ dvs)) (Value.ref (s.heap.objs.size + 1) :: (us ++ ds)) := .cons rfl (r.append hd)
  have hl : (Value.ref (s.heap.objs.size + 1) :: us ++ ds).length = ps.length := by
    have e := r2.length
    rw [F.len _ _ _ _ hq] at e
    exact e.symm
  refine wpAny_call (make_map (f := f) I.kIn M.makes M.init (beq_iff_eq.mp M.fn) (codeAny_mono (F.run _ X.stack _ _ ⟨Value.ref (s.heap.objs.size + 1) :: us, []⟩ (Value.ref (s.heap.objs.size + 1) :: (us ++ ds)) _ _ (E σ) (hr.make C us [])
    (I2.env0.make C us []) (hb _ (Value.ref (s.heap.objs.size + 1) :: us) I2.kIn hl) r2 hq) fun r s' hq' => ?_))
  cases r with
  | error e => exact hx pins _ _ e s' I2 hq'
  | ok fl =>
    cases fl with
    | ret u =>
      obtain ⟨v, H', I3, rv, ev, q3⟩ := I2.after hq'
      subst ev
      exact ⟨rv, ⟨V.ref (s.heap.objs.size + 1), H', I3, rfl, q3⟩⟩
    | next => exact False.elim hq'
    | brk => exact False.elim hq'
    | cont => exact False.elim hq'
def tMakeSD (C : Addr) (sp : Sp) (dvs : List V) (E : L2.St → XK) (t : TA) : TE := fun σ H Q => t σ H fun vs H1 => ∀ x dx, H1 x = none → H1 dx = none → dx ≠ x → sp (.ref x :: (vs ++ dvs)) (upd (upd H1 dx (.own x)) x (.ins C dx [])) (fun v H2 => v = .non ∧ Q (.ref x) H2) (E σ)
theorem pe_makeSD (M : Mk X.K C f) (F : FnOk X.prog X.w X.K X.mg X.base CX k f fd ps sp) (hr : Room (k + 1) X.A) (hg : Gl X x) (hm : X.mg x = some (.ref C)) (hb : Binds X.K fd ps ds) (hd : Vals dvs ds) (hx : ∀ σ, PassesAt CX X σ (E σ))
    (ha : PA X (e :: es) t) (hdb : (x == ("__debug__" : Str)) = false) (he : starEach (e :: es) X.env = (false, eval e X.env) :: starEach es X.env) (hpl : (backTo pos (starEach es X.env)).any (·.1) = false) :
    PE X (.Call (.Name x p) (e :: es) [] pos) (tMakeSD C sp dvs E t) := by
  refine ⟨fun pins s σ H Q I h => ?_⟩
  refine wpAny_Call_Name_kw (ld_glob I hg hm ?_ hdb)
  refine PySem.W.callWith_K (h₀ := X.base) I.ok.mod.kin M.kp (thn (ha.run pos pins s σ H _ I h) fun us s1 ⟨vs, H1, I1, r, q⟩ => ⟨I1.kIn, ?_⟩) he hpl
  exact run_makeSD M F hr hb hd (hx σ) I1 r q
theorem pe_makeSD0 (M : Mk X.K C f) (F : FnOk X.prog X.w X.K X.mg X.base CX k f fd ps sp) (hr : Room (k + 1) X.A) (hg : Gl X x) (hm : X.mg x = some (.ref C)) (hb : Binds X.K fd ps ds) (hd : Vals dvs ds) (hx : ∀ σ, PassesAt CX X σ (E σ))
    (hdb : (x == ("__debug__" : Str)) = false) : PE X (.Call (.Name x p) [] [] pos) (tMakeSD C sp dvs E tNil) := by
  refine ⟨fun pins s σ H Q I h => ?_⟩
  refine wpAny_Call_Name_kw (ld_glob I hg hm ?_ hdb)
  exact PySem.W.callWith_K0 I.kIn M.kp (run_makeSD (us := []) M F hr hb hd (hx σ) I .nil h)
end
section
variable {X : Cx} {w : Wd} {W : WX}
def mkF (call : CallF) (k : Str) (i : Nat) (ds : List A) (fs : S → R (List T)) : S → R T := fun s => (fs s).bind fun ts s1 => match argCs s1 ts with
    | some cs => ((call i (.v (.ref s1.st.length) :: (cs ++ ds.map .v)) (s1.new (.ins k [])).st).res (s1.new (.ins k []))).bind fun t s2 => match t with
      | .v .non => .ok (.v (.ref s1.st.length)) s2
      | _ => .stuck
    | none => .stuck
theorem tE_mk {call : CallF} {k : Str} {i : Nat} {C : Addr} {das : List A} {dvs : List V} {fs : S → R (List T)} {σ : L2.St} {H : Hp} {Q : VK} (hca : w.ca k = some C) (hd : ∀ m H, RAs w m H das dvs) (h : tE w W (mkF call k i das fs) σ H Q) :
    tMakeSD C (spG w (call i)) dvs (WE W) (tA w W fs) σ H Q := by
  obtain ⟨m, s, r, h⟩ := h
  refine ⟨m, s, r, (Pst.bind (rr := rTs w) h).mono fun vs H1 ⟨ts, s1, m1, _, r1, e1, x1, h1⟩ a dx ha hdx hne => ?_⟩
  split at h1
  · rename_i cs hcs
    have hax : (upd H1 dx (.own a)) a = none := by rw [upd_ne (Ne.symm hne)]; exact ha
    have rN : Rel w m1 s1 σ (upd (upd H1 dx (.own a)) a (.ins C dx [])) := (r1.new hdx).new hax
    have eN : Ext m1 s1 σ H1 m1 s1 σ (upd (upd H1 dx (.own a)) a (.ins C dx [])) := (Ext.newO hdx).trans (Ext.newO hax)
    have tm := tmp_new r1 ha
    have r2 : Rel w (plc m1 s1 a) (s1.new (.ins k [])) σ (upd (upd H1 dx (.own a)) a (.ins C dx [])) := rN.place tm.2.1 tm.2.2 ⟨C, dx, [], hca, upd_same, .nil⟩
    have e2 : Ext m1 s1 σ H1 (plc m1 s1 a) (s1.new (.ins k [])) σ (upd (upd H1 dx (.own a)) a (.ins C dx [])) := eN.place rN ha
    have ra : RArgs w (plc m1 s1 a) (upd (upd H1 dx (.own a)) a (.ins C dx [])) (cs ++ das.map .v) (vs ++ dvs) := by
      refine RArgs.app ((args_of r1 x1 hcs).ext (e2.stb r1) (fun p o e => ?_) fun l p hl => ?_) (RArgs.vals (hd _ _))
      · rw [upd_ne (fun z => by rw [z, ha] at e; cases e), upd_ne (fun z => by rw [z, hdx] at e; cases e)]; exact e
      · rcases plc_cases hl with ⟨_, z⟩ | z
        · exact .inr (z ▸ ha)
        · exact .inl z
    have h2 := (Pst.bind (rr := rT w) (h1.at e2))
    refine ⟨plc m1 s1 a, (s1.new (.ins k [])).st, .v (.ref s1.st.length) :: (cs ++ das.map .v), r2.down, .cons (c := .v (.ref s1.st.length)) ⟨RA.ref plc_at, rfl, fun z => (by cases z)⟩ ra, ?_⟩
    refine Pst.mono (call_pst (W := W) r2 (fun _ z => z) h2) fun v Hx ⟨t, s3, m3, _, r3, e3, x3, h3⟩ => ?_
    split at h3
    · cases x3
      have e4 : Ext m1 s1 σ H1 m3 s3 σ Hx := e2.trans e3
      exact ⟨rfl, h3.fin r3 (.ref (e3.mono _ _ plc_at))⟩
    · exact h3.elim
  · exact h1.elim
variable {CX : CXT} {n : Nat} {f C : Addr} {fd : FuncData} {ps : List Str} {dvs : List V} {ds : List Value} {x : Str} {p pos : Pos} {args : List Expr}
theorem snd_mk {call : CallF} {k : Str} {i : Nat} {das : List A} {fs : S → R (List T)} (M : Mk X.K C f) (F : FnOk X.prog X.w X.K X.mg X.base CX n f fd ps (spG w (call i))) (hr : Room (n + 1) X.A) (hg : Gl X x) (hm : X.mg x = some (.ref C)) (hb : Binds X.K fd ps ds) (hd : Vals dvs ds) (hx : ∀ σ, PassesAt CX X σ (WE W σ))
    (hca : w.ca k = some C) (hds : ∀ m H, RAs w m H das dvs) (ha : SndA X w W args fs) (h0 : args = [] → fs = fun s => .ok [] s) (hst : args.all notStar = true) (hdb : (x == ("__debug__" : Str)) = false) : Snd X w W (.Call (.Name x p) args [] pos) (mkF call k i das fs) := by
  cases args with
  | nil =>
    refine .of ((pe_makeSD0 M F hr hg hm hb hd hx hdb).imp fun σ H Q h => ?_) (by intro _; rfl)
    have q := tE_mk hca hds h
    rw [h0 rfl] at q
    obtain ⟨m, s, r, q⟩ := q
    exact q.fin r .nil
  | cons y ys =>
    have hst2 := hst
    simp only [List.all_cons, Bool.and_eq_true] at hst2
    exact .of ((pe_makeSD M F hr hg hm hb hd hx ha.pa hdb (star_cons hst2.1) (star_any hst2.2)).imp fun σ H Q h => tE_mk hca hds h) (by intro _; rfl)
end
end CE
end CEmd
section CEn
set_option maxRecDepth 100000
set_option maxHeartbeats 2000000
namespace CE
open PySem PySem.Spec PyProof.Rows L2
theorem getElem?_borE (env : List (Option C)) (j : Nat) : ∀ is : List Nat, (borE env is)[j]? = env[j]?.map fun c => if j ∈ is then c.map dg else c
  | [] => by simp [borE]
  | i :: is => by
    have ih := getElem?_borE env j is
    unfold borE
    rw [List.getElem?_modify, ih]
    cases env[j]? with
    | none => simp
    | some c =>
      by_cases e : i = j
      · subst e
        by_cases h : i ∈ is
        · cases c with
          | none => simp [h]
          | some c => cases c <;> simp [h, dg]
        · simp [h]
      · simp [e, Ne.symm e]
abbrev S.lend (s : S) (is : List Nat) : S := { s with env := borE s.env is }
theorem slot_lend (s : S) (is : List Nat) (j : Nat) : (s.lend is).slot j = (s.slot j).map fun c => if j ∈ is then dg c else c := by
  unfold S.slot
  show ((borE s.env is)[j]?).bind id = _
  rw [getElem?_borE]
  cases s.env[j]? with
  | none => rfl
  | some c => cases c with
    | none => by_cases h : j ∈ is <;> simp [h]
    | some c => by_cases h : j ∈ is <;> simp [h]
theorem dg_own (c : C) : (dg c).own = false := by cases c <;> rfl
theorem dg_bor {c : C} (h : (dg c).bor = true) : c.own = true ∨ c.bor = true := by
  cases c with
  | l o xs => cases o <;> first | exact .inl rfl | exact .inr rfl
  | d o xs => cases o <;> first | exact .inl rfl | exact .inr rfl
  | _ => cases h
theorem len_borE (env : List (Option C)) : ∀ is : List Nat, (borE env is).length = env.length
  | [] => rfl
  | i :: is => by unfold borE; rw [List.length_modify]; exact len_borE env is
section
variable {w : Wd} {m m0 : Pl} {s s0 : S} {σ σ0 : L2.St} {H H0 : Hp} {is : List Nat}
theorem RSl.dg {c : C} {v : V} (h : RSl w m H c v) : RSl w m H (dg c) v := by
  cases c with
  | l o xs => cases o with
    | true => obtain ⟨p, e, z⟩ := h; exact ⟨p, e, z.rb⟩
    | false => exact h
  | d o xs => cases o with
    | true => obtain ⟨p, e, z⟩ := h; exact ⟨p, e, z.rb⟩
    | false => exact h
  | _ => exact h
theorem own_lend {j : Nat} {q : Addr} (h : OwnS (s.lend is) σ j q) : OwnS s σ j q ∧ j ∉ is := by
  obtain ⟨e, d, hd, hdo⟩ := h
  rw [slot_lend] at hd
  obtain ⟨c, hc, e2⟩ := Option.map_eq_some_iff.mp hd
  subst e2
  by_cases hj : j ∈ is
  · rw [if_pos hj, dg_own] at hdo; cases hdo
  · rw [if_neg hj] at hdo; exact ⟨⟨e, c, hc, hdo⟩, hj⟩
theorem bor_lend {j : Nat} {q : Addr} (h : BorS (s.lend is) σ j q) : BorS s σ j q ∨ (OwnS s σ j q ∧ j ∈ is) := by
  obtain ⟨e, d, hd, hdo⟩ := h
  rw [slot_lend] at hd
  obtain ⟨c, hc, e2⟩ := Option.map_eq_some_iff.mp hd
  subst e2
  by_cases hj : j ∈ is
  · rw [if_pos hj] at hdo
    rcases dg_bor hdo with k | k
    · exact .inr ⟨⟨e, c, hc, k⟩, hj⟩
    · exact .inl ⟨e, c, hc, k⟩
  · rw [if_neg hj] at hdo; exact .inl ⟨e, c, hc, hdo⟩
theorem Rel.lend (r : Rel w m s σ H) (is : List Nat) : Rel w m (s.lend is) σ H := by
  refine ⟨by show (borE s.env is).length = _; rw [len_borE]; exact r.len, fun j d h => ?_, r.st, r.dom, r.inj, fun j q h => r.ap1 j q (own_lend h).1, fun j k q h h' => r.ap2 j k q (own_lend h).1 (own_lend h').1, fun j q h h' => ?_⟩
  · rw [slot_lend] at h
    obtain ⟨c, hc, e⟩ := Option.map_eq_some_iff.mp h
    subst e
    obtain ⟨v, e1, z⟩ := r.slot j c hc
    refine ⟨v, e1, ?_⟩
    split
    · exact z.dg
    · exact z
  · rcases bor_lend h with h | ⟨h, hj⟩
    · rcases h' with h' | ⟨k, h'⟩
      · exact r.ap3 j q h (.inl h')
      · exact r.ap3 j q h (.inr ⟨k, (own_lend h').1⟩)
    · rcases h' with ⟨l, h'⟩ | ⟨k, h'⟩
      · exact r.ap1 j q h l h'
      · obtain ⟨h', hk⟩ := own_lend h'
        exact hk (r.ap2 j k q h h' ▸ hj)
theorem Ext.lend {H1 : Hp} (x : Ext m0 s0 σ0 H0 m s σ H1) (is : List Nat) : Ext m0 s0 σ0 H0 m (s.lend is) σ H1 := by
  refine ⟨x.mono, x.newM, fun j q h => x.newS j q (own_lend h).1, fun j q h => ?_, x.frame, x.keep⟩
  rcases bor_lend h with h | ⟨h, _⟩
  · exact x.bor j q h
  · exact .inr (x.newS j q h)
/-- J walks the items xs as long as what it reads stays -/
structure Wlk (w : Wd) (J : It) (xs : List A) (m : Pl) (s : S) (σ : L2.St) (H : Hp) : Prop where
  stop : ∀ m' s' σ' H', Ext m s σ H m' s' σ' H' → ∀ i, xs.length ≤ i → J.stop i H'
  go : ∀ m' s' σ' H', Ext m s σ H m' s' σ' H' → ∀ i a, xs[i]? = some a → J.go i H' ∧ ∀ x H'', J.yld i H' x H'' → (H'' = H' ∨ ∃ p o, H' p = none ∧ H'' = upd H' p o) ∧ RA w m' H'' a x
abbrev rIt (w : Wd) : RR (List A × List Nat) It := fun σ _ m s H a J => Wlk w J a.1 m (s.lend a.2) σ H
instance {w : Wd} : Back (rIt w) := ⟨fun _ h => h⟩
theorem PI_imp {X : Cx} {tg e : Expr} {t t' : TI} (h : PI X tg e t) (k : ∀ σ H R, t' σ H R → t σ H R) : PI X tg e t' := ⟨fun pins s σ H R I q => h.run pins s σ H R I (k σ H R q)⟩
structure SndI (X : Cx) (w : Wd) (W : WX) (tg e : Expr) (f : S → R (List A × List Nat)) : Prop where
  pi : PI X tg e (tG w W (rIt w) f)
theorem not_own_frz {p : Addr} {o : Obj} {u : HO} (r : Rel w m s σ H) (h : H p = some (.frz o u)) : ¬ Own m s σ p := fun z => by have q := r.mob z; rw [h] at q; exact q
theorem not_own_tup {p : Addr} {u : List V} (r : Rel w m s σ H) (h : H p = some (.tup u)) : ¬ Own m s σ p := fun z => by have q := r.mob z; rw [h] at q; exact q
/-- a tuple stays -/
theorem tup_stay {K : PySem.W.Frag} {p : Addr} {vs : List V} (r : Rel w m s σ H) (h : SqT K H p vs) {m' : Pl} {s' : S} {σ' : L2.St} {H' : Hp} (e : Ext m s σ H m' s' σ' H') : SqT K H' p vs := (e.stb r).sqt h
theorem lst_stay {t : T} {v : V} {xs : List A} (r : Rel w m s σ H) (hf : fixed t = true) (x : RT w σ H0 m s H t v) (e : lstOf s t = some xs) (hi : ∀ i ∈ slotsOf t, i ∈ is) :
    ∃ q vs, v = .ref q ∧ xs.length ≤ Lim ∧ RAs w m H xs vs ∧ SqL w.K H q vs ∧ ∀ m' s' σ' H', Ext m (s.lend is) σ H m' s' σ' H' → SqL w.K H' q vs := by
  have rl := r.lend is
  have stay : ∀ {q vs}, Rd H q (.lst vs) → ¬ Own m (s.lend is) σ q → ∀ m' s' σ' H', Ext m (s.lend is) σ H m' s' σ' H' → SqL w.K H' q vs := fun {q vs} h n m' s' σ' H' e => by
    rcases h with h | ⟨o, h⟩
    · exact .inl (.inl (e.frame q _ h n))
    · exact .inl (.inr ⟨o, e.frame q _ h n⟩)
  cases t with
  | td ys => cases e
  | tl ys =>
    cases e
    obtain ⟨q, rfl, ⟨vs, a, b, c⟩, ht⟩ := x
    refine ⟨q, vs, rfl, b, c, .of a, stay (.inl a) fun z => ht.2.1 ?_⟩
    rcases z with z | ⟨i, z⟩
    · exact .inl z
    · exact .inr ⟨i, (own_lend z).1⟩
  | sl i =>
    have e : (match s.slot i with
      | some (.l _ xs) => some xs
      | _ => none) = some xs := e
    cases hc : s.slot i with
    | none => rw [hc] at e; cases e
    | some c =>
      rw [hc] at e
      obtain ⟨u, e2, z⟩ := r.slot i c hc
      have x2 : σ[i]? = some (some v) := x
      rw [x2] at e2; cases e2
      have hm : i ∈ is := hi i (by simp [slotsOf])
      have bs : ∀ {q}, v = .ref q → c.own = true ∨ c.bor = true → ¬ Own m (s.lend is) σ q := fun {q} ev k => by
        subst ev
        refine rl.ap3 i q ⟨x2, CE.dg c, ?_, ?_⟩
        · rw [slot_lend, hc]
          show some (if i ∈ is then CE.dg c else c) = _
          rw [if_pos hm]
        · cases c with
          | l o xs => rfl
          | d o xs => rfl
          | _ => rcases k with k | k <;> cases k
      cases c with
      | l o ys =>
        cases e
        cases o with
        | true => obtain ⟨q, rfl, vs, a, b, c⟩ := z; exact ⟨q, vs, rfl, b, c, .of a, stay (.inl a) (bs rfl (.inl rfl))⟩
        | false => obtain ⟨q, rfl, vs, a, b, c⟩ := z; exact ⟨q, vs, rfl, b, c, .inl a, stay a (bs rfl (.inr rfl))⟩
      | _ => cases e
  | v a =>
    cases a with
    | lst ys =>
      cases e
      cases x with
      | lst h1 h2 h3 =>
        refine ⟨_, _, rfl, h2, h3, h1.sql, fun m' s' σ' H' e => ?_⟩
        exact ((e.stb rl).frzL h1).sql
    | ref l => cases hf
    | _ => cases e
theorem walk_l {q : Addr} {vs : List V} {xs : List A} (hr : RAs w m H xs vs) (b : ∀ m' s' σ' H', Ext m s σ H m' s' σ' H' → Stb m H m' H') (st : ∀ m' s' σ' H', Ext m s σ H m' s' σ' H' → SqL w.K H' q vs) : Wlk w (Itl w.K q) xs m s σ H := by
  have hl := hr.len
  refine ⟨fun m' s' σ' H' e i hi => ⟨vs, st _ _ _ _ e, by omega⟩, fun m' s' σ' H' e i a ha => ?_⟩
  obtain ⟨v, hv, rv⟩ := hr.get ha
  refine ⟨⟨vs, v, st _ _ _ _ e, hv⟩, fun x H'' ⟨e1, e2⟩ => ?_⟩
  subst e1
  have := e2 vs (st _ _ _ _ e)
  rw [hv] at this
  cases this
  exact ⟨.inl rfl, rv.stb (b _ _ _ _ e)⟩
theorem walk_t {q : Addr} {vs : List V} {xs : List A} (hr : RAs w m H xs vs) (b : ∀ m' s' σ' H', Ext m s σ H m' s' σ' H' → Stb m H m' H') (st : ∀ m' s' σ' H', Ext m s σ H m' s' σ' H' → SqT w.K H' q vs) : Wlk w (Itt w.K q) xs m s σ H := by
  have hl := hr.len
  refine ⟨fun m' s' σ' H' e i hi => ⟨vs, st _ _ _ _ e, by omega⟩, fun m' s' σ' H' e i a ha => ?_⟩
  obtain ⟨v, hv, rv⟩ := hr.get ha
  refine ⟨⟨vs, v, st _ _ _ _ e, hv⟩, fun x H'' ⟨e1, e2⟩ => ?_⟩
  subst e1
  have := e2 vs (st _ _ _ _ e)
  rw [hv] at this
  cases this
  exact ⟨.inl rfl, rv.stb (b _ _ _ _ e)⟩
theorem walk_s {z : Str} (ho : PyData.strOk z = true) : Wlk w (Its z) (chars z) m s σ H := by
  have hl : (chars z).length = z.cps.size := by simp [chars]
  refine ⟨fun m' s' σ' H' e i hi => by show z.cps.size ≤ i; omega, fun m' s' σ' H' e i a ha => ?_⟩
  have hi : i < z.cps.size := by have := (List.getElem?_eq_some_iff.mp ha).1; omega
  refine ⟨hi, fun x H'' ⟨e1, c, e2, e3⟩ => ?_⟩
  subst e1
  subst e3
  refine ⟨.inl rfl, ?_⟩
  have h2 : (z.cps.toList.map fun c => A.str ⟨#[c]⟩)[i]? = some a := ha
  rw [List.getElem?_map] at h2
  have h3 : z.cps.toList[i]? = some c := by simpa using e2
  rw [h3] at h2
  cases h2
  refine .str _ ?_ (by show 1 ≤ 16777216; omega)
  show (#[c] : Array Nat).all (· < 0x110000) = true
  have h4 := ho
  unfold PyData.strOk at h4
  have h5 := Array.all_eq_true_iff_forall_mem.mp h4 c (Array.mem_of_getElem? e2)
  simpa using h5
theorem walk_r {lo : Int} {n : Nat} : Wlk w (Itr lo n) (rngA lo n) m s σ H := by
  have hl : (rngA lo n).length = n := by simp [rngA]
  refine ⟨fun m' s' σ' H' e i hi => by show n ≤ i; omega, fun m' s' σ' H' e i a ha => ?_⟩
  have hi : i < n := by have := (List.getElem?_eq_some_iff.mp ha).1; omega
  refine ⟨hi, fun x H'' ⟨e1, e2⟩ => ?_⟩
  subst e1
  subst e2
  have h2 : ((List.range n).map fun k => A.int (lo + (k : Nat)))[i]? = some a := ha
  rw [List.getElem?_map, List.getElem?_range hi] at h2
  cases h2
  exact ⟨.inl rfl, .int _⟩
theorem get_enumA {xs : List A} {i : Nat} {a : A} : ∀ {n : Nat}, (enumA n xs)[i]? = some a → ∃ x, xs[i]? = some x ∧ a = .tup [.int ((n + i : Nat)), x] := by
  induction xs generalizing i with
  | nil => intro n h; simp [enumA] at h
  | cons x xs ih =>
    intro n h
    cases i with
    | zero => simp [enumA] at h; exact ⟨x, rfl, h.symm⟩
    | succ i =>
      have h : (enumA (n + 1) xs)[i]? = some a := by simpa [enumA] using h
      obtain ⟨y, h1, h2⟩ := ih h
      refine ⟨y, by simpa using h1, ?_⟩
      rw [h2]
      congr 4
      omega
theorem len_enumA : ∀ {xs : List A} {n : Nat}, (enumA n xs).length = xs.length
  | [], _ => rfl
  | x :: xs, n => by simp [enumA, len_enumA (xs := xs)]
theorem walk_e {q : Addr} {vs : List V} {xs : List A} (hr : RAs w m H xs vs) (b : ∀ m' s' σ' H', Ext m s σ H m' s' σ' H' → Stb m H m' H') (st : ∀ m' s' σ' H', Ext m s σ H m' s' σ' H' → SqL w.K H' q vs) : Wlk w (Ite w.K q) (enumA 0 xs) m s σ H := by
  have hl := hr.len
  refine ⟨fun m' s' σ' H' e i hi => ⟨vs, st _ _ _ _ e, by rw [len_enumA] at hi; omega⟩, fun m' s' σ' H' e i a ha => ?_⟩
  obtain ⟨y, hy, ea⟩ := get_enumA ha
  obtain ⟨v, hv, rv⟩ := hr.get hy
  refine ⟨⟨vs, v, st _ _ _ _ e, hv⟩, fun x H'' ⟨T, z, e1, hT, e2, e3⟩ => ?_⟩
  subst e1
  subst e2
  have := e3 vs (st _ _ _ _ e)
  rw [hv] at this
  cases this
  refine ⟨.inr ⟨T, _, hT, rfl⟩, ?_⟩
  rw [ea]
  refine .tup (SqT.of upd_same) (by show 2 ≤ 16777216; omega) (.cons ?_ (.cons (RA.stb (stb_new hT) (rv.stb (b _ _ _ _ e))) .nil))
  rw [Nat.zero_add]
  exact .int _
theorem get_zipA : ∀ {xs ys : List A} {i : Nat} {a : A}, (zipA xs ys)[i]? = some a → ∃ x y, xs[i]? = some x ∧ ys[i]? = some y ∧ a = .tup [x, y]
  | [], _, _, _, h => by simp [zipA] at h
  | _ :: _, [], _, _, h => by simp [zipA] at h
  | x :: xs, y :: ys, 0, a, h => by simp [zipA] at h; exact ⟨x, y, rfl, rfl, h.symm⟩
  | x :: xs, y :: ys, i + 1, a, h => by
    obtain ⟨x', y', h1, h2, h3⟩ := get_zipA (xs := xs) (ys := ys) (i := i) (a := a) (by simpa [zipA] using h)
    exact ⟨x', y', by simpa using h1, by simpa using h2, h3⟩
theorem len_zipA : ∀ {xs ys : List A}, (zipA xs ys).length = min xs.length ys.length
  | [], _ => by simp [zipA]
  | _ :: _, [] => by simp [zipA]
  | x :: xs, y :: ys => by simp [zipA, len_zipA (xs := xs) (ys := ys)] <;> omega
theorem walk_zl {q p : Addr} {vs us : List V} {xs ys : List A} (hr : RAs w m H xs vs) (hs : RAs w m H ys us) (b : ∀ m' s' σ' H', Ext m s σ H m' s' σ' H' → Stb m H m' H') (st : ∀ m' s' σ' H', Ext m s σ H m' s' σ' H' → SqL w.K H' q vs ∧ SqL w.K H' p us) : Wlk w (Itz w.K q p) (zipA xs ys) m s σ H := by
  have hl := hr.len
  have hl2 := hs.len
  refine ⟨fun m' s' σ' H' e i hi => ⟨vs, us, (st _ _ _ _ e).1, (st _ _ _ _ e).2, by rw [len_zipA] at hi; omega⟩, fun m' s' σ' H' e i a ha => ?_⟩
  obtain ⟨x, y, hx, hy, ea⟩ := get_zipA ha
  obtain ⟨v, hv, rv⟩ := hr.get hx
  obtain ⟨u, hu, ru⟩ := hs.get hy
  refine ⟨⟨vs, us, v, u, (st _ _ _ _ e).1, (st _ _ _ _ e).2, hv, hu⟩, fun z H'' ⟨T, z1, z2, e1, hT, e2, e3, e4⟩ => ?_⟩
  subst e1
  subst e2
  have h3 := e3 vs (st _ _ _ _ e).1
  have h4 := e4 us (st _ _ _ _ e).2
  rw [hv] at h3
  rw [hu] at h4
  cases h3
  cases h4
  refine ⟨.inr ⟨T, _, hT, rfl⟩, ?_⟩
  rw [ea]
  exact .tup (SqT.of upd_same) (by show 2 ≤ 16777216; omega) (.cons (RA.stb (stb_new hT) (rv.stb (b _ _ _ _ e))) (.cons (RA.stb (stb_new hT) (ru.stb (b _ _ _ _ e))) .nil))
theorem walk_zt {q p : Addr} {vs us : List V} {xs ys : List A} (hr : RAs w m H xs vs) (hs : RAs w m H ys us) (b : ∀ m' s' σ' H', Ext m s σ H m' s' σ' H' → Stb m H m' H') (st : ∀ m' s' σ' H', Ext m s σ H m' s' σ' H' → SqT w.K H' q vs ∧ SqT w.K H' p us) : Wlk w (RZ.ItzT w.K q p) (zipA xs ys) m s σ H := by
  have hl := hr.len
  have hl2 := hs.len
  refine ⟨fun m' s' σ' H' e i hi => ⟨vs, us, (st _ _ _ _ e).1, (st _ _ _ _ e).2, by rw [len_zipA] at hi; omega⟩, fun m' s' σ' H' e i a ha => ?_⟩
  obtain ⟨x, y, hx, hy, ea⟩ := get_zipA ha
  obtain ⟨v, hv, rv⟩ := hr.get hx
  obtain ⟨u, hu, ru⟩ := hs.get hy
  refine ⟨⟨vs, us, v, u, (st _ _ _ _ e).1, (st _ _ _ _ e).2, hv, hu⟩, fun z H'' ⟨T, z1, z2, e1, hT, e2, e3, e4⟩ => ?_⟩
  subst e1
  subst e2
  have h3 := e3 vs (st _ _ _ _ e).1
  have h4 := e4 us (st _ _ _ _ e).2
  rw [hv] at h3
  rw [hu] at h4
  cases h3
  cases h4
  refine ⟨.inr ⟨T, _, hT, rfl⟩, ?_⟩
  rw [ea]
  exact .tup (SqT.of upd_same) (by show 2 ≤ 16777216; omega) (.cons (RA.stb (stb_new hT) (rv.stb (b _ _ _ _ e))) (.cons (RA.stb (stb_new hT) (ru.stb (b _ _ _ _ e))) .nil))
end
section
variable {X : Cx} {w : Wd} {W : WX} {tg : Expr}
def iAny (K : PySem.W.Frag) (tl : TE) : TI := fun σ H R => tl σ H fun x H1 => (∃ a xs, x = .ref a ∧ SqL K H1 a xs ∧ R (Itl K a) H1) ∨ (∃ a xs, x = .ref a ∧ SqT K H1 a xs ∧ R (Itt K a) H1) ∨ ∃ z, x = .str z ∧ R (Its z) H1
theorem pi_any {l : Expr} {tl : TE} (hl : PE X l tl) : PI X tg l (iAny X.K tl) := by
  refine ⟨fun pins s σ H R I h => ?_⟩
  refine thn (hl.run pins s σ H _ I h) fun v s1 ⟨x, H1, I1, r1, q1⟩ => ?_
  rcases q1 with ⟨a, xs, e, hq, q⟩ | ⟨a, xs, e, hq, q⟩ | ⟨z, e, q⟩
  · subst e
    cases r1
    obtain ⟨its, rv, p, hz⟩ := I1.list hq
    refine wpAny_pyIter_list p.isList ?_
    refine ⟨s1.heap.objs.size, [s1.heap.objs.size], _, _, H1, rfl, I1.kept (t' := s1.toks) fun b o e => Heap.get?_push_of_some _ e, turn_list a _, ⟨_, Heap.get?_push_size _ rfl, rfl, rfl⟩, fun b hb => ?_, q⟩
    have e : b = s1.heap.objs.size := by simpa using hb
    subst e
    exact I1.fpOk (Nat.le_refl _) (I1.hok.fresh (Nat.le_refl _))
  · subst e
    cases r1
    obtain ⟨its, rv, p, hz⟩ := I1.tuple hq
    refine wpAny_pyIter_tuple (show s1.heap.IsTuple a its.toArray from p) ?_
    refine ⟨s1.heap.objs.size, [s1.heap.objs.size], _, _, H1, rfl, I1.kept (t' := s1.toks) fun b o e => Heap.get?_push_of_some _ e, turn_tuple a _, ⟨_, Heap.get?_push_size _ rfl, rfl, rfl⟩, fun b hb => ?_, q⟩
    have e : b = s1.heap.objs.size := by simpa using hb
    subst e
    exact I1.fpOk (Nat.le_refl _) (I1.hok.fresh (Nat.le_refl _))
  · subst e
    obtain ⟨t, rfl⟩ := r1
    cases ha : z.cps.all (· < 128)
    · exact wpAny_pyIter_wide ha (pi_one (tk := s1.toks) I1 _ (turn_str _ z t "str_iterator" (.inr rfl)) ⟨_, Heap.get?_push_size _ rfl, rfl, rfl⟩ q)
    · exact wpAny_pyIter_ascii ha (pi_one (tk := s1.toks) I1 _ (turn_str _ z t "str_ascii_iterator" (.inl rfl)) ⟨_, Heap.get?_push_size _ rfl, rfl, rfl⟩ q)
theorem snd_seq {e : Expr} {f : S → R T} (hw : w.K = X.K) (h : Snd X w W e f) : SndI X w W tg e (fun s => (f s).bind fun t s1 => match asStr t with
    | some z => .ok (chars z, []) s1
    | none => if fixed t then match seqOf s1 t with
      | some xs => .ok (xs, slotsOf t) s1
      | none => .stuck else .stuck) := by
  refine ⟨PI_imp (pi_any h.pe) fun σ H R ⟨m, s, r, hq⟩ => ⟨m, s, r, (Pst.bind (rr := rT w) hq).mono fun v H1 ⟨t, s1, m1, _, r1, e1, x1, h1⟩ => ?_⟩⟩
  split at h1
  · rename_i z hz
    obtain ⟨ev, o1, _⟩ := str_of x1 hz
    exact .inr (.inr ⟨z, ev, h1.fin r1 (walk_s o1)⟩)
  · split at h1
    · rename_i hf
      split at h1
      · rename_i xs hx
        unfold seqOf at hx
        cases ht : tupOf t with
        | some ys =>
          rw [ht] at hx
          cases hx
          obtain ⟨q, vs, ev, a, b, c⟩ := tup_of x1 ht
          have rl := r1.lend (slotsOf t)
          refine .inr (.inl ⟨q, vs, ev, hw ▸ a, ?_⟩)
          rw [← hw]
          exact h1.fin r1 (walk_t c (fun _ _ _ _ e => e.stb rl) fun _ _ _ _ e => tup_stay rl a e)
        | none =>
          rw [ht] at hx
          obtain ⟨q, vs, ev, b, c, a, st⟩ := lst_stay r1 hf x1 hx (is := slotsOf t) (fun _ h => h)
          have rl := r1.lend (slotsOf t)
          refine .inl ⟨q, vs, ev, hw ▸ a, ?_⟩
          rw [← hw]
          exact h1.fin r1 (walk_l c (fun _ _ _ _ e => e.stb rl) st)
      · exact h1.elim
    · exact h1.elim
theorem snd_rng1 {e : Expr} {p pos : Pos} {f : S → R T} (bn : BltN X "range") (h : Snd X w W e f) (hs : notStar e = true) : SndI X w W tg (.Call (.Name "range" p) [e] [] pos) (fun s => (f s).bind fun t s1 => match asInt t with
    | some j => if decide (-Rng ≤ j) && decide (j < Rng) then .ok (rngA 0 j.toNat, []) s1 else .stuck
    | none => .stuck) := by
  refine ⟨PI_imp (pi_range1 bn.gl bn.mg (pa_cons h.pe pa_nil (star_cons hs)) (star_cons hs)) fun σ H R ⟨m, s, r, hq⟩ => ⟨m, s, r, (Pst.bind (rr := rT w) hq).mono fun v H1 ⟨t, s1, m1, _, r1, e1, x1, h1⟩ => ?_⟩⟩
  split at h1
  · rename_i j hj
    split at h1
    · rename_i hb
      rw [Bool.and_eq_true] at hb
      rw [int_of x1 hj]
      exact ⟨j, rfl, of_decide_eq_true hb.1, of_decide_eq_true hb.2, h1.fin r1 walk_r⟩
    · exact h1.elim
  · exact h1.elim
theorem snd_rng2 {a b : Expr} {p pos : Pos} {fa fb : S → R T} (bn : BltN X "range") (ha : Snd X w W a fa) (hb : Snd X w W b fb) (hsa : notStar a = true) (hsb : notStar b = true) : SndI X w W tg (.Call (.Name "range" p) [a, b] [] pos) (fun s => (fa s).bind fun t s1 => (fb s1).bind fun u s2 => match asInt t, asInt u with
    | some i, some j => if (decide (-Rng ≤ i) && decide (i < Rng)) && (decide (-Rng ≤ j) && decide (j < Rng)) then .ok (rngA i (j - i).toNat, []) s2 else .stuck
    | _, _ => .stuck) := by
  have hA := pa_cons ha.pe (pa_cons hb.pe pa_nil (star_cons hsb)) (star_cons hsa)
  refine ⟨PI_imp (pi_range2 bn.gl bn.mg hA (by rw [star_cons hsa, star_cons hsb] <;> rfl) (by rw [star_cons hsb] <;> rfl)) fun σ H R ⟨m, s, r, hq⟩ => ⟨m, s, r, (Pst.bind (rr := rT w) hq).mono fun v H1 ⟨t, s1, m1, _, r1, e1, x1, h1⟩ => ⟨m1, s1, r1, (Pst.bind (rr := rT w) h1).mono fun u H2 ⟨t2, s2, m2, _, r2, e2, x2, h2⟩ => ?_⟩⟩⟩
  split at h2
  · rename_i i j hi hj
    split at h2
    · rename_i hbb
      simp only [Bool.and_eq_true] at hbb
      obtain ⟨⟨h3, h4⟩, h5, h6⟩ := hbb
      rw [int_of x1 hi, int_of x2 hj]
      exact ⟨i, j, rfl, ⟨of_decide_eq_true h3, of_decide_eq_true h4, of_decide_eq_true h5, of_decide_eq_true h6⟩, h2.fin r2 walk_r⟩
    · exact h2.elim
  · exact h2.elim
theorem snd_enm {e : Expr} {elts : List Expr} {kk : Nat} {tpos p pos : Pos} {f : S → R T} (hw : w.K = X.K) (bn : BltN X "enumerate") (h : Snd X w W e f) (hs : notStar e = true) : SndI X w W (.Tuple elts kk tpos) (.Call (.Name "enumerate" p) [e] [] pos) (fun s => (f s).bind fun t s1 => if fixed t then match lstOf s1 t with
      | some xs => .ok (enumA 0 xs, slotsOf t) s1
      | none => .stuck else .stuck) := by
  refine ⟨PI_imp (pi_enum bn.gl bn.mg (pa_cons h.pe pa_nil (star_cons hs)) (star_cons hs)) fun σ H R ⟨m, s, r, hq⟩ => ⟨m, s, r, (Pst.bind (rr := rT w) hq).mono fun v H1 ⟨t, s1, m1, _, r1, e1, x1, h1⟩ => ?_⟩⟩
  split at h1
  · rename_i hf
    split at h1
    · rename_i xs hx
      obtain ⟨q, vs, ev, b, c, a, st⟩ := lst_stay r1 hf x1 hx (is := slotsOf t) (fun _ h => h)
      have rl := r1.lend (slotsOf t)
      subst ev
      refine ⟨q, vs, rfl, hw ▸ a, ?_⟩
      rw [← hw]
      exact h1.fin r1 (walk_e c (fun _ _ _ _ e => e.stb rl) st)
    · exact h1.elim
  · exact h1.elim
theorem snd_zip {a b : Expr} {elts : List Expr} {kk : Nat} {tpos p pos : Pos} {fa fb : S → R T} (hw : w.K = X.K) (bn : BltN X "zip") (ha : Snd X w W a fa) (hb : Snd X w W b fb) (hsa : notStar a = true) (hsb : notStar b = true) :
    SndI X w W (.Tuple elts kk tpos) (.Call (.Name "zip" p) [a, b] [] pos) (fun s => (fa s).bind fun t s1 => (fb s1).bind fun u s2 => if fixed t && fixed u then match tupOf t, tupOf u with
      | some xs, some ys => .ok (zipA xs ys, []) s2
      | _, _ => match lstOf s2 t, lstOf s2 u with
        | some xs, some ys => .ok (zipA xs ys, slotsOf t ++ slotsOf u) s2
        | _, _ => .stuck else .stuck) := by
  have hA := pa_cons ha.pe (pa_cons hb.pe pa_nil (star_cons hsb)) (star_cons hsa)
  refine ⟨PI_imp (RZ.pi_zipA bn.gl bn.mg hA (by rw [star_cons hsa]) (by rw [star_cons hsb]; rfl)) fun σ H R ⟨m, s, r, hq⟩ => ⟨m, s, r, (Pst.bind (rr := rT w) hq).mono fun v H1 ⟨t, s1, m1, _, r1, e1, x1, h1⟩ => ⟨m1, s1, r1, (Pst.bind (rr := rT w) h1).mono fun v2 H2 ⟨u, s2, m2, _, r2, e2, x2, h2⟩ => ?_⟩⟩⟩
  have x1 := x1.ext r1 e2
  split at h2
  · rename_i hf
    rw [Bool.and_eq_true] at hf
    split at h2
    · rename_i xs ys hx hy
      obtain ⟨q, vs, ev, a1, b1, c1⟩ := tup_of x1 hx
      obtain ⟨q2, us, ev2, a2, b2, c2⟩ := tup_of x2 hy
      subst ev
      subst ev2
      have rl := r2.lend []
      refine ⟨q, q2, vs, us, rfl, .inr ⟨hw ▸ a1, hw ▸ a2, ?_⟩⟩
      rw [← hw]
      exact h2.fin r2 (walk_zt c1 c2 (fun _ _ _ _ e => e.stb rl) fun _ _ _ _ e => ⟨tup_stay rl a1 e, tup_stay rl a2 e⟩)
    · split at h2
      · rename_i xs ys hx hy
        obtain ⟨q, vs, ev, b1, c1, a1, st1⟩ := lst_stay r2 hf.1 x1 hx (is := slotsOf t ++ slotsOf u) (fun _ h => List.mem_append_left _ h)
        obtain ⟨q2, us, ev2, b2, c2, a2, st2⟩ := lst_stay r2 hf.2 x2 hy (is := slotsOf t ++ slotsOf u) (fun _ h => List.mem_append_right _ h)
        subst ev
        subst ev2
        have rl := r2.lend (slotsOf t ++ slotsOf u)
        refine ⟨q, q2, vs, us, rfl, .inl ⟨hw ▸ a1, hw ▸ a2, ?_⟩⟩
        rw [← hw]
        exact h2.fin r2 (walk_zl c1 c2 (fun _ _ _ _ e => e.stb rl) fun m' s' σ' H' e => ⟨st1 m' s' σ' H' e, st2 m' s' σ' H' e⟩)
      · exact h2.elim
  · exact h2.elim
end
end CE
end CEn
section CEo
set_option maxRecDepth 100000
set_option maxHeartbeats 2000000
namespace CE
open PySem PySem.Spec PyProof.Rows L2
theorem Stb.refl {m : Pl} {H : Hp} : Stb m H m H := ⟨fun _ _ h => h, fun _ _ h => h, fun _ _ _ h => h, fun _ _ h => h⟩
theorem Stb.trans {m m1 m2 : Pl} {H H1 H2 : Hp} (a : Stb m H m1 H1) (b : Stb m1 H1 m2 H2) : Stb m H m2 H2 := ⟨fun l p h => b.mono l p (a.mono l p h), fun p xs h => b.tup p xs (a.tup p xs h), fun p o u h => b.frz p o u (a.frz p o u h), fun p f h => b.ext p f (a.ext p f h)⟩
/-- at most the slots js are set -/
def SetO (js : List Nat) (σ σ' : L2.St) : Prop := σ'.length = σ.length ∧ ∀ j, j ∉ js → σ'[j]? = σ[j]?
/-- where a target starts: the statement's start, its own -/
structure G0 where
  m0 : Pl
  s0 : S
  σ0 : L2.St
  H0 : Hp
/-- what is promised of a target; only the slots js are set -/
def PstG (w : Wd) (W : WX) (js : List Nat) (σ : L2.St) (m : Pl) (H : Hp) (g0 : G0) (r : R Unit) (Q : L2.St → Hp → Prop) : Prop := match r with
  | .ok _ s' => ∀ m' σ' H', Rel w m' s' σ' H' → Ext g0.m0 g0.s0 g0.σ0 g0.H0 m' s' σ' H' → SetO js σ σ' → Stb m H m' H' → Q σ' H'
  | .exc c fs s' => ∀ m' σ' H' cls d, Rel w m' s' σ' H' → Ext g0.m0 g0.s0 g0.σ0 g0.H0 m' s' σ' H' → RX w m' H' c fs cls d → W cls d σ' H'
  | .stuck => False
def tTg (w : Wd) (W : WX) (js : List Nat) (g : T → S → R Unit) : TG := fun v σ H Q => ∃ (g0 : G0) (m : Pl) (s : S) (t : T), Rel w m s σ H ∧ Ext g0.m0 g0.s0 g0.σ0 g0.H0 m s σ H ∧ RT w σ g0.H0 m s H t v ∧ PstG w W js σ m H g0 (g t s) Q
def tTgs (w : Wd) (W : WX) (js : List Nat) (g : List A → S → R Unit) : TGs := fun vs σ H Q => ∃ (g0 : G0) (m : Pl) (s : S) (as : List A), Rel w m s σ H ∧ Ext g0.m0 g0.s0 g0.σ0 g0.H0 m s σ H ∧ RAs w m H as vs ∧ PstG w W js σ m H g0 (g as s) Q
structure SndG (X : Cx) (w : Wd) (W : WX) (tg : Expr) (js : List Nat) (g : T → S → R Unit) : Prop where
  pg : PG X tg (tTg w W js g)
structure SndGs (X : Cx) (w : Wd) (W : WX) (tgs : List Expr) (js : List Nat) (g : List A → S → R Unit) : Prop where
  pgs : PGs X tgs (tTgs w W js g)
section
variable {X : Cx} {w : Wd} {W : WX}
theorem PG_imp {tg : Expr} {t t' : TG} (h : PG X tg t) (k : ∀ v σ H Q, t' v σ H Q → t v σ H Q) : PG X tg t' := ⟨fun pins s σ H v u Q I rv q => h.run pins s σ H v u Q I rv (k v σ H Q q)⟩
theorem PGs_imp {tg : List Expr} {t t' : TGs} (h : PGs X tg t) (k : ∀ v σ H Q, t' v σ H Q → t v σ H Q) : PGs X tg t' := ⟨fun pins s σ H v u Q I rv q => h.run pins s σ H v u Q I rv (k v σ H Q q)⟩
theorem PstG.mono {js js' : List Nat} {σ : L2.St} {m : Pl} {H : Hp} {g0 : G0} {r : R Unit} {Q Q' : L2.St → Hp → Prop} (h : PstG w W js' σ m H g0 r Q) (hj : ∀ j ∈ js, j ∈ js') (k : ∀ σ H, Q σ H → Q' σ H) : PstG w W js σ m H g0 r Q' := by
  cases r with
  | ok a s' => exact fun m' σ' H' r e x b => k _ _ (h m' σ' H' r e ⟨x.1, fun j hj2 => x.2 j fun z => hj2 (hj j z)⟩ b)
  | exc c fs s' => exact h
  | stuck => exact h
theorem snd_gnm {i : Nat} {x : Str} {pos : Pos} (hN : X.N.Nodup) (hi : X.N[i]? = some x) (hx : Loc X.env.scope x) (hf : X.fn x = true ∨ X.env.scope.names.lookup x = some .local) : SndG X w W (.Name x pos) [i] (fun t s => putT s i t) := by
  refine ⟨⟨fun pins s0 σ H v u Q I rv ⟨g0, m, s, t, r, e, x, h⟩ => ?_⟩⟩
  refine (pg_name (pos := pos) hN hi hx hf).run pins s0 σ H v u Q I rv ?_
  have hlt : i < s.env.length := by
    have h1 := (List.getElem?_eq_some_iff.mp hi).1
    have h2 := r.len
    have h3 := I.len
    omega
  have h : PstG w W [i] σ m H g0 (putT s i t) Q := h
  cases hp : putT s i t with
  | stuck => rw [hp] at h; exact h.elim
  | exc c fs s' => cases t <;> cases hp
  | ok a s' =>
    rw [hp] at h
    obtain ⟨r2, e2⟩ := put_of r e hlt x (by cases a; exact hp)
    refine h m _ H r2 e2 ⟨List.length_set .., fun j hj => ?_⟩ .refl
    rw [List.getElem?_set_ne (fun e => hj (by simp [e]))]
theorem snd_gnil : SndGs X w W [] [] (fun as s => match as with
    | [] => .ok () s
    | _ => .stuck) := by
  refine ⟨PGs_imp pgs_nil fun vs σ H Q ⟨g0, m, s, as, r, e, x, h⟩ => ?_⟩
  cases x with
  | nil => exact ⟨rfl, h m σ H r e ⟨rfl, fun _ _ => rfl⟩ .refl⟩
  | cons _ _ => exact h.elim
theorem snd_gcons {e : Expr} {es : List Expr} {js ks : List Nat} {g : T → S → R Unit} {gs : List A → S → R Unit} (h1 : SndG X w W e js g) (h2 : SndGs X w W es ks gs) (hs : notStar e = true) :
    SndGs X w W (e :: es) (js ++ ks) (fun as s => match as with
    | a :: as => (g (.v a) s).bind fun _ s1 => gs as s1
    | [] => .stuck) := by
  have he : (assignEach (e :: es) X.env).map (·.2) = assign e X.env :: (assignEach es X.env).map (·.2) := by cases e <;> first | rfl | cases hs
  refine ⟨⟨fun pins s0 σ H vs us Q I rv ⟨g0, m, s, as, r, e0, x, h⟩ => ?_⟩⟩
  cases x with
  | nil => exact h.elim
  | @cons a as v vs xa xs =>
    refine (pgs_cons h1.pg h2.pgs he).run pins s0 σ H (v :: vs) us Q I rv ⟨v, vs, rfl, g0, m, s, .v a, r, e0, xa, ?_⟩
    have h : PstG w W (js ++ ks) σ m H g0 ((g (.v a) s).bind fun _ s1 => gs as s1) Q := h
    cases hg : g (.v a) s with
    | stuck => rw [hg] at h; exact h.elim
    | exc c fs s' => rw [hg] at h; exact h
    | ok u s1 =>
      rw [hg] at h
      have h : PstG w W (js ++ ks) σ m H g0 (gs as s1) Q := h
      intro m1 σ1 H1 r1 e1 x1 b1
      refine ⟨g0, m1, s1, as, r1, e1, RAs.stb b1 xs, ?_⟩
      cases hr : gs as s1 with
      | stuck => rw [hr] at h; exact h.elim
      | exc c fs s' => rw [hr] at h; exact h
      | ok u s2 =>
        rw [hr] at h
        exact fun m2 σ2 H2 r2 e2 x2 b2 => h m2 σ2 H2 r2 e2 ⟨x2.1.trans x1.1, fun j hj => (x2.2 j fun z => hj (List.mem_append_right _ z)).trans (x1.2 j fun z => hj (List.mem_append_left _ z))⟩ (b1.trans b2)
theorem len_assignEach (env : Env) : ∀ es : List Expr, (assignEach es env).length = es.length
  | [] => rfl
  | e :: es => by cases e <;> exact congrArg Nat.succ (len_assignEach env es)
theorem star_assignEach {env : Env} : ∀ {es : List Expr}, es.all notStar = true → (assignEach es env).findIdx? (·.1) = none
  | [], _ => rfl
  | e :: es, h => by
    simp only [List.all_cons, Bool.and_eq_true] at h
    have ih := star_assignEach (env := env) h.2
    have he : assignEach (e :: es) env = (false, assign e env) :: assignEach es env := by
      cases e <;> first | rfl | exact absurd h.1 Bool.false_ne_true
    rw [he, List.findIdx?_cons]
    simp [ih]
theorem snd_gtp {es : List Expr} {k : Nat} {pos : Pos} {js : List Nat} {gs : List A → S → R Unit} (hw : w.K = X.K) (hc : X.calm = true) (h : SndGs X w W es js gs) (hs : es.all notStar = true) :
    SndG X w W (.Tuple es k pos) js (fun t s => match tupOf t with
    | some xs => if xs.length = es.length then gs xs s else .stuck
    | none => .stuck) := by
  refine ⟨PG_imp (pg_tup hc h.pgs rfl (star_assignEach hs)) fun v σ H Q ⟨g0, m, s, t, r, e, x, q⟩ => ?_⟩
  dsimp only at q
  split at q
  · rename_i xs hx
    split at q
    · rename_i hl
      obtain ⟨p, vs, ev, a, b, c⟩ := tup_of x hx
      exact ⟨p, vs, ev, hw ▸ a, by rw [len_assignEach, ← hl, c.len], g0, m, s, xs, r, e, c, q⟩
    · exact q.elim
  · exact q.elim
end
abbrev S.wipe (s : S) (vs : List Nat) : S := { s with env := wipeE s.env vs }
theorem len_wipeE (env : List (Option C)) : ∀ vs : List Nat, (wipeE env vs).length = env.length
  | [] => rfl
  | v :: vs => by unfold wipeE; rw [List.length_set]; exact len_wipeE env vs
theorem get_wipeE (env : List (Option C)) (j : Nat) : ∀ vs : List Nat, ((wipeE env vs)[j]?).bind id = if j ∈ vs then none else (env[j]?).bind id
  | [] => by simp [wipeE]
  | v :: vs => by
    have ih := get_wipeE env j vs
    unfold wipeE
    by_cases e : v = j
    · subst e
      by_cases hl : v < (wipeE env vs).length
      · rw [List.getElem?_set_self hl]; simp
      · rw [List.getElem?_eq_none (by rw [List.length_set]; omega)]; simp
    · rw [List.getElem?_set_ne e, ih]
      simp [Ne.symm e]
theorem slot_wipe (s : S) (vs : List Nat) (j : Nat) : (s.wipe vs).slot j = if j ∈ vs then none else s.slot j := get_wipeE s.env j vs
theorem get_wipe (σ : L2.St) (j : Nat) {vs : List Nat} (h : j ∉ vs) : (wipe σ vs)[j]? = σ[j]? := by
  induction vs with
  | nil => rfl
  | cons v vs ih =>
    unfold wipe
    rw [List.getElem?_set_ne (fun e => h (by simp [e]))]
    exact ih fun z => h (by simp [z])
theorem wipe_same {σ σ' : L2.St} : ∀ {vs : List Nat}, σ.length = σ'.length → (∀ j, j ∉ vs → σ'[j]? = σ[j]?) → wipe σ' vs = wipe σ vs := fun {vs} hl h => by
  refine List.ext_getElem? fun j => ?_
  by_cases hj : j ∈ vs
  · have key : ∀ (σ : L2.St) (ws : List Nat), j ∈ ws → (wipe σ ws)[j]? = if j < σ.length then some none else none := fun σ ws => by
      induction ws with
      | nil => intro h; cases h
      | cons v ws ih =>
        intro h
        unfold wipe
        by_cases e : v = j
        · subst e
          by_cases hl : v < (wipe σ ws).length
          · rw [List.getElem?_set_self hl, if_pos (by rw [wipe_length] at hl; exact hl)]
          · rw [List.getElem?_eq_none (by rw [List.length_set]; omega), if_neg (by rw [wipe_length] at hl; exact hl)]
        · rw [List.getElem?_set_ne e]
          exact ih ((List.mem_cons.mp h).resolve_left (Ne.symm e))
    rw [key _ _ hj, key _ _ hj, hl]
  · rw [get_wipe _ _ hj, get_wipe _ _ hj]
    exact h j hj
section
variable {w : Wd} {m m0 : Pl} {s s0 : S} {σ σ0 : L2.St} {H H0 : Hp} {vs : List Nat}
theorem own_wipe {j : Nat} {q : Addr} (h : OwnS (s.wipe vs) (wipe σ vs) j q) : OwnS s σ j q ∧ j ∉ vs := by
  obtain ⟨e, d, hd, hdo⟩ := h
  rw [slot_wipe] at hd
  by_cases hj : j ∈ vs
  · rw [if_pos hj] at hd; cases hd
  · rw [if_neg hj] at hd; rw [get_wipe _ _ hj] at e; exact ⟨⟨e, d, hd, hdo⟩, hj⟩
theorem bor_wipe {j : Nat} {q : Addr} (h : BorS (s.wipe vs) (wipe σ vs) j q) : BorS s σ j q ∧ j ∉ vs := by
  obtain ⟨e, d, hd, hdo⟩ := h
  rw [slot_wipe] at hd
  by_cases hj : j ∈ vs
  · rw [if_pos hj] at hd; cases hd
  · rw [if_neg hj] at hd; rw [get_wipe _ _ hj] at e; exact ⟨⟨e, d, hd, hdo⟩, hj⟩
theorem Rel.wipe (r : Rel w m s σ H) (vs : List Nat) : Rel w m (s.wipe vs) (wipe σ vs) H := by
  refine ⟨by show (wipeE s.env vs).length = _; rw [len_wipeE, wipe_length]; exact r.len, fun j d h => ?_, r.st, r.dom, r.inj, fun j q h => r.ap1 j q (own_wipe h).1, fun j k q h h' => r.ap2 j k q (own_wipe h).1 (own_wipe h').1, fun j q h h' => ?_⟩
  · rw [slot_wipe] at h
    by_cases hj : j ∈ vs
    · rw [if_pos hj] at h; cases h
    · rw [if_neg hj] at h
      rw [get_wipe _ _ hj]
      exact r.slot j d h
  · refine r.ap3 j q (bor_wipe h).1 ?_
    rcases h' with h' | ⟨k, h'⟩
    · exact .inl h'
    · exact .inr ⟨k, (own_wipe h').1⟩
theorem Ext.wipe {H1 : Hp} (x : Ext m0 s0 σ0 H0 m s σ H1) (vs : List Nat) : Ext m0 s0 σ0 H0 m (s.wipe vs) (wipe σ vs) H1 :=
  ⟨x.mono, x.newM, fun j q h => x.newS j q (own_wipe h).1, fun j q h => x.bor j q (bor_wipe h).1, x.frame, x.keep⟩
end
theorem slot_back (old : List (Option C)) (s : S) (j : Nat) : ∀ vs : List Nat, ({ s with env := backE old s.env vs } : S).slot j = if j ∈ vs ∧ j < s.env.length then (old[j]?).bind id else s.slot j := by
  have hlen : ∀ vs : List Nat, (backE old s.env vs).length = s.env.length := fun vs => by
    induction vs with
    | nil => rfl
    | cons v vs ih => unfold backE; rw [List.length_set]; exact ih
  intro vs
  show ((backE old s.env vs)[j]?).bind id = _
  induction vs with
  | nil => simp [backE, S.slot]
  | cons v vs ih =>
    unfold backE
    by_cases e : v = j
    · subst e
      by_cases hl : v < s.env.length
      · rw [List.getElem?_set_self (by rw [hlen]; exact hl), if_pos ⟨by simp, hl⟩]
        rfl
      · rw [List.getElem?_eq_none (by rw [List.length_set, hlen]; omega), if_neg (fun z => hl z.2)]
        unfold S.slot
        rw [List.getElem?_eq_none (by omega)]
    · rw [List.getElem?_set_ne e, ih]
      simp [Ne.symm e]
end CE
end CEo
section CEp
set_option maxRecDepth 100000
set_option maxHeartbeats 2000000
namespace CE
open PySem PySem.Spec PyProof.Rows L2
abbrev S.back (s : S) (old : List (Option C)) (vs : List Nat) : S := { s with env := backE old s.env vs }
theorem plain_at {s : S} {vs : List Nat} (h : plainAt s.env vs = true) {j : Nat} (hj : j ∈ vs) {c : C} (hc : s.slot j = some c) : c.own = false ∧ c.bor = false := by
  unfold plainAt at h
  have h2 := List.all_eq_true.mp h j hj
  have hc : (s.env[j]?).bind id = some c := hc
  rw [hc] at h2
  cases c with
  | v a => exact ⟨rfl, rfl⟩
  | _ => cases h2
section
variable {w : Wd} {m1 mn : Pl} {s1 sn : S} {σ : L2.St} {H1 Hn : Hp} {vs is : List Nat}
theorem lc_end (r1 : Rel w m1 s1 σ H1) (hp : plainAt s1.env vs = true) (rn : Rel w mn (sn.wipe vs) (wipe σ vs) Hn) (E : Ext m1 (s1.lend is) σ H1 mn (sn.wipe vs) (wipe σ vs) Hn) :
    Rel w mn (sn.back s1.env (vs ++ is)) σ Hn ∧ Ext m1 s1 σ H1 mn (sn.back s1.env (vs ++ is)) σ Hn ∧
    ∀ p, H1 p = none → ¬ Own mn (sn.wipe vs) (wipe σ vs) p → (∀ j, ¬ BorS (sn.wipe vs) (wipe σ vs) j p) → ¬ Own mn (sn.back s1.env (vs ++ is)) σ p ∧ ∀ j, ¬ BorS (sn.back s1.env (vs ++ is)) σ j p := by
  have len : sn.env.length = s1.env.length := by
    have h1 := rn.len
    have h2 := r1.len
    rw [wipe_length] at h1
    have h3 : (wipeE sn.env vs).length = _ := h1
    rw [len_wipeE] at h3
    omega
  have sl : ∀ j, (sn.back s1.env (vs ++ is)).slot j = if j ∈ vs ++ is then s1.slot j else sn.slot j := fun j => by
    rw [slot_back]
    by_cases hj : j ∈ vs ++ is
    · by_cases hl : j < sn.env.length
      · rw [if_pos ⟨hj, hl⟩, if_pos hj]; rfl
      · rw [if_neg (fun z => hl z.2), if_pos hj]
        unfold S.slot
        rw [List.getElem?_eq_none (by omega), List.getElem?_eq_none (by omega)]
    · rw [if_neg (fun z => hj z.1), if_neg hj]
  have out : ∀ {j}, j ∉ vs ++ is → (sn.wipe vs).slot j = sn.slot j ∧ (wipe σ vs)[j]? = σ[j]? := fun {j} hj => by
    have hv : j ∉ vs := fun z => hj (List.mem_append_left _ z)
    exact ⟨by rw [slot_wipe, if_neg hv], get_wipe _ _ hv⟩
  have own : ∀ {j p}, OwnS (sn.back s1.env (vs ++ is)) σ j p → (j ∈ is ∧ OwnS s1 σ j p) ∨ (j ∉ vs ++ is ∧ OwnS (sn.wipe vs) (wipe σ vs) j p) := fun {j p} ⟨e, c, hc, ho⟩ => by
    rw [sl] at hc
    by_cases hj : j ∈ vs ++ is
    · rw [if_pos hj] at hc
      refine .inl ⟨?_, e, c, hc, ho⟩
      rcases List.mem_append.mp hj with z | z
      · have := (plain_at hp z hc).1; rw [ho] at this; cases this
      · exact z
    · rw [if_neg hj] at hc
      exact .inr ⟨hj, by rw [(out hj).2]; exact e, c, by rw [(out hj).1]; exact hc, ho⟩
  have bor : ∀ {j p}, BorS (sn.back s1.env (vs ++ is)) σ j p → (j ∈ is ∧ BorS s1 σ j p) ∨ (j ∉ vs ++ is ∧ BorS (sn.wipe vs) (wipe σ vs) j p) := fun {j p} ⟨e, c, hc, ho⟩ => by
    rw [sl] at hc
    by_cases hj : j ∈ vs ++ is
    · rw [if_pos hj] at hc
      refine .inl ⟨?_, e, c, hc, ho⟩
      rcases List.mem_append.mp hj with z | z
      · have := (plain_at hp z hc).2; rw [ho] at this; cases this
      · exact z
    · rw [if_neg hj] at hc
      exact .inr ⟨hj, by rw [(out hj).2]; exact e, c, by rw [(out hj).1]; exact hc, ho⟩
  have A' : ∀ {j p}, j ∈ is → OwnS s1 σ j p ∨ BorS s1 σ j p → ¬ Own m1 (s1.lend is) σ p := fun {j p} hj h z => by
    rcases z with ⟨l, z⟩ | ⟨k, z⟩
    · rcases h with h | h
      · exact r1.ap1 j p h l z
      · exact r1.ap3 j p h (.inl ⟨l, z⟩)
    · obtain ⟨z, hk⟩ := own_lend z
      rcases h with h | h
      · exact hk (r1.ap2 j k p h z ▸ hj)
      · exact r1.ap3 j p h (.inr ⟨k, z⟩)
  have Aa : ∀ {j p}, j ∈ is → OwnS s1 σ j p ∨ BorS s1 σ j p → ¬ Own mn (sn.wipe vs) (wipe σ vs) p := fun {j p} hj h z => by
    rcases E.new p z with z | z
    · exact A' hj h z
    · exact h.elim (fun h => r1.thereO h z) (fun h => r1.thereB h z)
  have Bb : ∀ {i k p}, i ∉ vs ++ is → BorS (sn.wipe vs) (wipe σ vs) i p → k ∈ is → OwnS s1 σ k p → False := fun {i k p} hi h hk o => by
    have hi2 : i ∉ is := fun z => hi (List.mem_append_right _ z)
    rcases E.bor i p h with h | h | h
    · rcases bor_lend h with h | ⟨_, h⟩
      · exact r1.ap3 i p h (.inr ⟨k, o⟩)
      · exact hi2 h
    · exact hi2 (r1.ap2 k i p o (own_lend h).1 ▸ hk)
    · exact r1.thereO o h
  have hb : Stb m1 H1 mn Hn := E.stb (r1.lend is)
  refine ⟨⟨?_, fun j c h => ?_, rn.st, rn.dom, rn.inj, fun j p h l hl => ?_, fun j k p h h' => ?_, fun i p h h' => ?_⟩, ⟨E.mono, E.newM, fun j p h => ?_, fun j p h => ?_, fun p o h n => ?_, E.keep⟩, fun p h0 h1 h2 => ⟨fun z => ?_, fun j z => ?_⟩⟩
  · have hl : ∀ (env : List (Option C)) (ws : List Nat), (backE s1.env env ws).length = env.length := fun env ws => by
      induction ws with
      | nil => rfl
      | cons v ws ih => unfold backE; rw [List.length_set]; exact ih
    show (backE s1.env sn.env (vs ++ is)).length = _
    rw [hl, len]
    exact r1.len
  · rw [sl] at h
    by_cases hj : j ∈ vs ++ is
    · rw [if_pos hj] at h
      obtain ⟨v, e, z⟩ := r1.slot j c h
      refine ⟨v, e, z.at hb fun q ev k o eo => E.frame q o eo fun zz => ?_⟩
      subst ev
      rcases List.mem_append.mp hj with hv | hi
      · obtain ⟨k1, k2⟩ := plain_at hp hv h
        rw [k1, k2] at k
        rcases k with k | k <;> cases k
      · exact A' hi (k.imp (fun k => ⟨e, c, h, k⟩) fun k => ⟨e, c, h, k⟩) zz
    · rw [if_neg hj] at h
      rw [← (out hj).1] at h
      obtain ⟨v, e, z⟩ := rn.slot j c h
      rw [(out hj).2] at e
      exact ⟨v, e, z⟩
  · rcases own h with ⟨hj, h⟩ | ⟨_, h⟩
    · exact Aa hj (.inl h) (.inl ⟨l, hl⟩)
    · exact rn.ap1 j p h l hl
  · rcases own h with ⟨hj, h⟩ | ⟨hj, h⟩
    · rcases own h' with ⟨hk, h'⟩ | ⟨hk, h'⟩
      · exact r1.ap2 j k p h h'
      · exact (Aa hj (.inl h) (.inr ⟨k, h'⟩)).elim
    · rcases own h' with ⟨hk, h'⟩ | ⟨hk, h'⟩
      · exact (Aa hk (.inl h') (.inr ⟨j, h⟩)).elim
      · exact rn.ap2 j k p h h'
  · rcases bor h with ⟨hi, h⟩ | ⟨hi, h⟩
    · rcases h' with h' | ⟨k, h'⟩
      · exact Aa hi (.inr h) (.inl h')
      · rcases own h' with ⟨hk, h'⟩ | ⟨hk, h'⟩
        · exact r1.ap3 i p h (.inr ⟨k, h'⟩)
        · exact Aa hi (.inr h) (.inr ⟨k, h'⟩)
    · rcases h' with h' | ⟨k, h'⟩
      · exact rn.ap3 i p h (.inl h')
      · rcases own h' with ⟨hk, h'⟩ | ⟨hk, h'⟩
        · exact Bb hi h hk h'
        · exact rn.ap3 i p h (.inr ⟨k, h'⟩)
  · rcases own h with ⟨_, h⟩ | ⟨_, h⟩
    · exact .inl h
    · exact (E.newS j p h).imp (fun h => (own_lend h).1) id
  · rcases bor h with ⟨_, h⟩ | ⟨_, h⟩
    · exact .inl h
    · rcases E.bor j p h with h | h | h
      · rcases bor_lend h with h | ⟨h, _⟩
        · exact .inl h
        · exact .inr (.inl h)
      · exact .inr (.inl (own_lend h).1)
      · exact .inr (.inr h)
  · refine E.frame p o h fun z => n ?_
    rcases z with z | ⟨i, z⟩
    · exact .inl z
    · exact .inr ⟨i, (own_lend z).1⟩
  · rcases z with z | ⟨j, z⟩
    · exact h1 (.inl z)
    · rcases own z with ⟨_, z⟩ | ⟨_, z⟩
      · exact r1.thereO z h0
      · exact h1 (.inr ⟨j, z⟩)
  · rcases bor z with ⟨_, z⟩ | ⟨_, z⟩
    · exact r1.thereB z h0
    · exact h2 j z
end
/-- a turn -/
def lcTurn (vs : List Nat) (g : T → S → R Unit) (fc : S → R Bool) (fe : S → R T) : A → S → R (Option A) := fun x s2 => (g (.v x) { s2 with env := wipeE s2.env vs }).bind fun _ s3 => (fc s3).bind fun b s4 => if b then (fe s4).bind fun y s5 => match asA y with
  | some a => .ok (some a) s5
  | none => .stuck else .ok none s4
def lcF (vs : List Nat) (fit : S → R (List A × List Nat)) (g : T → S → R Unit) (fc : S → R Bool) (fe : S → R T) : S → R T := fun s => (fit s).bind fun src s1 => if plainAt s1.env vs && decide (src.1.length ≤ Lim) then
    ((comL (lcTurn vs g fc fe) src.1 { s1 with env := borE s1.env src.2 }).nox).bind fun r s6 => .ok (.tl r) { s6 with env := backE s1.env s6.env (vs ++ src.2) }
  else .stuck
abbrev W0 : WX := fun _ _ _ _ => False
theorem comL_len {f : A → S → R (Option A)} : ∀ {xs : List A} {s s' : S} {r : List A}, comL f xs s = .ok r s' → r.length ≤ xs.length
  | [], s, s', r, h => by cases h; exact Nat.le_refl _
  | x :: xs, s, s', r, h => by
    unfold comL at h
    cases h1 : f x s with
    | ok o s1 =>
      rw [h1, R.ok_bind] at h
      cases h2 : comL f xs s1 with
      | ok q s2 =>
        rw [h2, R.ok_bind] at h
        cases h
        have := comL_len h2
        cases o <;> simp <;> omega
      | exc c fs s2 => rw [h2] at h; cases h
      | stuck => rw [h2] at h; cases h
    | exc c fs s1 => rw [h1] at h; cases h
    | stuck => rw [h1] at h; cases h
section
variable {w : Wd} {W : WX} {vs js : List Nat} {fit : S → R (List A × List Nat)} {g : T → S → R Unit} {fc : S → R Bool} {fe : S → R T}
theorem R.bind_ok {α β : Type} {r : R α} {k : α → S → R β} {b : β} {s' : S} (h : r.bind k = .ok b s') : ∃ a s1, r = .ok a s1 ∧ k a s1 = .ok b s' := by
  cases r with
  | ok a s1 => exact ⟨a, s1, rfl, h⟩
  | exc c fs s1 => cases h
  | stuck => cases h
theorem tE_lc (hjs : ∀ j ∈ js, j ∈ vs) {σ : L2.St} {H : Hp} {Q : VK} (h : tE w W (lcF vs fit g fc fe) σ H Q) : tLc (tG w W (rIt w) fit) (tTg w W0 js g) (tG w W0 rEq fc) (tE w W0 fe) vs σ H Q := by
  obtain ⟨m, s, r, h⟩ := h
  refine ⟨m, s, r, (Pst.bind (rr := rIt w) h).mono fun J H1 ⟨src, s1, m1, _, r1, e1, x1, h1⟩ D hD => ?_⟩
  split at h1
  case isFalse => exact h1.elim
  rename_i hpl
  rw [Bool.and_eq_true] at hpl
  obtain ⟨hpl, hlen⟩ := hpl
  have hlen : src.1.length ≤ Lim := of_decide_eq_true hlen
  cases hcom : comL (lcTurn vs g fc fe) src.1 { s1 with env := borE s1.env src.2 } with
  | stuck => rw [hcom] at h1; exact h1.elim
  | exc c fs s6 => rw [hcom] at h1; exact h1.elim
  | ok res s6 =>
  rw [hcom] at h1
  have h1 : Pst w W (rT w) H m1 s1 σ H1 (.ok (.tl res) { s6 with env := backE s1.env s6.env (vs ++ src.2) }) Q := h1
  have hres : res.length ≤ Lim := Nat.le_trans (comL_len hcom) hlen
  have rb := r1.lend src.2
  -- the invariant
  refine ⟨fun i k Hi => k = src.1.length - i ∧ i ≤ src.1.length ∧ ∃ (mi : Pl) (si : S) (acc rest : List A) (av : List V), Rel w mi (si.wipe vs) (wipe σ vs) Hi ∧ Ext m1 (s1.lend src.2) σ H1 mi (si.wipe vs) (wipe σ vs) Hi ∧
    ¬ Own mi (si.wipe vs) (wipe σ vs) D ∧ (∀ j, ¬ BorS (si.wipe vs) (wipe σ vs) j D) ∧ Hi D = some (.lst av) ∧ RAs w mi Hi acc av ∧ comL (lcTurn vs g fc fe) (src.1.drop i) si = .ok rest s6 ∧ res = acc ++ rest, ⟨src.1.length, rfl, Nat.zero_le _, ?_⟩, ?_⟩
  · have tm := tmp_new rb hD
    have tmw : ¬ Own m1 ((s1.lend src.2).wipe vs) (wipe σ vs) D := fun z => by
      rcases z with z | ⟨j, z⟩
      · exact tm.2.1 (.inl z)
      · exact tm.2.1 (.inr ⟨j, (own_wipe z).1⟩)
    have hD2 : H1 D = none := hD
    refine ⟨m1, s1.lend src.2, [], res, [], ((rb.new hD).wipe vs), ((Ext.newO hD).wipe vs), tmw, fun j z => tm.2.2 j (bor_wipe z).1, upd_same, .nil, ?_, rfl⟩
    rw [List.drop_zero]
    exact hcom
  · rintro i k Hi ⟨rfl, hi, mi, si, acc, rest, av, ri, ei, no, nb, hDi, ra, hc, er⟩
    by_cases hlt : i < src.1.length
    · have ha : src.1[i]? = some src.1[i] := List.getElem?_eq_getElem hlt
      obtain ⟨go, yl⟩ := x1.go mi _ _ Hi ei i _ ha
      rw [List.drop_eq_getElem_cons hlt] at hc
      unfold comL at hc
      obtain ⟨o, s', ht, hc⟩ := R.bind_ok hc
      obtain ⟨rest', s'', hc2, hc3⟩ := R.bind_ok hc
      cases hc3
      unfold lcTurn at ht
      obtain ⟨u0, s3, hg, ht⟩ := R.bind_ok ht
      obtain ⟨b, s4, hb, ht⟩ := R.bind_ok ht
      refine .inr ⟨go, fun H' => ∃ (mi : Pl) (av : List V), Rel w mi (s'.wipe vs) (wipe σ vs) H' ∧ Ext m1 (s1.lend src.2) σ H1 mi (s'.wipe vs) (wipe σ vs) H' ∧ ¬ Own mi (s'.wipe vs) (wipe σ vs) D ∧ (∀ j, ¬ BorS (s'.wipe vs) (wipe σ vs) j D) ∧ H' D = some (.lst av) ∧ RAs w mi H' (acc ++ o.toList) av, fun H' ⟨mi', av', a1, a2, a3, a4, a5, a6⟩ => ⟨src.1.length - (i + 1), by omega, rfl, hlt, mi', s', acc ++ o.toList, rest', av', a1, a2, a3, a4, a5, a6, hc2, by rw [er, List.append_assoc]⟩, fun x H' y => ?_⟩
      obtain ⟨hH, rx⟩ := yl x H' y
      -- from the turn's start to the item
      have st0 : Rel w mi (si.wipe vs) (wipe σ vs) H' ∧ Ext mi (si.wipe vs) (wipe σ vs) Hi mi (si.wipe vs) (wipe σ vs) H' := by
        rcases hH with hH | ⟨p, o, hp, hH⟩
        · subst hH; exact ⟨ri, .refl⟩
        · subst hH; exact ⟨ri.new hp, Ext.newO hp⟩
      obtain ⟨r0, e0⟩ := st0
      refine ⟨⟨mi, si.wipe vs, wipe σ vs, Hi⟩, mi, si.wipe vs, .v src.1[i], r0, e0, rx, ?_⟩
      have hg : g (.v src.1[i]) (si.wipe vs) = .ok u0 s3 := hg
      rw [hg]
      intro m3 σ3 H3 r3 e3 j3 _
      have e3 : Ext mi (si.wipe vs) (wipe σ vs) Hi m3 s3 σ3 H3 := e3
      have hw3 : wipe σ3 vs = wipe σ vs := by
        have q := wipe_same (vs := vs) (σ := wipe σ vs) (σ' := σ3) j3.1.symm fun j hj => j3.2 j fun z => hj (hjs j z)
        rw [q]
        refine wipe_same (by rw [wipe_length]) fun j hj => ?_
        rw [get_wipe _ _ hj]
      refine ⟨hw3, m3, s3, r3, ?_⟩
      rw [hb]
      intro m4 H4 b' r4 e4 eb
      have eb : b = b' := eb
      subst eb
      have e4' : Ext mi (si.wipe vs) (wipe σ vs) Hi m4 s4 σ3 H4 := e3.trans e4
      -- D at a later state of the turn
      have keepD : ∀ {mm : Pl} {ss : S} {Hh : Hp}, Ext mi (si.wipe vs) (wipe σ vs) Hi mm ss σ3 Hh → Hh D = some (.lst av) ∧ ¬ Own mm ss σ3 D ∧ ∀ j, ¬ BorS ss σ3 j D := fun {mm ss Hh} ee => by
        refine ⟨ee.frame D _ hDi no, fun z => ?_, fun j z => ?_⟩
        · rcases ee.new D z with z | z
          · exact no z
          · rw [hDi] at z; cases z
        · rcases ee.bor j D z with z | z | z
          · exact nb j z
          · exact no (.inr ⟨j, z⟩)
          · rw [hDi] at z; cases z
      cases b with
      | false =>
        rw [if_neg Bool.false_ne_true]
        rw [if_neg Bool.false_ne_true] at ht
        cases ht
        obtain ⟨k1, k2, k3⟩ := keepD e4'
        refine ⟨m4, av, hw3 ▸ r4.wipe vs, hw3 ▸ (ei.trans e4').wipe vs, fun z => k2 ?_, fun j z => k3 j ?_, k1, ?_⟩
        · rcases z with z | ⟨j, z⟩
          · exact .inl z
          · rw [← hw3] at z; exact .inr ⟨j, (own_wipe z).1⟩
        · rw [← hw3] at z; exact (bor_wipe z).1
        · show RAs w m4 H4 (acc ++ []) av
          rw [List.append_nil]
          exact RAs.stb (e4'.stb ri) ra
      | true =>
        rw [if_pos rfl]
        rw [if_pos rfl] at ht
        obtain ⟨y, s5, he, ht⟩ := R.bind_ok ht
        refine ⟨m4, s4, r4, ?_⟩
        rw [he]
        intro m5 H5 yv r5 e5 xy
        split at ht
        · rename_i a hA
          cases ht
          have e5' : Ext mi (si.wipe vs) (wipe σ vs) Hi m5 s' σ3 H5 := e4'.trans e5
          obtain ⟨k1, k2, k3⟩ := keepD e5'
          have hav := ra.len
          have racc := RAs.stb (e5'.stb ri) ra
          have ry := a_of xy hA
          have qm : Mob (H5 D) := by rw [k1]; trivial
          have hlt2 : acc.length < Lim := by
            have : res.length = acc.length + (some a).toList.length + rest'.length := by rw [er]; simp; omega
            have h5 : (some a).toList.length = 1 := rfl
            omega
          refine ⟨av, k1, by rw [lim_eq, ← hav]; exact hlt2, m5, av ++ [yv], hw3 ▸ (r5.tmp qm k2 k3).wipe vs, hw3 ▸ ((ei.trans e5').touch hD).wipe vs, fun z => k2 ?_, fun j z => k3 j ?_, upd_same, RAs.stb (stb_mob qm) (racc.app (.cons ry .nil))⟩
          · rcases z with z | ⟨j, z⟩
            · exact .inl z
            · rw [← hw3] at z; exact .inr ⟨j, (own_wipe z).1⟩
          · rw [← hw3] at z; exact (bor_wipe z).1
        · cases ht
    · have e : i = src.1.length := by omega
      subst e
      rw [List.drop_length] at hc
      cases hc
      rw [List.append_nil] at er
      subst er
      refine .inl ⟨x1.stop mi _ _ Hi ei _ (Nat.le_refl _), ?_⟩
      obtain ⟨rF, eF, nF⟩ := lc_end r1 hpl ri ei
      exact h1 mi Hi (.ref D) rF eF ⟨D, rfl, ⟨av, hDi, hres, ra⟩, e1.gone D hD, nF D hD no nb⟩
end
end CE
end CEp
section CEq
set_option maxRecDepth 100000
set_option maxHeartbeats 2000000
namespace CE
open PySem PySem.Spec PyProof.Rows L2
/-- what is promised of a statement's outcome -/
def PQ (w : Wd) (W : WX) (m : Pl) (s : S) (σ : L2.St) (H : Hp) (q : Q) (D : Ends) : Prop := match q with
  | .nx s' => ∀ m' σ' H', Rel w m' s' σ' H' → Ext m s σ H m' s' σ' H' → D.nx σ' H'
  | .rt t s' => ∀ m' σ' H' v, Rel w m' s' σ' H' → Ext m s σ H m' s' σ' H' → RT w σ' H m' s' H' t v → D.rt v H'
  | .bk s' => ∀ m' σ' H', Rel w m' s' σ' H' → Ext m s σ H m' s' σ' H' → D.bk σ' H'
  | .ct s' => ∀ m' σ' H', Rel w m' s' σ' H' → Ext m s σ H m' s' σ' H' → D.ct σ' H'
  | .exc c fs s' => ∀ m' σ' H' cls d, Rel w m' s' σ' H' → Ext m s σ H m' s' σ' H' → RX w m' H' c fs cls d → W cls d σ' H'
  | .stuck => False
def tS (w : Wd) (W : WX) (f : S → Q) : TS := fun D σ H => ∃ m s, Rel w m s σ H ∧ PQ w W m s σ H (f s) D
structure SndS (X : Cx) (w : Wd) (W : WX) (st : Stmt) (f : S → Q) : Prop where
  ps : PS X st (tS w W f)
structure SndSs (X : Cx) (w : Wd) (W : WX) (st : List Stmt) (f : S → Q) : Prop where
  pss : PSs X st (tS w W f)
section
variable {w : Wd} {W : WX} {m m1 : Pl} {s s1 : S} {σ σ1 : L2.St} {H H1 : Hp} {q : Q} {D : Ends}
theorem PQ.at (h : PQ w W m s σ H q D) (e : Ext m s σ H m1 s1 σ1 H1) : PQ w W m1 s1 σ1 H1 q D := by
  cases q with
  | nx s' => exact fun m' σ' H' r x => h m' σ' H' r (e.trans x)
  | rt t s' => exact fun m' σ' H' v r x y => h m' σ' H' v r (e.trans x) (y.back e.gone)
  | bk s' => exact fun m' σ' H' r x => h m' σ' H' r (e.trans x)
  | ct s' => exact fun m' σ' H' r x => h m' σ' H' r (e.trans x)
  | exc c fs s' => exact fun m' σ' H' cls d r x y => h m' σ' H' cls d r (e.trans x) y
  | stuck => exact h
theorem PQ.stm {α β : Type} {rr : RR α β} {r : R α} {k : α → S → Q} (h : PQ w W m s σ H (r.stm k) D) :
    Pst w W rr H m s σ H r (fun b H1 => ∃ a s1 m1, r = .ok a s1 ∧ Rel w m1 s1 σ H1 ∧ Ext m s σ H m1 s1 σ H1 ∧ rr σ H m1 s1 H1 a b ∧ PQ w W m s σ H (k a s1) D) := by
  cases r with
  | ok a s1 => exact fun m1 H1 b r1 e1 x1 => ⟨a, s1, m1, rfl, r1, e1, x1, h⟩
  | exc c fs s' => exact fun m' H' cls d r x y => h m' σ H' cls d r x y
  | stuck => exact h
theorem PQ.stmG {js : List Nat} {r : R Unit} {k : Unit → S → Q} {mt : Pl} {Ht : Hp} {σt : L2.St} (h : PQ w W m s σ H (r.stm k) D) : PstG w W js σt mt Ht ⟨m, s, σ, H⟩ r (fun σ1 H1 => ∃ s1 m1, r = .ok () s1 ∧ Rel w m1 s1 σ1 H1 ∧ Ext m s σ H m1 s1 σ1 H1 ∧ PQ w W m s σ H (k () s1) D) := by
  cases r with
  | ok a s1 => exact fun m1 σ1 H1 r1 e1 _ _ => ⟨s1, m1, rfl, r1, e1, h⟩
  | exc c fs s' => exact fun m' σ' H' cls d r x y => h m' σ' H' cls d r x y
  | stuck => exact h
theorem PQ.seq {k : S → Q} (h : PQ w W m s σ H (q.seq k) D) : PQ w W m s σ H q { D with nx := tS w W k D } := by
  cases q with
  | nx s' => exact fun m' σ' H' r x => ⟨m', s', r, PQ.at (show PQ w W m s σ H (k s') D from h) x⟩
  | _ => exact h
end
section
variable {X : Cx} {w : Wd} {W : WX} {pos : Pos}
theorem snd_snil : SndSs X w W [] (fun s => .nx s) := ⟨pss_nil.imp fun D σ H ⟨m, s, r, h⟩ => h m σ H r .refl⟩
theorem snd_scons {st : Stmt} {rest : List Stmt} {f g : S → Q} (h1 : SndS X w W st f) (h2 : SndSs X w W rest g) : SndSs X w W (st :: rest) (fun s => (f s).seq g) :=
  ⟨(pss_cons h1.ps h2.pss).imp fun D σ H ⟨m, s, r, h⟩ => ⟨m, s, r, PQ.seq h⟩⟩
theorem snd_pass : SndS X w W (.Pass pos) (fun s => .nx s) := ⟨ps_pass.imp fun D σ H ⟨m, s, r, h⟩ => h m σ H r .refl⟩
theorem snd_doc {x j pos'} : SndS X w W (.Expr (.Constant (.str x) j pos) pos') (fun s => .nx s) := ⟨ps_doc.imp fun D σ H ⟨m, s, r, h⟩ => h m σ H r .refl⟩
theorem snd_bk : SndS X w W (.Break pos) (fun s => .bk s) := ⟨ps_break.imp fun D σ H ⟨m, s, r, h⟩ => h m σ H r .refl⟩
theorem snd_ct : SndS X w W (.Continue pos) (fun s => .ct s) := ⟨ps_continue.imp fun D σ H ⟨m, s, r, h⟩ => h m σ H r .refl⟩
/-- no comprehension -/
def notComp : Expr → Bool
  | .ListComp _ _ _ _ => false
  | .SetComp _ _ _ _ => false
  | .DictComp _ _ _ _ _ => false
  | _ => true
theorem swaps_of {e : Expr} {t : Option Expr} {l : Nat} {env : Env} (h : notComp e = true) : swapsWith e t l env = pure false := by
  cases e <;> first | rfl | cases h
theorem snd_ex {e : Expr} {f : S → R T} (he : Snd X w W e f) (hc : notComp e = true) : SndS X w W (.Expr e pos) (fun s => (f s).stm fun _ s1 => .nx s1) :=
  ⟨(ps_expr he.pe (swaps_of hc)).imp fun D σ H ⟨m, s, r, h⟩ => ⟨m, s, r, (PQ.stm (rr := rT w) h).mono fun v H1 ⟨a, s1, m1, _, r1, e1, _, h1⟩ => h1 m1 σ H1 r1 e1⟩⟩
theorem snd_rt {e : Expr} {f : S → R T} (he : Snd X w W e f) : SndS X w W (.Return (some e) pos) (fun s => (f s).stm fun t s1 => .rt t s1) :=
  ⟨(ps_ret he.pe).imp fun D σ H ⟨m, s, r, h⟩ => ⟨m, s, r, (PQ.stm (rr := rT w) h).mono fun v H1 ⟨a, s1, m1, _, r1, e1, x1, h1⟩ => h1 m1 σ H1 v r1 e1 x1⟩⟩
theorem snd_rtn : SndS X w W (.Return none pos) (fun s => .rt (.v .non) s) := ⟨ps_retN.imp fun D σ H ⟨m, s, r, h⟩ => h m σ H .non r .refl .non⟩
theorem snd_if {c : Expr} {a b : List Stmt} {f : S → R T} {fa fb : S → Q} (hc : Snd X w W c f) (ha : SndSs X w W a fa) (hb : SndSs X w W b fb) : SndS X w W (.If c a b pos) (fun s => (f s).stm fun t s1 => match asBl t with
    | some true => fa s1
    | some false => fb s1
    | none => .stuck) := by
  refine ⟨(ps_if hc.pt ha.pss hb.pss).imp fun D σ H ⟨m, s, r, h⟩ => ⟨m, s, r, (PQ.stm (rr := rT w) h).mono fun v H1 ⟨t, s1, m1, _, r1, e1, x1, h1⟩ => ?_⟩⟩
  split at h1
  · rename_i hk
    exact ⟨true, bl_of x1 hk, iteT ⟨m1, s1, r1, h1.at e1⟩⟩
  · rename_i hk
    exact ⟨false, bl_of x1 hk, iteF ⟨m1, s1, r1, h1.at e1⟩⟩
  · exact h1.elim
theorem snd_asgG {tg e : Expr} {js : List Nat} {f : S → R T} {g : T → S → R Unit} (he : Snd X w W e f) (hg : SndG X w W tg js g) (hs : swapsWithSole [tg] e pos.line X.env = pure false) (hw : swappedStores [tg] e X.env = pure none) (h1 : (assignEach [tg] X.env).map (·.2) = [assign tg X.env]) :
    SndS X w W (.Assign [tg] e pos) (fun s => (f s).stm fun t s1 => (g t s1).stm fun _ s2 => .nx s2) := by
  refine ⟨(ps_asg he.pe hg.pg hs hw h1).imp fun D σ H ⟨m, s, r, h⟩ => ⟨m, s, r, (PQ.stm (rr := rT w) h).mono fun v H1 ⟨t, s1, m1, _, r1, e1, x1, h1⟩ => ?_⟩⟩
  refine ⟨⟨m, s, σ, H⟩, m1, s1, t, r1, e1, x1, ?_⟩
  refine (PQ.stmG (js := js) (mt := m1) (Ht := H1) (σt := σ) h1).mono (fun _ h => h) fun σ2 H2 ⟨s2, m2, _, r2, e2, h2⟩ => h2 m2 σ2 H2 r2 e2
theorem tE_set {i : Nat} {f : S → R T} {t : TE} (hi : i < X.N.length) {pins : List (Addr × Obj)} {s0 : Shared} {σ : L2.St} {H : Hp} {D : Ends} (I : Inv X pins σ H s0) (h : tS w W (fun s => (f s).stm fun t s1 => (putT s1 i t).stm fun _ s2 => .nx s2) D σ H) :
    tAsg (tE w W f) (gName i) D σ H := by
  obtain ⟨m, s, r, h⟩ := h
  refine ⟨m, s, r, (PQ.stm (rr := rT w) h).mono fun v H1 ⟨t, s1, m1, _, r1, e1, x1, h1⟩ => ?_⟩
  have hlt : i < s1.env.length := by have h2 := r1.len; have h3 := I.len; omega
  cases hp : putT s1 i t with
  | stuck => rw [hp] at h1; exact h1.elim
  | exc c fs s' => cases t <;> cases hp
  | ok a s2 =>
    rw [hp] at h1
    obtain ⟨r2, e2⟩ := put_of r1 e1 hlt x1 (by cases a; exact hp)
    exact h1 m1 _ H1 r2 e2
theorem snd_set {i : Nat} {x : Str} {e : Expr} {pos' : Pos} {f : S → R T} (hN : X.N.Nodup) (hi : X.N[i]? = some x) (hx : Loc X.env.scope x) (hf : X.fn x = true ∨ X.env.scope.names.lookup x = some .local) (he : Snd X w W e f) (hs : swapsWith e (some (.Name x pos')) pos.line X.env = pure false) :
    SndS X w W (.Assign [.Name x pos'] e pos) (fun s => (f s).stm fun t s1 => (putT s1 i t).stm fun _ s2 => .nx s2) := by
  refine ⟨⟨fun pins s0 σ H D I h => (ps_set (pos := pos) hN hi hx he.pe hs hf).run pins s0 σ H D I ?_⟩⟩
  exact tE_set (X := X) (t := fun _ _ _ => True) (List.getElem?_eq_some_iff.mp hi).1 I h
theorem rt_put {m : Pl} {s : S} {σ : L2.St} {H H0 : Hp} {i : Nat} {c : C} {t : T} {u v : V} (hi : i < s.env.length) (x : RT w σ H0 m s H t u) (ns : ∀ k, t ≠ .sl k) (hb : c.bor = false) (hd : c.own = true → ∀ p, v = .ref p → H0 p ≠ none) : RT w (σ.set i (some v)) H0 m (s.put i c) H t u := by
  have tmp : ∀ {p}, Tmp H0 m s σ p → Tmp H0 m (s.put i c) (σ.set i (some v)) p := fun {p} ⟨h0, h1, h2⟩ => by
    refine ⟨h0, fun z => ?_, fun j z => h2 j (bor_put hi hb z)⟩
    rcases z with z | ⟨j, z⟩
    · exact h1 (.inl z)
    · rcases own_put hi z with ⟨_, e, o⟩ | ⟨_, z⟩
      · exact hd o p e h0
      · exact h1 (.inr ⟨j, z⟩)
  cases t with
  | v a => exact x
  | sl k => exact absurd rfl (ns k)
  | tl xs => obtain ⟨p, e, hl, ht⟩ := x; exact ⟨p, e, hl, tmp ht⟩
  | td xs => obtain ⟨p, e, hl, ht⟩ := x; exact ⟨p, e, hl, tmp ht⟩
/-- x, y = a, b -/
theorem snd_par {i j : Nat} {x y : Str} {a b : Expr} {px py pt : Pos} {kt k2 pt2} {fa fb : S → R T} (hc : X.calm = true) (hN : X.N.Nodup) (hi : X.N[i]? = some x) (hj : X.N[j]? = some y) (hij : i ≠ j)
    (hx : X.env.scope.names.lookup x = some .local) (hy : X.env.scope.names.lookup y = some .local) (ha : Snd X w W a fa) (hb : Snd X w W b fb) (hsa : notStar a = true) (hsb : notStar b = true)
    (hw : swappedStores [.Tuple [.Name x px, .Name y py] kt pt] (.Tuple [a, b] k2 pt2) X.env = pure (some [x, y])) :
    SndS X w W (.Assign [.Tuple [.Name x px, .Name y py] kt pt] (.Tuple [a, b] k2 pt2) pos) (fun s => (fa s).stm fun t s1 => (fb s1).stm fun u s2 => (putT s2 i t).stm fun _ s3 => (putT s3 j u).stm fun _ s4 => .nx s4) := by
  have hA := pa_cons ha.pe (pa_cons hb.pe pa_nil (star_cons hsb)) (star_cons hsa)
  refine ⟨⟨fun pins s0 σ H D I h => (ps_par (pos := pos) hc hN hi hj hij hx hy hA hw).run pins s0 σ H D I ?_⟩⟩
  obtain ⟨m, s, r, h⟩ := h
  refine ⟨m, s, r, (PQ.stm (rr := rT w) h).mono fun v H1 ⟨t, s1, m1, _, r1, e1, x1, h1⟩ => ⟨m1, s1, r1, (PQ.stm (rr := rT w) (h1.at e1)).mono fun u H2 ⟨t2, s2, m2, hfb, r2, e2, x2, _⟩ => ⟨v, u, rfl, ?_⟩⟩⟩
  rw [hfb] at h1
  have h2 : PQ w W m s σ H ((putT s2 i t).stm fun _ s3 => (putT s3 j t2).stm fun _ s4 => .nx s4) D := h1
  have x1' := x1.ext r1 e2
  have e12 := e1.trans e2
  have hl : X.N.length = s2.env.length := by have h2 := r2.len; have h3 := I.len; omega
  have hil : i < s2.env.length := by rw [← hl]; exact (List.getElem?_eq_some_iff.mp hi).1
  have hjl : j < s2.env.length := by rw [← hl]; exact (List.getElem?_eq_some_iff.mp hj).1
  cases hp : putT s2 i t with
  | stuck => rw [hp] at h2; exact h2.elim
  | exc c fs s' => cases t <;> cases hp
  | ok z s3 =>
    rw [hp] at h2
    have h2 : PQ w W m s σ H ((putT s3 j t2).stm fun _ s4 => .nx s4) D := h2
    obtain ⟨r3, e3⟩ := put_of r2 e12 hil x1' (by cases z; exact hp)
    have ns : ∀ k, t2 ≠ .sl k := fun k e => by subst e; exact h2.elim
    -- what the slot holds now
    have x3 : RT w (σ.set i (some v)) H1 m2 s3 H2 t2 u := by
      cases t with
      | v a => cases hp; exact rt_put hil x2 ns rfl (fun z => nomatch z)
      | sl k => cases hp
      | tl xs =>
        cases hp
        obtain ⟨p, ev, ⟨vs, hv, _⟩, _⟩ := x1
        exact rt_put hil x2 ns rfl fun _ q e => by rw [ev] at e; cases e; rw [hv]; simp
      | td xs =>
        cases hp
        obtain ⟨p, ev, ⟨vs, hv, _⟩, _⟩ := x1
        exact rt_put hil x2 ns rfl fun _ q e => by rw [ev] at e; cases e; rw [hv]; simp
    have hl3 : s3.env.length = s2.env.length := by
      have h5 := r3.len
      have h6 := r2.len
      rw [List.length_set] at h5
      omega
    cases hp2 : putT s3 j t2 with
    | stuck => rw [hp2] at h2; exact h2.elim
    | exc c fs s' => cases t2 <;> cases hp2
    | ok z2 s4 =>
      rw [hp2] at h2
      have hjl3 : j < s3.env.length := by rw [hl3]; exact hjl
      obtain ⟨r4, e4⟩ := put_of r3 e3 hjl3 (RT.back e1.gone x3) (by cases z2; exact hp2)
      exact h2 m2 _ H2 r4 e4
/-- one store more: what stays of a result that is still to be stored -/
theorem put_keep {m : Pl} {s s' : S} {σ : L2.St} {H H0 : Hp} {i : Nat} {t t2 : T} {v u : V} {y : Unit} (hil : i < s.env.length) (hp : putT s i t = .ok y s') (x2 : RT w σ H0 m s H t2 u) (ns : ∀ k, t2 ≠ .sl k) (hv : ∀ p, v = .ref p → (∀ a, t ≠ .v a) → H0 p ≠ none) : RT w (σ.set i (some v)) H0 m s' H t2 u := by
  cases t with
  | v a => cases hp; exact rt_put hil x2 ns rfl (fun z => nomatch z)
  | sl k => cases hp
  | tl xs => cases hp; exact rt_put hil x2 ns rfl fun _ q e => hv q e fun a z => nomatch z
  | td xs => cases hp; exact rt_put hil x2 ns rfl fun _ q e => hv q e fun a z => nomatch z
theorem tmp_there {m : Pl} {s : S} {σ : L2.St} {H H0 : Hp} {t : T} {v : V} (x : RT w σ H0 m s H t v) (ns : ∀ k, t ≠ .sl k) : ∀ p, v = .ref p → (∀ a, t ≠ .v a) → H p ≠ none := fun p ev na => by
  cases t with
  | v a => exact absurd rfl (na a)
  | sl k => exact absurd rfl (ns k)
  | tl xs => obtain ⟨q, e, ⟨vs, hv, _⟩, _⟩ := x; rw [ev] at e; cases e; rw [hv]; simp
  | td xs => obtain ⟨q, e, ⟨vs, hv, _⟩, _⟩ := x; rw [ev] at e; cases e; rw [hv]; simp
theorem putT_len {s s' : S} {i : Nat} {t : T} {y : Unit} (h : putT s i t = .ok y s') : s'.env.length = s.env.length := by
  cases t <;> cases h <;> exact List.length_set ..
theorem putT_no {s : S} {i : Nat} {t : T} {c : Str} {fs : List (Str × A)} {s' : S} (h : putT s i t = .exc c fs s') : False := by cases t <;> cases h
/-- x, y, z = a, b, c -/
theorem snd_par3 {i j l : Nat} {x y z : Str} {a b c : Expr} {px py pz pt : Pos} {kt k2 pt2} {fa fb fc : S → R T} (hc : X.calm = true) (hN : X.N.Nodup) (hi : X.N[i]? = some x) (hj : X.N[j]? = some y) (hl : X.N[l]? = some z) (hij : i ≠ j) (hil : i ≠ l) (hjl : j ≠ l)
    (hx : X.env.scope.names.lookup x = some .local) (hy : X.env.scope.names.lookup y = some .local) (hz : X.env.scope.names.lookup z = some .local) (ha : Snd X w W a fa) (hb : Snd X w W b fb) (hd : Snd X w W c fc) (hsa : notStar a = true) (hsb : notStar b = true) (hsc : notStar c = true)
    (hw : swappedStores [.Tuple [.Name x px, .Name y py, .Name z pz] kt pt] (.Tuple [a, b, c] k2 pt2) X.env = pure (some [x, y, z])) :
    SndS X w W (.Assign [.Tuple [.Name x px, .Name y py, .Name z pz] kt pt] (.Tuple [a, b, c] k2 pt2) pos) (fun s => (fa s).stm fun t s1 => (fb s1).stm fun u s2 => (fc s2).stm fun v s3 => (putT s3 i t).stm fun _ s4 => (putT s4 j u).stm fun _ s5 => (putT s5 l v).stm fun _ s6 => .nx s6) := by
  have hA := pa_cons ha.pe (pa_cons hb.pe (pa_cons hd.pe pa_nil (star_cons hsc)) (star_cons hsb)) (star_cons hsa)
  refine ⟨⟨fun pins s0 σ H D I h => (ps_par3 (pos := pos) hc hN hi hj hl hij hil hjl hx hy hz hA hw).run pins s0 σ H D I ?_⟩⟩
  obtain ⟨m, s, r, h⟩ := h
  refine ⟨m, s, r, (PQ.stm (rr := rT w) h).mono fun v1 H1 ⟨t1, s1, m1, _, r1, e1, x1, h1⟩ => ⟨m1, s1, r1, (PQ.stm (rr := rT w) (h1.at e1)).mono fun v2 H2 ⟨t2, s2, m2, hfb, r2, e2, x2, h2⟩ => ⟨m2, s2, r2, (PQ.stm (rr := rT w) (h2.at e2)).mono fun v3 H3 ⟨t3, s3, m3, hfc, r3, e3, x3, _⟩ => ⟨v1, v2, v3, rfl, ?_⟩⟩⟩⟩
  rw [hfb] at h1
  have h1 : PQ w W m s σ H ((fc s2).stm fun v s3 => (putT s3 i t1).stm fun _ s4 => (putT s4 j t2).stm fun _ s5 => (putT s5 l v).stm fun _ s6 => .nx s6) D := h1
  rw [hfc] at h1
  have h2 : PQ w W m s σ H ((putT s3 i t1).stm fun _ s4 => (putT s4 j t2).stm fun _ s5 => (putT s5 l t3).stm fun _ s6 => .nx s6) D := h1
  have e13 := (e1.trans e2).trans e3
  have hln : X.N.length = s3.env.length := by have h2 := r3.len; have h3 := I.len; omega
  have il : i < s3.env.length := by rw [← hln]; exact (List.getElem?_eq_some_iff.mp hi).1
  have jl : j < s3.env.length := by rw [← hln]; exact (List.getElem?_eq_some_iff.mp hj).1
  have ll : l < s3.env.length := by rw [← hln]; exact (List.getElem?_eq_some_iff.mp hl).1
  have x1' : RT w σ H m3 s3 H3 t1 v1 := (x1.ext r1 e2).ext r2 e3
  have x2' : RT w σ H1 m3 s3 H3 t2 v2 := x2.ext r2 e3
  cases hp : putT s3 i t1 with
  | stuck => rw [hp] at h2; exact h2.elim
  | exc c fs s' => exact (putT_no hp).elim
  | ok y4 s4 =>
    rw [hp] at h2
    have h2 : PQ w W m s σ H ((putT s4 j t2).stm fun _ s5 => (putT s5 l t3).stm fun _ s6 => .nx s6) D := h2
    have n1 : ∀ k, t1 ≠ .sl k := fun k e => by subst e; cases hp
    have n2 : ∀ k, t2 ≠ .sl k := fun k e => by subst e; exact h2.elim
    obtain ⟨r4, e4⟩ := put_of r3 e13 il x1' (by cases y4; exact hp)
    have x24 : RT w (σ.set i (some v1)) H1 m3 s4 H3 t2 v2 := put_keep il hp x2' n2 (tmp_there x1 n1)
    cases hp2 : putT s4 j t2 with
    | stuck => rw [hp2] at h2; exact h2.elim
    | exc c fs s' => exact (putT_no hp2).elim
    | ok y5 s5 =>
      rw [hp2] at h2
      have h2 : PQ w W m s σ H ((putT s5 l t3).stm fun _ s6 => .nx s6) D := h2
      have n3 : ∀ k, t3 ≠ .sl k := fun k e => by subst e; exact h2.elim
      have jl4 : j < s4.env.length := by rw [putT_len hp]; exact jl
      obtain ⟨r5, e5⟩ := put_of r4 e4 jl4 (RT.back e1.gone x24) (by cases y5; exact hp2)
      have x34 : RT w (σ.set i (some v1)) H2 m3 s4 H3 t3 v3 := put_keep il hp x3 n3 fun p ev na => e2.keep p (tmp_there x1 n1 p ev na)
      have x35 : RT w ((σ.set i (some v1)).set j (some v2)) H2 m3 s5 H3 t3 v3 := put_keep jl4 hp2 x34 n3 (tmp_there x2 n2)
      have ll5 : l < s5.env.length := by rw [putT_len hp2, putT_len hp]; exact ll
      cases hp3 : putT s5 l t3 with
      | stuck => rw [hp3] at h2; exact h2.elim
      | exc c fs s' => exact (putT_no hp3).elim
      | ok y6 s6 =>
        rw [hp3] at h2
        obtain ⟨r6, e6⟩ := put_of r5 e5 ll5 (RT.back (e1.trans e2).gone x35) (by cases y6; exact hp3)
        exact h2 m3 _ H3 r6 e6
end
end CE
end CEq
section CEr
set_option maxRecDepth 100000
set_option maxHeartbeats 2000000
namespace CE
open PySem PySem.Spec PyProof.Rows L2
section
variable {X : Cx} {w : Wd} {W : WX} {pos : Pos}
/-- a clause's tests -/
structure SndC (X : Cx) (w : Wd) (W : WX) (ifs : List Expr) (f : S → R Bool) : Prop where
  pts : PTs X ifs (tG w W rEq f)
theorem PTs_imp {ifs : List Expr} {t t' : TT} (h : PTs X ifs t) (k : ∀ σ H Q, t' σ H Q → t σ H Q) : PTs X ifs t' := ⟨fun pins s σ H Q I q => h.run pins s σ H Q I (k σ H Q q)⟩
theorem snd_cno : SndC X w W [] (fun s => .ok true s) := ⟨PTs_imp pts_nil fun σ H Q ⟨m, s, r, h⟩ => h.fin r rfl⟩
theorem snd_cso {e : Expr} {f : S → R T} (h : Snd X w W e f) : SndC X w W [e] (fun s => (f s).bind fun t s1 => match asBl t with
    | some i => .ok i s1
    | none => .stuck) := by
  refine ⟨PTs_imp (pts_one h.pt) fun σ H Q ⟨m, s, r, h⟩ => ⟨m, s, r, (Pst.bind (rr := rT w) h).mono fun v H1 ⟨t, s1, m1, _, r1, e1, x1, h1⟩ => ?_⟩⟩
  split at h1
  · rename_i i hi
    exact ⟨i, bl_of x1 hi, h1.fin r1 rfl⟩
  · exact h1.elim
theorem snd_lc {elt tg iter : Expr} {ifs : List Expr} {scope : Scope} {own : List (Str × Nat)} {js : List Nat} {fit : S → R (List A × List Nat)} {g : T → S → R Unit} {fc : S → R Bool} {fe : S → R T} (hc : X.calm = true) (hN : X.N.Nodup) (hi : SndI X w W tg iter fit) (ok : BlkOk X.N X.env.scope scope own)
    (hjs : ∀ j ∈ js, j ∈ own.map (·.2))
    (hg : ∀ (s : Shared) (H : Hp) (C : Addr) (cl : List (Str × Addr)) (fp : List Addr), SndG (X.blk s H scope (compEnvC scope cl C X.env) fp) w W0 tg js g)
    (ht : ∀ (s : Shared) (H : Hp) (C : Addr) (cl : List (Str × Addr)) (fp : List Addr), SndC (X.blk s H scope (compEnvC scope cl C X.env) fp) w W0 ifs fc)
    (he : ∀ (s : Shared) (H : Hp) (C : Addr) (cl : List (Str × Addr)) (fp : List Addr), Snd (X.blk s H scope (compEnvC scope cl C X.env) fp) w W0 elt fe) (hs : ∀ x, foldedSetIterable iter X.env x = pure x) :
    Snd X w W (.ListComp elt [⟨tg, iter, ifs, 0⟩] scope pos) (lcF (own.map (·.2)) fit g fc fe) :=
  .of ((pe_lc hc hN hi.pi ok (fun s H C cl fp => (hg s H C cl fp).pg) (fun s H C cl fp => (ht s H C cl fp).pts) (fun s H C cl fp => (he s H C cl fp).pe) hs).imp fun σ H Q h => tE_lc hjs h) (by intro _; rfl)
theorem snd_setLc {i : Nat} {y : Str} {py : Pos} {elt tg iter : Expr} {ifs : List Expr} {scope : Scope} {own : List (Str × Nat)} {lpos : Pos} {js : List Nat} {fit : S → R (List A × List Nat)} {g : T → S → R Unit} {fc : S → R Bool} {fe : S → R T} (hc : X.calm = true) (hN : X.N.Nodup) (hy : X.N[i]? = some y) (hyl : X.env.scope.names.lookup y = some .local)
    (hsw : swapsWith (.ListComp elt [⟨tg, iter, ifs, 0⟩] scope lpos) (some (.Name y py)) pos.line X.env = pure true) (hi : SndI X w W tg iter fit) (ok : BlkOk X.N X.env.scope scope own)
    (hjs : ∀ j ∈ js, j ∈ own.map (·.2))
    (hg : ∀ (s : Shared) (H : Hp) (C : Addr) (cl : List (Str × Addr)) (fp : List Addr), SndG (X.blk s H scope (compEnvC scope cl C X.env) fp) w W0 tg js g)
    (ht : ∀ (s : Shared) (H : Hp) (C : Addr) (cl : List (Str × Addr)) (fp : List Addr), SndC (X.blk s H scope (compEnvC scope cl C X.env) fp) w W0 ifs fc)
    (he : ∀ (s : Shared) (H : Hp) (C : Addr) (cl : List (Str × Addr)) (fp : List Addr), Snd (X.blk s H scope (compEnvC scope cl C X.env) fp) w W0 elt fe) (hs : ∀ x, foldedSetIterable iter X.env x = pure x) :
    SndS X w W (.Assign [.Name y py] (.ListComp elt [⟨tg, iter, ifs, 0⟩] scope lpos) pos) (fun s => (lcF (own.map (·.2)) fit g fc fe s).stm fun t s1 => (putT s1 i t).stm fun _ s2 => .nx s2) := by
  refine ⟨⟨fun pins s0 σ H D I h => (ps_setLc (spos := pos) hc hN hy hyl hsw hi.pi ok (fun s H C cl fp => (hg s H C cl fp).pg) (fun s H C cl fp => (ht s H C cl fp).pts) (fun s H C cl fp => (he s H C cl fp).pe) hs).run pins s0 σ H D I ?_⟩⟩
  exact tE_lc hjs (tE_set (X := X) (t := fun _ _ _ => True) (List.getElem?_eq_some_iff.mp hy).1 I h)
def forF (fit : S → R (List A × List Nat)) (g : T → S → R Unit) (fb : S → Q) : S → Q := fun s => (fit s).stm fun src s1 => forL (fun x s2 => ((g (.v x) s2).stm fun _ s3 => .nx s3).seq fun s3 => fb s3) src.1 { s1 with env := borE s1.env src.2 }
theorem snd_for {tg iter : Expr} {body : List Stmt} {js : List Nat} {fit : S → R (List A × List Nat)} {g : T → S → R Unit} {fb : S → Q} (hp : PassesOwn (model X.prog X.w) X.A X.env X.xe) (hc : X.calm = true) (hi : SndI X w W tg iter fit) (hg : SndG X w W tg js g) (hb : SndSs X w W body fb) (hs : ∀ x, foldedSetIterable iter X.env x = pure x) :
    SndS X w W (.For tg iter body [] pos) (forF fit g fb) := by
  refine ⟨(ps_for hp hc hi.pi hg.pg hb.pss hs).imp fun D σ H ⟨m, s, r, h⟩ => ⟨m, s, r, (PQ.stm (rr := rIt w) h).mono fun J H1 ⟨src, s1, m1, _, r1, e1, x1, h1⟩ => ?_⟩⟩
  have rb := r1.lend src.2
  have eb := e1.lend src.2
  have h1 := h1.at eb
  refine ⟨fun i k σi Hi => k = src.1.length - i ∧ i ≤ src.1.length ∧ ∃ mi si, Rel w mi si σi Hi ∧ Ext m1 (s1.lend src.2) σ H1 mi si σi Hi ∧ PQ w W mi si σi Hi (forL (fun x s2 => ((g (.v x) s2).stm fun _ s3 => .nx s3).seq fun s3 => fb s3) (src.1.drop i) si) D, ⟨src.1.length, rfl, Nat.zero_le _, m1, s1.lend src.2, rb, .refl, h1⟩, ?_⟩
  rintro i k σi Hi ⟨rfl, hi, mi, si, ri, ei, hq⟩
  by_cases hlt : i < src.1.length
  · have ha : src.1[i]? = some src.1[i] := List.getElem?_eq_getElem hlt
    obtain ⟨go, yl⟩ := x1.go mi _ _ Hi ei i _ ha
    rw [List.drop_eq_getElem_cons hlt] at hq
    unfold forL at hq
    refine .inr ⟨go, fun σ' H' => ∃ m' s', Rel w m' s' σ' H' ∧ Ext m1 (s1.lend src.2) σ H1 m' s' σ' H' ∧ PQ w W m' s' σ' H' (forL (fun x s2 => ((g (.v x) s2).stm fun _ s3 => .nx s3).seq fun s3 => fb s3) (src.1.drop (i + 1)) s') D, fun σ' H' ⟨m', s', a1, a2, a3⟩ => ⟨src.1.length - (i + 1), by omega, rfl, hlt, m', s', a1, a2, a3⟩, fun x H' y => ?_⟩
    obtain ⟨hH, rx⟩ := yl x H' y
    have st0 : Rel w mi si σi H' ∧ Ext mi si σi Hi mi si σi H' := by
      rcases hH with hH | ⟨p, o, hp, hH⟩
      · subst hH; exact ⟨ri, .refl⟩
      · subst hH; exact ⟨ri.new hp, Ext.newO hp⟩
    obtain ⟨r0, e0⟩ := st0
    refine ⟨⟨mi, si, σi, Hi⟩, mi, si, .v src.1[i], r0, e0, rx, ?_⟩
    cases hgg : g (.v src.1[i]) si with
    | stuck => rw [hgg] at hq; exact hq.elim
    | exc c fs s3 => rw [hgg] at hq; exact fun m' σ' H' cls d r' e' x' => hq m' σ' H' cls d r' e' x'
    | ok u0 s3 =>
      rw [hgg] at hq
      have hq : PQ w W mi si σi Hi (match fb s3 with
        | .nx s' => forL (fun x s2 => ((g (.v x) s2).stm fun _ s3 => .nx s3).seq fun s3 => fb s3) (src.1.drop (i + 1)) s'
        | .ct s' => forL (fun x s2 => ((g (.v x) s2).stm fun _ s3 => .nx s3).seq fun s3 => fb s3) (src.1.drop (i + 1)) s'
        | .bk s' => .nx s'
        | r => r) D := hq
      intro m3 σ3 H3 r3 e3 _ _
      refine ⟨m3, s3, r3, ?_⟩
      have e3 : Ext mi si σi Hi m3 s3 σ3 H3 := e3
      cases hf : fb s3 with
      | nx s4 => rw [hf] at hq; exact fun m4 σ4 H4 r4 e4 => ⟨m4, s4, r4, ei.trans (e3.trans e4), hq.at (e3.trans e4)⟩
      | ct s4 => rw [hf] at hq; exact fun m4 σ4 H4 r4 e4 => ⟨m4, s4, r4, ei.trans (e3.trans e4), hq.at (e3.trans e4)⟩
      | bk s4 => rw [hf] at hq; exact fun m4 σ4 H4 r4 e4 => hq m4 σ4 H4 r4 (e3.trans e4)
      | rt t s4 => rw [hf] at hq; exact fun m4 σ4 H4 v r4 e4 x4 => hq m4 σ4 H4 v r4 (e3.trans e4) (x4.back e3.gone)
      | exc c fs s4 => rw [hf] at hq; exact fun m4 σ4 H4 cls d r4 e4 x4 => hq m4 σ4 H4 cls d r4 (e3.trans e4) x4
      | stuck => rw [hf] at hq; exact hq.elim
  · have e : i = src.1.length := by omega
    subst e
    rw [List.drop_length] at hq
    exact .inl ⟨x1.stop mi _ _ Hi ei _ (Nat.le_refl _), hq mi σi Hi ri .refl⟩
theorem snd_whl {c : Expr} {body : List Stmt} {fc : S → R T} {fb : S → Q} {n : Nat} (hp : PassesOwn (model X.prog X.w) X.A X.env X.xe) (hc : Snd X w W c fc) (hb : SndSs X w W body fb) : SndS X w W (.While c body [] pos) (whlL fc fb n) := by
  refine ⟨(ps_while hp hc.pt hb.pss).imp fun D σ H ⟨m, s, r, h⟩ => ?_⟩
  refine ⟨fun k σi Hi => ∃ mi si, Rel w mi si σi Hi ∧ PQ w W mi si σi Hi (whlL fc fb k si) D, ⟨n, m, s, r, h⟩, ?_⟩
  rintro k σi Hi ⟨mi, si, ri, hq⟩
  cases k with
  | zero => exact (show False from hq).elim
  | succ k =>
  unfold whlL at hq
  refine ⟨mi, si, ri, (PQ.stm (rr := rT w) hq).mono fun v H1 ⟨t, s1, m1, _, r1, e1, x1, h1⟩ => ?_⟩
  have h1 := h1.at e1
  split at h1
  · rename_i hk
    refine ⟨true, bl_of x1 hk, iteT ⟨fun σ' H' => ∃ m' s', Rel w m' s' σ' H' ∧ PQ w W m' s' σ' H' (whlL fc fb k s') D, fun σ' H' ⟨m', s', a1, a2⟩ => ⟨k, Nat.lt_succ_self _, m', s', a1, a2⟩, m1, s1, r1, ?_⟩⟩
    cases hf : fb s1 with
    | nx s4 => rw [hf] at h1; exact fun m4 σ4 H4 r4 e4 => ⟨m4, s4, r4, h1.at e4⟩
    | ct s4 => rw [hf] at h1; exact fun m4 σ4 H4 r4 e4 => ⟨m4, s4, r4, h1.at e4⟩
    | bk s4 => rw [hf] at h1; exact h1
    | rt t s4 => rw [hf] at h1; exact h1
    | exc c fs s4 => rw [hf] at h1; exact h1
    | stuck => rw [hf] at h1; exact h1
  · rename_i hk
    exact ⟨false, bl_of x1 hk, iteF (h1 m1 σi H1 r1 .refl)⟩
  · exact h1.elim
structure SndM (X : Cx) (w : Wd) (W : WX) (cases : List MatchCase) (f : Str → S → Q) : Prop where
  run : ∀ (first : Bool) (pins : List (Addr × Obj)) (s : Shared) (σ : L2.St) (H : Hp) (D : Ends) (v : Value) (x : Str), Inv X pins σ H s → RelV (.str x) v → tS w W (f x) D σ H → wpAny (model X.prog X.w) X.A (matchCases cases X.env v first) (SP X pins D) X.xe s
/-- a case's words -/
def valB (q : Pattern) (d : Str) : Bool := match q with
  | .MatchValue (.Constant (.str c) _ _) _ => decide (d = c)
  | _ => false
def patGo : List Pattern → List Str → Bool
  | [], p => p.isEmpty
  | q :: ps, d :: p => valB q d && patGo ps p
  | _ :: _, [] => false
def patB (pt : Pattern) (p : List Str) : Bool := match pt with
  | .MatchOr ps _ => patGo ps p
  | q => match p with
    | [d] => valB q d
    | _ => false
theorem pat_one {pins : List (Addr × Obj)} {s : Shared} {σ : L2.St} {H : Hp} {v : Value} {x d : Str} {q : Pattern} {Q : Option (List (Str × Value)) → Shared → Prop} (I : Inv X pins σ H s) (rv : RelV (.str x) v) (hq : valB q d = true)
    (h : ∀ s', Inv X pins σ H s' → Q (if x = d then some [] else none) s') : wpAny (model X.prog X.w) X.A (matchPattern q X.env v) Q X.xe s := by
  obtain ⟨t, rfl⟩ := rv
  unfold valB at hq
  split at hq
  · have ed := of_decide_eq_true hq
    subst ed
    refine wpAny_matchPattern_Value (Calls.Constant_str (eq_str (wpAny_truthy_bool ?_)))
    have I1 : Inv X pins σ H { s with toks := s.toks + 1 } := I.tok _
    have q := h _ I1
    by_cases e : x = d
    · rw [if_pos e] at q
      rw [beq_iff_eq.mpr e]
      exact q
    · rw [if_neg e] at q
      rw [beq_eq_false_iff_ne.mpr e]
      exact q
  · cases hq
theorem pat_go {pins : List (Addr × Obj)} {σ : L2.St} {H : Hp} {v : Value} {x : Str} (rv : RelV (.str x) v) : ∀ (ps : List Pattern) {p : List Str} {s : Shared} {Q : Option (List (Str × Value)) → Shared → Prop}, Inv X pins σ H s → patGo ps p = true → (∀ s', Inv X pins σ H s' → Q (if x ∈ p then some [] else none) s') →
    wpAny (model X.prog X.w) X.A (matchFirst ps X.env v) Q X.xe s
  | [], p, s, Q, I, hp, h => by
    cases p with
    | nil => exact wpAny_pure (by simpa using h s I)
    | cons _ _ => cases hp
  | q :: ps, [], s, Q, I, hp, h => by cases hp
  | q :: ps, d :: p, s, Q, I, hp, h => by
    obtain ⟨h1, h2⟩ := Bool.and_eq_true_iff.mp (show (valB q d && patGo ps p) = true from hp)
    show wpAny _ _ (do
      match ← matchPattern q X.env v with
      | some bs => pure (some bs)
      | none => matchFirst ps X.env v) _ _ _
    refine wpAny_bind (pat_one I rv h1 fun s1 I1 => ?_)
    by_cases e : x = d
    · rw [if_pos e]
      refine wpAny_pure ?_
      have q := h s1 I1
      rw [if_pos (by simp [e])] at q
      exact q
    · rw [if_neg e]
      refine pat_go rv ps I1 h2 fun s' I' => ?_
      have q := h s' I'
      simpa [e] using q
theorem pat_all {pins : List (Addr × Obj)} {s : Shared} {σ : L2.St} {H : Hp} {v : Value} {x : Str} {pt : Pattern} {p : List Str} {Q : Option (List (Str × Value)) → Shared → Prop} (I : Inv X pins σ H s) (rv : RelV (.str x) v) (hp : patB pt p = true)
    (h : ∀ s', Inv X pins σ H s' → Q (if x ∈ p then some [] else none) s') : wpAny (model X.prog X.w) X.A (matchPattern pt X.env v) Q X.xe s := by
  unfold patB at hp
  split at hp
  · rename_i ps pos
    show wpAny _ _ (do
      match ← matchFirst ps X.env v with
      | none => pure none
      | some bs => pure (some ((namesOfAll (ps.take 1)).filterMap fun n => (bs.lookup n).map (n, ·)))) _ _ _
    refine wpAny_bind (pat_go rv ps I hp fun s1 I1 => ?_)
    have q := h s1 I1
    by_cases e : x ∈ p
    · rw [if_pos e] at q ⊢
      refine wpAny_pure ?_
      have z : ((namesOfAll (ps.take 1)).filterMap fun n => (([] : List (Str × Value)).lookup n).map (n, ·)) = [] := by
        induction namesOfAll (ps.take 1) with
        | nil => rfl
        | cons a as ih => rw [List.filterMap_cons]; exact ih
      rw [z]
      exact q
    · rw [if_neg e] at q ⊢
      exact wpAny_pure q
  · split at hp
    · exact pat_one I rv hp fun s' I' => by simpa using h s' I'
    · cases hp
theorem snd_mnil : SndM X w W [] (fun _ s => .nx s) := ⟨fun first pins s σ H D v x I rv ⟨m, z, r, h⟩ => wpAny_matchCases_nil ⟨σ, H, I, h m σ H r .refl⟩⟩
theorem snd_many {body : List Stmt} {p : Pos} {f : S → Q} (hb : SndSs X w W body f) : SndM X w W [⟨.MatchAs none none p, none, body⟩] (fun _ s => f s) := by
  refine ⟨fun first pins s σ H D v x I rv h => wpAny_matchCases_cons ?_⟩
  show wpAny _ _ (pure (some ((none : Option Str).map (·, v)).toList)) _ _ _
  refine wpAny_pure ?_
  exact assignInOrder_nil (hb.pss.run pins s σ H D I h)
theorem snd_mcons {pt : Pattern} {p : List Str} {body : List Stmt} {rest : List MatchCase} {f : S → Q} {g : Str → S → Q} (hp : patB pt p = true) (hb : SndSs X w W body f) (hr : SndM X w W rest g) : SndM X w W (⟨pt, none, body⟩ :: rest) (fun x s => if x ∈ p then f s else g x s) := by
  refine ⟨fun first pins s σ H D v x I rv ⟨m, z, r, h⟩ => wpAny_matchCases_cons (pat_all I rv hp fun s1 I1 => ?_)⟩
  dsimp only at h
  by_cases e : x ∈ p
  · rw [if_pos e] at h ⊢
    exact assignInOrder_nil (hb.pss.run pins s1 σ H D I1 ⟨m, z, r, h⟩)
  · rw [if_neg e] at h ⊢
    exact hr.run false pins s1 σ H D v x I1 rv ⟨m, z, r, h⟩
theorem snd_mtch {e : Expr} {cases : List MatchCase} {f : S → R T} {g : Str → S → Q} (he : Snd X w W e f) (hc : SndM X w W cases g) : SndS X w W (.Match e cases pos) (fun s => (f s).stm fun t s1 => match asStr t with
    | some x => g x s1
    | none => .stuck) := by
  refine ⟨⟨fun pins s0 σ H D I ⟨m, s, r, h⟩ => wpAny_Match (thn (he.pe.run pins s0 σ H _ I ⟨m, s, r, (PQ.stm (rr := rT w) h)⟩) fun v s1 ⟨y, H1, I1, rv, t, z1, m1, _, r1, e1, x1, h1⟩ => ?_)⟩⟩
  split at h1
  · rename_i x hx
    rw [(str_of x1 hx).1] at rv
    exact hc.run true pins s1 σ H1 D v x I1 rv ⟨m1, z1, r1, h1.at e1⟩
  · exact h1.elim
theorem snd_raise0 {x k : Str} {p cpos : Pos} {e : Expr} {es : List Expr} {C : Addr} {bmB : List Value} {B newId initId : String} {fs : S → R (List T)} (hc : X.calm = true) (tk : Takes X W) (F : ExcBaseFacts B newId initId bmB) (q : PySem.W.excIn X.K C bmB newId = true) (gC : X.mg x = some (.ref C))
    (kC : PySem.W.keepIn X.K (.ref C) = true) (rs : Raises X (.ref C)) (hg : Gl X x) (hca : w.ca k = some C) (ha : SndA X w W (e :: es) fs) (hst : (e :: es).all notStar = true) (hdb : (x == ("__debug__" : Str)) = false) (hn : (e :: es).length ≤ 1000) (hlen : ∀ s ts s1, fs s = .ok ts s1 → ts.length = (e :: es).length) :
    SndS X w W (.Raise (some (.Call (.Name x p) (e :: es) [] cpos)) none pos) (fun s => (fs s).stm fun _ s1 => .exc k [] s1) := by
  have hst2 := hst
  simp only [List.all_cons, Bool.and_eq_true] at hst2
  refine ⟨(ps_raise hc tk (pmk_ownA F q gC kC rs hg ha.pa hdb (star_cons hst2.1) (star_any hst2.2))).imp fun D σ H ⟨m, s, r, h⟩ => ⟨m, s, r, (PQ.stm (rr := rTs w) h).mono fun vs H1 ⟨ts, s1, m1, hts, r1, e1, x1, h1⟩ => ⟨?_, ?_⟩⟩⟩
  · have hl : ∀ {ts : List T} {vs : List V}, RTs w σ H m1 s1 H1 ts vs → vs.length = ts.length := fun {ts vs} h => by
      induction h with
      | nil => rfl
      | cons _ _ ih => simp [ih]
    rw [hl x1, hlen _ _ _ hts, lim_eq]
    show _ ≤ 16777216
    omega
  · exact h1 m1 σ H1 (.ref C) none r1 e1 ⟨C, hca, rfl, .inl ⟨rfl, rfl⟩⟩
/-- try .. except K: .. -/
theorem snd_try {x k : Str} {cv : Value} {body suite : List Stmt} {b₀ : Stmt} {np pos' : Pos} {fb fh : S → Q} {sub : Str → Str → Bool} (hs : X.stack = X.env :: X.outer) (hf : X.env.frame = some X.env.locals) (hc : Names X x cv) (tk : Takes X W)
    (hsub : ∀ k' C, w.ca k' = some C → PySem.W.exmOne X.K (.ref C) cv = some (sub k' k))
    (hb : ∀ (W : WX) (pn : List (Addr × Obj)) (xe : Value → Shared → Prop), Takes (X.tr pn xe) W → PassesOwn (model X.prog X.w) X.A X.env xe → SndSs (X.tr pn xe) w W body fb)
    (hsu : ∀ (a : Addr) (oe : Obj) (cls : Value) (d : Option Addr) (pn : List (Addr × Obj)), Zc cls d oe → (∃ vs, oe.data = .fields vs) → SndSs (X.suite a ((a, oe) :: pn)) w W0 (b₀ :: suite) fh) :
    SndS X w W (.Try body [.ExceptHandler (some (.Name x np)) none (b₀ :: suite) pos'] [] [] pos) (fun s => match fb s with
    | .exc k' fs s1 => if sub k' k then (fh s1).nox else .exc k' fs s1
    | r => r) := by
  refine ⟨(ps_try_only (tb := fun W => tS w W fb) (ts := fun _ _ _ => tS w W0 fh) hs hf hc tk (fun W pn xe t p => (hb W pn xe t p).pss) (fun a oe cls d pn z v => (hsu a oe cls d pn z v).pss)).imp fun D σ H ⟨m, s, r, h⟩ => ⟨m, s, r, ?_⟩⟩
  dsimp only at h
  cases hq : fb s with
  | exc k' fs s1 =>
    rw [hq] at h
    dsimp only at h
    intro m' σ' H' cls d r' e' x'
    obtain ⟨C, hC, e1, e2⟩ := id x'
    subst e1
    refine ⟨sub k' k, hsub k' C hC, fun hk a ha => ⟨m', s1, r', ?_⟩, fun hk => ?_⟩
    · rw [if_pos hk] at h
      have h := h.at e'
      cases hh : fh s1 with
      | exc c2 f2 s2 => rw [hh] at h; exact (show False from h).elim
      | stuck => rw [hh] at h; exact (show False from h).elim
      | nx s2 => rw [hh] at h; exact h
      | rt t s2 => rw [hh] at h; exact h
      | bk s2 => rw [hh] at h; exact h
      | ct s2 => rw [hh] at h; exact h
    · rw [if_neg (by rw [hk]; exact Bool.false_ne_true)] at h
      exact h m' σ' H' (.ref C) d r' e' x'
  | _ => rw [hq] at h; exact h
end
end CE
end CEr
section CEya
set_option maxRecDepth 100000
set_option maxHeartbeats 4000000
namespace CE
open PySem PySem.Spec PyProof.Rows L2
/-- super().__init__(e) of a class over ValueError, the object x being made: nothing of it is told -/
theorem sup_init {X : Cx} {pins : List (Addr × Obj)} {σ : L2.St} {H : Hp} {s : Shared} {A : Around} {E : Value → Shared → Prop} {Q : Value → Shared → Prop} {C a u : Addr} {us : List Value} (T : OexC X.K C) (I : Inv X pins σ H s) (e : H a = some (exo a C none))
    (hu : s.heap.get? u = some (PySem.W.kxs_mw "ValueError.__init__" a)) (hl : us.length ≤ sizeLine) (h : ∀ s', Inv X pins σ H s' → Q .none s') :
    wpAny (model X.prog X.w) A (call (.ref u) us) Q E s := by
  obtain ⟨nm, q, N, bs, bm, sn, sub, ab, col, dd, k0, k1, k2, k3, k5, hC, hbm⟩ := T.cls
  obtain ⟨t1, ho⟩ := exo_at I.hok e
  have hCh := I.kIn _ _ hC
  obtain ⟨hp, g, d, t, os⟩ := s
  refine wpAny_call (codeAny_of_tree ?_)
  show wpAny _ A.in1 (callAny (.ref u) ⟨us, []⟩) _ _ _
  simp only [callAny]
  refine wpAny_bind (wpAny_load hu ?_)
  simp only [PySem.W.kxs_mw, show (Value.type "method-wrapper" == Value.type "method" || Value.type "method-wrapper" == Value.type "builtin_function_or_method" || Value.type "method-wrapper" == Value.type "method-wrapper") = true by decide, if_true]
  refine PySem.W.KFB.if_so (by decide) ?_
  refine wpAny_bind (PySem.W.check_bound_init F.excBase_ValueError.toExcCallFacts hCh ho rfl ?_)
  refine wpAny_bind (wpAny_pure (wpAny_pure ?_))
  refine ⟨PySem.plainId_quiet F.excBase_ValueError.init.plain _, codeAny_builtin F.excBase_ValueError.initEntry ?_⟩
  refine PySem.W.exc_init_tree (cls := .ref C) (t0 := t1) (dv := none) (c2 := .none) (c3 := .none) (b4 := .bool false) ho hl fun h' k hx _ => ?_
  have J := I.write (t' := t) (x := a) (e := a) (o := exo a C none) (by rw [e]; exact True.intro) (.inl rfl) k ⟨_, hx⟩ (exo_ok hx)
  have eu : upd H a (exo a C none) = H := by
    funext b
    by_cases hb : b = a
    · rw [hb, upd_same, e]
    · rw [upd_ne hb]
  rw [eu] at J
  exact h _ J

/-- the form of a method call, the object asked for by attributeBase -/
theorem mc_evalB {o : Expr} {mn : Str} {args : List Expr} {apos pos : Pos} {env : Env} (hl : (apos.endLine == pos.line) = true) (hn : args.length < 30) (hs : args.all notStar = true) :
    eval (.Call (.Attribute o mn apos) args [] pos) env = (do
      let ov ← attributeBase o mn env (eval o env)
      standAt apos.atName
      let (f, first) ← holding [ov] (getMethod ov mn (do return (← importBound o env).getD true))
      callWith pos f first (backTo pos (starEach args env)) []) := by
  have few : methodCallForm args.length (backTo pos (starEach args env)) (backToKw pos (keywordEach [] env)) = true := by
    unfold methodCallForm
    rw [star_all hs]
    simp [keywordEach, backToKw, hn]
  have e1 : eval (.Call (.Attribute o mn apos) args [] pos) env = (do
      let ov ← attributeBase o mn env (eval o env)
      standAt apos.atName
      methodCall o mn apos pos env ov args.length (backTo pos (starEach args env)) (backToKw pos (keywordEach [] env))) := rfl
  rw [e1]
  unfold methodCall calleeOf methodCallPos
  rw [few, hl]
  rfl
/-- what the program's text and the written part say of C's __init__ (at fI): super().__init__(txt); self.f = p -/
structure XiD (P : Program) (K : PySem.W.Frag) (mg : Str → Option Value) (C fI : Addr) (f : Str) (fd : FuncData) (ps : List Str) : Prop where
  T : OexC K C
  ex : ∃ (sN pN txt name qual file : Str) (params : Arguments) (scope : Scope) (dV kV doc pm ct oc ccl cl : Value) (od cdd cld : Option Addr) (osl ccs csl : Array (Option Value)) (cda cc : Addr) (vs : Array Value) (tf : Tok) (cdC : ClassData) (ar : PySem.Arg) (kc : Nat) (p0 p1 p2 p3 p4 p5 q0 q1 q2 q3 : Pos),
    ps = [sN, pN] ∧ (p2.endLine == p4.line) = true ∧ (sN == ("__debug__" : Str)) = false ∧ (pN == ("__debug__" : Str)) = false ∧ (sN == ("__classdict__" : Str)) = false ∧ (pN == ("__classdict__" : Str)) = false ∧
    fd = PySem.W.fnX name qual params [.Expr (.Call (.Attribute (.Call (.Name "super" p0) [] [] p1) "__init__" p2) [.Constant (.str txt) kc p3] [] p4) p5, .Assign [.Attribute (.Name sN q0) f q1] (.Name pN q2) q3] scope [("__class__", cc)] dV kV doc pm none (.ref cda) ct ∧
    NdefX.NScope [sN, pN, "__class__"] [sN, pN] ["__class__"] scope ∧ scope.names.lookup ("super" : Str) = some .globalImplicit ∧
    K.lookup fI = some ⟨oc, od, .func fd, osl⟩ ∧ PySem.W.codeIn K (.ref cda) qual = true ∧ K.lookup cda = some ⟨ccl, cdd, .fields vs, ccs⟩ ∧ vs[2]? = some (.str file tf) ∧ ((P.main.file : Str) == file) = true ∧
    K.lookup cc = some ⟨cl, cld, .cell (some (.ref C)), csl⟩ ∧ PySem.W.clsIn K C = some cdC ∧ (params.posonlyargs ++ params.args).head? = some ar ∧ ar.arg = sN
  mro : PySem.W.mroIn K C (.ref C) = some true
  ve : PySem.W.subIn K (.ref C) (.type "ValueError") = some true
  sup : PySem.W.ks_superIn K C C "__init__" = some (some (.builtin "ValueError.__init__"))
  opq : PySem.W.nsIn K PySem.cStatics "thirdparty.any" = some none
  top : (P.main.scope.names.lookup ("super" : Str)).isSome = false
  mgS : mg "super" = none
  no : PySem.W.findIn K (.ref C) f = some none
/-- its promise -/
def spXI (C : Addr) (f : Str) : Sp := fun vs H Q _ => ∃ a y, vs = [.ref a, y] ∧ H a = some (exo a C none) ∧ ∀ dx, H dx = none → dx ≠ a → Q .non (upd (upd H dx (exd dx [(f, y)])) a (exo a C (some dx)))
theorem fn_xi {P : Program} {w : World} {K : PySem.W.Frag} {mg : Str → Option Value} {base : Heap} {CX : CXT} {k : Nat} {C fI : Addr} {f : Str} {fd : FuncData} {ps : List Str} (D : XiD P K mg C fI f fd ps) : FnOk P w K mg base CX (k + 1) fI fd ps (spXI C f) := by
  obtain ⟨sN, pN, txt, name, qual, file, params, scope, dV, kV, doc, pm, ct, oc, ccl, cl, od, cdd, cld, osl, ccs, csl, cda, cc, vs', tf, cdC, ar, kc, p0, p1, p2, p3, p4, p5, q0, q1, q2, q3, rfl, hline, hds, hdp, hcd0, hcd1, rfl, S, hsu, lk, hcd, hcode, hvs, hfile, hcc, hcls, hhd, rfl⟩ := D.ex
  refine ⟨fun vs H Q E ⟨a, y, e, _⟩ => by rw [e] <;> rfl, fun A outer s H args us vs Q E hr e0 hb r ⟨a, y, ev, ea, hq⟩ => ?_⟩
  subst ev
  have KX : K.In s.heap := e0.mod.kin.keeps fun b o e => (e0.bs b o e).1
  have lim : s.heap.NoLimit := e0.mod.nolimit.keeps fun b o e => (e0.bs b o e).1
  have hl : ([.ref a, y] : List V).length = [ar.arg, pN].length := rfl
  have hloc : ∀ x ∈ [ar.arg, pN].zip us, scope.names.lookup x.1 = some .local := fun ⟨n, v⟩ hy => S.par n (List.of_mem_zip hy).1
  let F : NdefX.NF := ⟨name, qual, params, [.Expr (.Call (.Attribute (.Call (.Name "super" p0) [] [] p1) "__init__" p2) [.Constant (.str txt) kc p3] [] p4) p5, .Assign [.Attribute (.Name ar.arg q0) f q1] (.Name pN q2) q3], scope, [("__class__", cc)], cda⟩
  refine ks_codeAny_call_defAt (fd := PySem.W.fnX name qual params F.body scope [("__class__", cc)] dV kV doc pm none (.ref cda) ct) (body := F.body) hr.depth (KX _ _ lk) rfl lim (PySem.W.codeRec_of KX hcd) rfl hb (fun y hy => S.nocell y hy) hloc (fun h₁ hns hk₁ => ?_) S.co S.gen S.kind
  have hcell : s.heap.IsCell cc (some (.ref C)) := ⟨_, KX _ _ hcc, rfl⟩
  have hcbase : H cc = none := by
    obtain hh := e0.mod.kin _ _ hcc
    exact (e0.bs _ _ hh).2
  have CA : NdefX.CellsAt F.cl ["__class__"] [none] s.heap H := by
    refine ⟨rfl, fun y c e => ?_, fun x y c e1 e2 => ?_, fun i y e => ?_⟩
    · by_cases h : y = "__class__"
      · subst h
        obtain rfl : cc = c := Option.some.inj e
        exact ⟨hcbase, _, hcell⟩
      · have z : F.cl.lookup y = none := by
          show List.lookup y [("__class__", cc)] = none
          have hb : (y == ("__class__" : Str)) = false := by simpa using h
          show (match y == ("__class__" : Str) with
            | true => some cc
            | false => none) = none
          rw [hb]
        rw [z] at e; cases e
    · have key : ∀ {z}, F.cl.lookup z = some c → z = "__class__" := fun {z} e => by
        by_cases h : z = "__class__"
        · exact h
        · have z' : F.cl.lookup z = none := by
            have hb : (z == ("__class__" : Str)) = false := by simpa using h
            show (match z == ("__class__" : Str) with
              | true => some cc
              | false => none) = none
            rw [hb]
          rw [z'] at e; cases e
      rw [key e1, key e2]
    · cases i with
      | zero => cases e; exact ⟨cc, rfl, fun v e => (by cases e)⟩
      | succ i => cases e
  have I : Inv (NdefX.ncx CX P w K mg base [ar.arg, pN, "__class__"] F fI A outer s H E) [] (NdefX.startF [ar.arg, pN, "__class__"] [.ref a, y] [none]) H { s with heap := h₁, toks := s.toks + ([ar.arg, pN].zip us).length } :=
    NdefX.inv_startN S hr.hd e0 hl r CA hns hk₁
  show PySem.wpAt (model P w) (A.deeper (NdefX.envF F fI s.heap.objs.size)) (.func F.body (NdefX.envF F fI s.heap.objs.size)) (execs F.body (NdefX.envF F fI s.heap.objs.size)) _ _ _
  have hkc : (NdefX.envF F fI s.heap.objs.size).kindOf "__class__" = some .free := S.frk _ (List.mem_cons_self ..)
  have hks : (NdefX.envF F fI s.heap.objs.size).kindOf "super" = some .globalImplicit := hsu
  have hka : (NdefX.envF F fI s.heap.objs.size).kindOf ar.arg = some .local := S.par _ (List.mem_cons_self ..)
  have KX1 : K.In h₁ := KX.keeps hk₁
  obtain ⟨mb, hb1, hb2⟩ := e0.mod.blt
  have base1 : ∀ b o, base.get? b = some o → h₁.get? b = some o := fun b o e => hk₁ b o (e0.bs b o e).1
  have hsup : bootBuiltins "super" = some (.type "super") := by kernel_rfl
  have ra : ∃ y' , us = [.ref a, y'] ∧ RelV y y' := by
    cases r with
    | cons r1 r2 => cases r2 with
      | cons r3 r4 =>
        cases r4
        obtain rfl := (show _ = Value.ref a from r1)
        exact ⟨_, rfl, r3⟩
  obtain ⟨y', rfl, ry⟩ := ra
  refine ks_wpAt_execs_cons (ks_wpAt_Expr_any ?_ ?_ ?_)
  · refine ks_wpAt_MethodCall ?_ (mc_evalB hline (show 1 < 30 by decide) rfl)
    · refine ks_wpAt_super_base hks hkc (by decide) rfl (KX1 _ _ lk) rfl hhd rfl (KX1 _ _ hcode) rfl hvs hfile D.top ?_
      refine PySem.W.ks_loadName_global S.kind hks (Calls.loadGlobal_builtin (e0.mod.glob.keeps base1) D.mgS (hb1.keeps base1) ((hb2 _ (by decide)).trans hsup) ⟨rfl, ?_⟩)
      refine wpAny_loadName_free S.kind hkc rfl ⟨_, hk₁ _ _ (KX _ _ hcc), rfl⟩ ?_
      refine wpAny_loadName_local S.kind hka hns (v := .ref a) (NdefX.zip_look (i := 0) (List.Nodup.sublist (show List.Sublist [ar.arg, pN] [ar.arg, pN, "__class__"] from List.take_sublist 2 [ar.arg, pN, "__class__"]) S.nd) rfl rfl) ?_
      obtain ⟨oD, hD1, hD2⟩ : ∃ oD, h₁.get? C = some oD ∧ oD.data = .cls cdC := by
        unfold PySem.W.clsIn at hcls
        split at hcls
        · rename_i c d cd' sl ho
          cases hcls
          exact ⟨_, KX1 _ _ ho, rfl⟩
        · cases hcls
      obtain ⟨t1, hob⟩ := exo_at I.hok ea
      refine ks_wpAny_isType_cls hD1 hD2 ⟨rfl, ?_⟩
      refine ks_wpAny_call_super hD1 hD2 hob rfl (fun c e => (by cases e)) (PySem.W.looks_mroIn KX1 D.mro) (fun h₂ e2 k2 => ?_)
      have KX2 : K.In h₂ := KX1.keeps k2
      have IA : PySem.W.InstAt h₂ a ({ cls := .ref C, dict := none, data := .fields #[.ref t1, .none, .none, .none, .bool false, .none] } : Obj) C none := ⟨k2 _ _ hob, rfl, rfl, trivial⟩
      have hal : PySem.W.alongIn K "__init__" ((cdC.mro.dropWhile (· != .ref C)).drop 1) = some (some (.builtin "ValueError.__init__")) := by
        have z := D.sup
        unfold PySem.W.ks_superIn at z
        rw [hcls] at z
        exact z
      refine PySem.W.kxs_getMethod PySem.W.kxs_ValueError e2 (PySem.W.looks_opaque KX2 D.opq) (l₀ := cdC.mro) (fun A Q E s k q => wpAny_bind ((PySem.W.looks_clsIn KX2 hcls) A _ E s k (wpAny_pure q))) rfl KX2 hal (IA.type.andThen (PySem.W.looks_subIn KX2 D.ve)) (PySem.W.ks_ne KX2 IA hcls) (by decide) ?_
      have hst : starEach [Expr.Constant (.str txt) kc p3] (NdefX.envF F fI s.heap.objs.size) = (false, eval (.Constant (.str txt) kc p3) (NdefX.envF F fI s.heap.objs.size)) :: starEach [] (NdefX.envF F fI s.heap.objs.size) := rfl
      show wpAny _ _ (callWith p4 (.ref h₂.objs.size) [] (backTo p4 (starEach [Expr.Constant (.str txt) kc p3] (NdefX.envF F fI s.heap.objs.size))) []) _ _ _
      have I2 : ∀ t', Inv (NdefX.ncx CX P w K mg base [ar.arg, pN, "__class__"] F fI A outer s H E) [] (NdefX.startF [ar.arg, pN, "__class__"] [.ref a, y] [none]) H ⟨h₂.push (PySem.W.kxs_mw "ValueError.__init__" a), s.gens, s.drawn, t', s.os⟩ := fun t' => I.kept (t' := t') fun b o e => Heap.get?_push_of_some _ (k2 _ _ e)
      have hmw : (h₂.push (PySem.W.kxs_mw "ValueError.__init__" a)).get? h₂.objs.size = some (PySem.W.kxs_mw "ValueError.__init__" a) := Heap.get?_push_at rfl rfl
      refine PySem.W.kxs_callWith (i := "ValueError.__init__") (x := a) rfl ?_
      rw [hst]
      refine Calls.evalArgs_plain ?_
      show wpAny _ _ (spliced ((false, eval (.Constant (.str txt) kc p3) (NdefX.envF F fI s.heap.objs.size)) :: backTo p4 (starEach [] (NdefX.envF F fI s.heap.objs.size)))) _ _ _
      refine Calls.spliced_cons (Calls.Constant_str (Calls.spliced_nil ⟨hmw, ?_⟩))
      refine sup_init D.T (I2 _) ea hmw (by show 1 ≤ sizeLine; rw [sizeLine_eq]; omega) fun s' J => ?_
      have hv0 : Vis scope ar.arg := .inl (S.par _ (List.mem_cons_self ..))
      have hv1 : Vis scope pN := .inl (S.par _ (List.mem_cons_of_mem _ (List.mem_cons_self ..)))
      have ps := pss_one (ps_ost (X := NdefX.ncx CX P w K mg base [ar.arg, pN, "__class__"] F fI A outer s H E) (f := f) (p' := q1) (pos := q3) (pe_var (pos := q0) (i := 0) rfl hv0 hds hcd0) (pe_var (pos := q2) (i := 1) rfl hv1 hdp hcd1))
      refine PySem.wpAt_of_wpAny (wpAny_mono (ps.run [] s' _ H { nx := fun _ H' => Q .non H', rt := Q } J ⟨y, rfl, .ref a, rfl, a, C, rfl, D.T, D.no, .inl ⟨ea, hq⟩⟩) (fun fl s2 hs => ?_) fun e s2 hs => hs)
      cases fl with
      | ret u =>
        obtain ⟨v, σ', H', J', rv, q⟩ := hs
        exact ⟨v, H', J'.os, J'.bare, J'.base, J'.hok, rv, q⟩
      | next =>
        obtain ⟨σ', H', J', q⟩ := hs
        exact ⟨.non, H', J'.os, J'.bare, J'.base, J'.hok, rfl, q⟩
      | brk =>
        obtain ⟨_, _, _, q⟩ := hs
        exact False.elim q
      | cont =>
        obtain ⟨_, _, _, q⟩ := hs
        exact False.elim q
  · unfold interactive
    rw [show (NdefX.envF F fI s.heap.objs.size).scope.kind = .function from S.kind]
    rfl
  · rfl
end CE
end CEya
section CEyb
set_option maxRecDepth 100000
set_option maxHeartbeats 4000000
namespace CE
open PySem PySem.Spec PyProof.Rows L2
/-- X(e), X without an own __init__ -/
theorem pe_exv0 {X : Cx} {C : Addr} {bmB : List Value} {B newId initId : String} {x : Str} {e : Expr} {ta : TE} {p pos : Pos} (F : ExcBaseFacts B newId initId bmB) (q : PySem.W.excIn X.K C bmB newId = true) (gC : X.mg x = some (.ref C)) (kC : PySem.W.keepIn X.K (.ref C) = true) (hg : Gl X x)
    (he : PE X e ta) (hs : starEach [e] X.env = (false, eval e X.env) :: starEach [] X.env) (hdb : (x == ("__debug__" : Str)) = false) :
    PE X (.Call (.Name x p) [e] [] pos) (fun σ H Q => ta σ H fun _ H1 => ∀ a, H1 a = none → Q (.ref a) (upd H1 a (exo a C none))) := by
  refine ⟨fun pins s σ H Q I h => ?_⟩
  refine wpAny_Call_Name_kw (ld_glob I hg gC ?_ hdb)
  refine PySem.W.callWith_K (h₀ := X.base) I.ok.mod.kin kC ?_ hs (by rfl)
  rw [hs]
  show wpAny _ _ (spliced ((false, eval e X.env) :: backTo pos (starEach [] X.env))) _ _ s
  refine Calls.spliced_cons (thn (he.run pins s σ H _ I h) fun u s1 ⟨v, H1, I1, r1, q1⟩ => ?_)
  refine Calls.spliced_nil ⟨I1.kIn, ?_⟩
  show wpAny _ _ (call (.ref C) [u]) _ _ _
  obtain ⟨bm, N, nm, qn, bs, hdct, sn, sub, ab, col, dd, k0, k1, k2, k3, k5, mN, hC, hN, hni, T⟩ := exc_obj I1.kIn q
  refine wpAny_call_exc_subT F T hC hN hni (fun h' a hm => ?_) (by show 1 ≤ sizeLine; rw [sizeLine_eq]; omega)
  have hn : H1 a = none := I1.hok.gone hm.new
  obtain ⟨t, ht, _, _⟩ := hm.there
  exact ⟨.ref a, upd H1 a (exo a C none), I1.laidN hm.keeps hm.new hn (exo_ok ht), rfl, q1 a hn⟩
/-- X(e), X's own __init__ keeping spXI -/
theorem run_exvI {X : Cx} {CX : CXT} {C fI : Addr} {k : Nat} {f : Str} {fd : FuncData} {ps : List Str} {pins : List (Addr × Obj)} {σ : L2.St} {H : Hp} {s : Shared} {Q : VK} {E : L2.St → XK} {u : Value} {y : V} (T : OexC X.K C) (iC : PySem.W.findIn X.K (.ref C) "__init__" = some (some (.ref fI))) (tI : PySem.W.typeIn X.K (.ref fI) = some (.type "function"))
    (F1 : FnOk X.prog X.w X.K X.mg X.base CX k fI fd ps (spXI C f)) (hr : Room (k + 1) X.A) (hb : Binds X.K fd ps []) (hx : PassesAt CX X σ (E σ)) (I : Inv X pins σ H s) (r : RelV y u)
    (h : ∀ a dx, H a = none → H dx = none → dx ≠ a → Q (.ref a) (upd (upd (upd H a (exo a C none)) dx (exd dx [(f, y)])) a (exo a C (some dx)))) :
    wpAny (model X.prog X.w) X.A (call (.ref C) [u]) (EP X pins σ Q) X.xe s := by
  obtain ⟨nm, q, N, bs, bm, sn, sub, ab, col, dd, k0, k1, k2, k3, k5, hC, hbm⟩ := T.cls
  have hCh := I.kIn _ _ hC
  obtain ⟨hp, g, dr, tk, os⟩ := s
  have hsz : hp.objs.size ≤ hp.objs.size + 1 := Nat.le_succ _
  have hn : H (hp.objs.size + 1) = none := I.hok.fresh hsz
  have kk : ∀ b o, hp.get? b = some o → ((hp.push (PySem.W.kdv_tup [u])).push (PySem.HandSPX.excO C hp.objs.size)).get? b = some o := fun b o e => Heap.get?_push_of_some _ (Heap.get?_push_of_some _ e)
  have hget : ((hp.push (PySem.W.kdv_tup [u])).push (PySem.HandSPX.excO C hp.objs.size)).get? (hp.objs.size + 1) = some (PySem.HandSPX.excO C hp.objs.size) := by heap_get
  have I2 : Inv X pins σ (upd H (hp.objs.size + 1) (exo (hp.objs.size + 1) C none)) ⟨(hp.push (PySem.W.kdv_tup [u])).push (PySem.HandSPX.excO C hp.objs.size), g, dr, tk, os⟩ :=
    I.laid (t' := tk) (a := hp.objs.size + 1) (o := exo (hp.objs.size + 1) C none) (h' := (hp.push (PySem.W.kdv_tup [u])).push (PySem.HandSPX.excO C hp.objs.size)) kk hsz (exo_ok hget)
  have r2 : Vals [V.ref (hp.objs.size + 1), y] [Value.ref (hp.objs.size + 1), u] := .cons rfl (.cons r .nil)
  have hq : spXI C f [V.ref (hp.objs.size + 1), y] (upd H (hp.objs.size + 1) (exo (hp.objs.size + 1) C none)) (fun v H2 => v = .non ∧ Q (.ref (hp.objs.size + 1)) H2) (E σ) :=
    ⟨_, y, rfl, upd_same, fun dx hdx hne => ⟨rfl, h _ dx hn (by rw [upd_ne hne] at hdx; exact hdx) hne⟩⟩
  have hl : ([Value.ref (hp.objs.size + 1), u] ++ []).length = ps.length := by
    have e := r2.length
    rw [F1.len _ _ _ _ hq] at e
    exact e.symm
  have hb2 := hb _ [Value.ref (hp.objs.size + 1), u] I2.kIn hl
  rw [List.append_nil] at hb2
  refine wpAny_call (PySem.HandSPX.call_own F.excBase_ValueError (fun Y => PySem.HandSPX.refsVE_contains Y bm hbm) hCh (PySem.W.looks_findIn I.kIn iC) (fun self => PySem.W.bind_fn I.kIn self tI) (by show 1 ≤ sizeLine; rw [sizeLine_eq]; omega)
    (codeAny_mono (F1.run _ X.stack _ _ ⟨[Value.ref (hp.objs.size + 1), u], []⟩ [Value.ref (hp.objs.size + 1), u] _ _ (E σ) (hr.make C [u] []) (I2.env0.make C [u] []) hb2 r2 hq) fun r s' hq' => ?_))
  cases r with
  | error er => exact hx pins _ _ er s' I2 hq'
  | ok fl =>
    cases fl with
    | ret v =>
      obtain ⟨v', H', I3, rv, ev, q3⟩ := I2.after hq'
      subst ev
      exact ⟨rv, ⟨V.ref (hp.objs.size + 1), H', I3, rfl, q3⟩⟩
    | next => exact False.elim hq'
    | brk => exact False.elim hq'
    | cont => exact False.elim hq'
end CE
end CEyb
section CEyc
set_option maxRecDepth 100000
set_option maxHeartbeats 4000000
namespace CE
open PySem PySem.Spec PyProof.Rows L2
/-- what the class D must say, so that isinstance and fields are asked rightly -/
structure XvC (K : PySem.W.Frag) (D : Addr) : Prop where
  e : L2.ExcC K D
  cl : (PySem.W.clsIn K D).isSome = true
/-- e.f, an exception with a dict -/
theorem exv_fld {X : Cx} {pins : List (Addr × Obj)} {σ : L2.St} {H : Hp} {s : Shared} {Q : VK} {a C dd : Addr} {f : Str} {ex : Bool} {fs : List (Str × V)} {v : V} (T : XfC X.K C) (hno : PySem.W.findIn X.K (.ref C) f = some none) (I : Inv X pins σ H s) (ea : H a = some (exo a C (some dd))) (ed : H dd = some (exd dd fs)) (hl : fs.lookup f = some v) (h : Q v H) :
    wpAny (model X.prog X.w) X.A (getAttr (.ref a) f ex) (EP X pins σ Q) X.xe s := by
  obtain ⟨t1, ho⟩ := exo_at I.hok ea
  obtain ⟨mA, hns, hr⟩ := exd_at I.hok ed
  obtain ⟨od, hod, hlk⟩ := lookIn_ns hns
  obtain ⟨u, hu, ru⟩ := RelO.some_of (v := v) (o := mA f) (by rw [← hl]; exact hr f)
  have J : PySem.W.InstAt s.heap a ({ cls := .ref C, dict := some dd, data := .fields #[.ref t1, .none, .none, .none, .bool false, .none] } : Obj) C (some od) := ⟨ho, rfl, rfl, hod⟩
  exact HandSPX.exc_get I.kIn J T.ga T.gg T.exC (PySem.W.findObj_own T.hdC hno rfl (by rw [hlk, hu])) (handed_of ru) ⟨v, H, I.tok _, ru, h⟩
/-- isinstance(e, c) -/
theorem exv_is {X : Cx} {pins : List (Addr × Obj)} {σ : L2.St} {H : Hp} {s : Shared} {Q : VK} {a C : Addr} {od : Option Addr} {c : Value} {b : Bool} (T : XvC X.K C) (I : Inv X pins σ H s) (ea : H a = some (exo a C od)) (hd : ∀ d, od = some d → ∃ fs, H d = some (exd d fs)) (e : PySem.W.kitOne X.K (.ref C) c = some b) (h : Q (.bl b) H) :
    wpAny (model X.prog X.w) X.A (call (.builtin "isinstance") [.ref a, c]) (EP X pins σ Q) X.xe s := by
  obtain ⟨t1, ho⟩ := exo_at I.hok ea
  obtain ⟨oo, J⟩ : ∃ oo, PySem.W.InstAt s.heap a ({ cls := .ref C, dict := od, data := .fields #[.ref t1, .none, .none, .none, .bool false, .none] } : Obj) C oo := by
    cases od with
    | none => exact ⟨none, ho, rfl, rfl, trivial⟩
    | some d =>
      obtain ⟨fs, ed⟩ := hd d rfl
      obtain ⟨mA, hns, _⟩ := exd_at I.hok ed
      obtain ⟨ob, hod, _⟩ := lookIn_ns hns
      exact ⟨some ob, ho, rfl, rfl, hod⟩
  exact PySem.W.kia_one (PySem.W.kitx_exc T.cl T.e.hg T.e.hk T.e.hs T.e.ha T.e.hn T.e.ht T.e.hm) I.kIn J e (fun z => nomatch z) fun tk => ⟨.bl b, H, I.kept (t' := tk) fun _ _ z => z, rfl, h⟩
end CE
end CEyc
section CEyk
set_option maxRecDepth 100000
set_option maxHeartbeats 4000000
namespace PySem
namespace CEKW
open PySem.W PySem.Calls PyProof.Rows PySem.HandSPX
section
variable {M : Model} {A : Around} {E : Value → Shared → Prop} {h : Heap} {g : Array GenState} {d : Drawn} {t : Nat} {os : OsState}
variable {nm q : Str} {C N : Addr} {bs bm bmB : List Value} {hdct : Bool} {sn : List Str} {sub : List Value} {ab : Bool} {col : Option Bool} {dd : Option Addr} {k0 k1 k2 k3 k5 : Option Value} {B newId initId : String}
theorem check_newK (F : ExcBaseFacts B newId initId bmB) (hT : ∀ X : String, bm.contains (.type X) = bmB.contains (.type X)) {rest : List Value} {kw : List (Str × Value)} {Q : Unit → Shared → Prop}
    (hC : h.get? C = some (excClassObj nm q C N bs bm hdct sn sub ab col dd k0 k1 k2 k3 k5 newId)) (hq : Q () ⟨h, g, d, t, os⟩) : wpAny M A (checkBuiltinCall newId ⟨.ref C :: rest, kw⟩) Q E ⟨h, g, d, t, os⟩ := by
  have hcont : (Value.ref C :: bm).contains (.type B) = true := by rw [List.contains_cons, hT, F.hasB, Bool.or_true]
  have hstar := F.noStar
  simp only [checkBuiltinCall, F.newKind, F.newSplit, F.newRow]
  repeat (first | refine wpAny_loadPart_at hC ?_ | (refine wpAny_isSubtype_exc hC ?_; rw [hcont]) | refine wpAny_staticBase_exc hC ?_ | refine wpAny_madeBy_exc hC ?_ | simp only [bne_self_eq_false, Bool.false_eq_true, if_false] | wp_step)
  exact hq
end
section
variable {prog : Program} {w : World} {A : Around} {E : Value → Shared → Prop} {R : Result → Shared → Prop} {h : Heap} {g : Array GenState} {d : Drawn} {t : Nat} {os : OsState}
variable {nm q : Str} {C N : Addr} {bs bm bmB : List Value} {hdct : Bool} {sn : List Str} {sub : List Value} {ab : Bool} {col : Option Bool} {dd : Option Addr} {k0 k1 k2 k3 k5 : Option Value} {B newId initId : String}
theorem newK (F : ExcBaseFacts B newId initId bmB) (hT : ∀ X : String, bm.contains (.type X) = bmB.contains (.type X)) {rest : List Value} {kw : List (Str × Value)}
    (hC : h.get? C = some (excClassObj nm q C N bs bm hdct sn sub ab col dd k0 k1 k2 k3 k5 newId))
    (hq : R (.ok (.ret (.ref (h.objs.size + 1)))) ⟨(h.push { cls := .type "tuple", data := .seq rest.toArray }).push
      { cls := .ref C, data := .fields #[.ref h.objs.size, .none, .none, .none, .bool false, .none] }, g, d, t, os⟩) (hrest : rest.length ≤ sizeLine) :
    codeAny (model prog w) A (.builtin newId ⟨.ref C :: rest, kw⟩) R ⟨h, g, d, t, os⟩ := by
  have hends := F.ends
  have hcB : (Value.ref C :: bm).contains (.type B) = true := by rw [List.contains_cons, hT, F.hasB, Bool.or_true]
  have hcA : (Value.ref C :: bm).contains (.type "AttributeError") = false := by rw [List.contains_cons, hT, F.noAttr]; rfl
  have hcN : (Value.ref C :: bm).contains (.type "NameError") = false := by rw [List.contains_cons, hT, F.noName]; rfl
  refine codeAny_builtinAt F.entry ?_
  unfold Builtin.«BaseException.__new__»
  refine wpAt_bind ?_
  show wpAt _ _ _ (stack >>= _) _ _ _
  refine wpAt_bind (wpAt_stack fun p below => wpAt_of_wpAny ?_)
  wp_walk
  refine wpAt_of_wpAny ?_
  rw [F.owner]
  repeat (first | with_reducible refine wpAny_madeHere_exc F.canon hC ?_ | with_reducible refine wpAny_loadPart_at hC ?_ | (with_reducible refine wpAny_isSubtype_exc hC ?_; first | rw [hcB] | rw [hcA] | rw [hcN]) | wp_step)
  show R _ _
  rw [Heap.size_push]
  exact hq
theorem type_callK (F : ExcBaseFacts B newId initId bmB) (hT : ∀ X : String, bm.contains (.type X) = bmB.contains (.type X)) {rest : List Value} {kw : List (Str × Value)} {fI : Addr} {Q : Fin → Shared → Prop}
    (hC : h.get? C = some (excClassObj nm q C N bs bm hdct sn sub ab col dd k0 k1 k2 k3 k5 newId))
    (hi : W.Looks (model prog w) h (typeLookup (.ref C) "__init__") (some (.ref fI))) (hb : ∀ self, W.Looks (model prog w) h (bindSpecial (.ref fI) self) (.ref fI, [self])) (hrest : rest.length ≤ sizeLine)
    (hq : codeAny (model prog w) A (.call (.ref fI) ⟨.ref (h.objs.size + 1) :: rest, kw⟩)
      (fun r s' => match r with | .ok (.ret v) => v = .none ∧ Q (.done (.ret (.ref (h.objs.size + 1)))) s' | .ok _ => False | .error e => E e s')
      ⟨(h.push (W.kdv_tup rest)).push (excO C h.objs.size), g, d, t, os⟩) :
    wpAny (model prog w) A (Builtin.«type.__call__» ⟨.ref C :: rest, kw⟩) Q E ⟨h, g, d, t, os⟩ := by
  repeat (first | with_reducible refine wpAny_loadPart_at hC ?_ | with_reducible refine wpAny_madeBy_exc hC ?_ | wp_step)
  refine codeAny_call_builtin_code (Code.quiet_builtin _ F.quiet) (check_newK F hT hC ?_)
  refine newK F hT hC ?_ hrest
  show wpAny _ _ _ _ _ _
  have k : ∀ b o, h.get? b = some o → ((h.push (W.kdv_tup rest)).push (excO C h.objs.size)).get? b = some o := fun b o e => Heap.get?_push_of_some _ (Heap.get?_push_of_some _ e)
  have hC₁ := k _ _ hC
  have hget : ((h.push (W.kdv_tup rest)).push (excO C h.objs.size)).get? (h.objs.size + 1) = some (excO C h.objs.size) := by heap_get
  have hcC : (Value.ref C :: bm).contains (.ref C) = true := by simp
  have i1 := hi.keeps k
  have b1 := (hb (.ref (h.objs.size + 1))).keeps k
  unfold isInstance
  repeat (first | with_reducible refine wpAny_loadPart_at hget ?_ | (with_reducible refine wpAny_isSubtype_exc hC₁ ?_; rw [hcC]) | wp_step)
  show wpAny _ _ (typeLookup (.ref C) _) _ _ _
  refine i1.at ?_
  refine wpAny_holding (wpAny_bind (b1.at ?_))
  refine wpAny_bind (wpAny_call (codeAny_mono hq fun r s' z => ?_))
  rcases r with e | (v | _ | _ | _) <;> first | exact z | exact z.elim | skip
  obtain ⟨rfl, z⟩ := z
  first
    | exact wpAny_pure (wpAny_pure z)
    | (wp_walk; exact z)
theorem callK (F : ExcBaseFacts B newId initId bmB) (hT : ∀ X : String, bm.contains (.type X) = bmB.contains (.type X)) {rest : List Value} {kw : List (Str × Value)} {fI : Addr}
    (hC : h.get? C = some (excClassObj nm q C N bs bm hdct sn sub ab col dd k0 k1 k2 k3 k5 newId))
    (hi : W.Looks (model prog w) h (typeLookup (.ref C) "__init__") (some (.ref fI))) (hb : ∀ self, W.Looks (model prog w) h (bindSpecial (.ref fI) self) (.ref fI, [self])) (hrest : rest.length ≤ sizeLine)
    (hq : codeAny (model prog w) (A.under (.builtin "type.__call__" ⟨.ref C :: rest, kw⟩)) (.call (.ref fI) ⟨.ref (h.objs.size + 1) :: rest, kw⟩) (W.InitBack (h.objs.size + 1) R)
      ⟨(h.push (W.kdv_tup rest)).push (excO C h.objs.size), g, d, t, os⟩) :
    codeAny (model prog w) A (.call (.ref C) ⟨rest, kw⟩) R ⟨h, g, d, t, os⟩ := by
  have f1 := tc_lookup
  have f2 := tc_bind (.ref C)
  have hTy : (⟨h, g, d, t, os⟩ : Shared).TypeIs (.ref C) "type" := ⟨_, hC, rfl⟩
  refine codeAny_of_tree ?_
  show wpAny _ _ (callAny (.ref C) _) _ _ _
  repeat (any_goals (first | assumption | with_reducible refine wpAny_loadPart_at hC ?_ | wp_step))
  refine ⟨rfl, ?_⟩
  refine codeAny_call_builtin_at (Code.quiet_builtin _ (by decide +kernel)) entry_typeCall (wpAny_check_type_call_sub hC (type_callK F hT hC hi hb hrest ?_))
  refine codeAny_mono hq fun r s' z => ?_
  rcases r with e | (v | _ | _ | _) <;> exact z
end
end CEKW
end PySem
namespace CE
open PySem PySem.Spec PyProof.Rows L2
/-- X(f=e), X's own __init__ keeping spXI -/
theorem run_exvK {X : Cx} {CX : CXT} {C fI : Addr} {k : Nat} {f pN : Str} {fd : FuncData} {ps : List Str} {pins : List (Addr × Obj)} {σ : L2.St} {H : Hp} {s : Shared} {Q : VK} {E : L2.St → XK} {u : Value} {y : V} (T : OexC X.K C) (iC : PySem.W.findIn X.K (.ref C) "__init__" = some (some (.ref fI))) (tI : PySem.W.typeIn X.K (.ref fI) = some (.type "function"))
    (F1 : FnOk X.prog X.w X.K X.mg X.base CX k fI fd ps (spXI C f)) (hr : Room (k + 1) X.A) (hb : ∀ (s : Shared) (a u : Value), X.K.In s.heap → ps.length = 2 → BindsTo s fd ⟨[a], [(pN, u)]⟩ (ps.zip [a, u])) (hx : PassesAt CX X σ (E σ)) (I : Inv X pins σ H s) (r : RelV y u)
    (h : ∀ a dx, H a = none → H dx = none → dx ≠ a → Q (.ref a) (upd (upd (upd H a (exo a C none)) dx (exd dx [(f, y)])) a (exo a C (some dx)))) :
    wpAny (model X.prog X.w) X.A (call (.ref C) [] [(pN, u)]) (EP X pins σ Q) X.xe s := by
  obtain ⟨nm, q, N, bs, bm, sn, sub, ab, col, dd, k0, k1, k2, k3, k5, hC, hbm⟩ := T.cls
  have hCh := I.kIn _ _ hC
  obtain ⟨hp, g, dr, tk, os⟩ := s
  have hsz : hp.objs.size ≤ hp.objs.size + 1 := Nat.le_succ _
  have hn : H (hp.objs.size + 1) = none := I.hok.fresh hsz
  have kk : ∀ b o, hp.get? b = some o → ((hp.push (PySem.W.kdv_tup [])).push (PySem.HandSPX.excO C hp.objs.size)).get? b = some o := fun b o e => Heap.get?_push_of_some _ (Heap.get?_push_of_some _ e)
  have hget : ((hp.push (PySem.W.kdv_tup [])).push (PySem.HandSPX.excO C hp.objs.size)).get? (hp.objs.size + 1) = some (PySem.HandSPX.excO C hp.objs.size) := by heap_get
  have I2 : Inv X pins σ (upd H (hp.objs.size + 1) (exo (hp.objs.size + 1) C none)) ⟨(hp.push (PySem.W.kdv_tup [])).push (PySem.HandSPX.excO C hp.objs.size), g, dr, tk, os⟩ :=
    I.laid (t' := tk) (a := hp.objs.size + 1) (o := exo (hp.objs.size + 1) C none) (h' := (hp.push (PySem.W.kdv_tup [])).push (PySem.HandSPX.excO C hp.objs.size)) kk hsz (exo_ok hget)
  have r2 : Vals [V.ref (hp.objs.size + 1), y] [Value.ref (hp.objs.size + 1), u] := .cons rfl (.cons r .nil)
  have hq : spXI C f [V.ref (hp.objs.size + 1), y] (upd H (hp.objs.size + 1) (exo (hp.objs.size + 1) C none)) (fun v H2 => v = .non ∧ Q (.ref (hp.objs.size + 1)) H2) (E σ) :=
    ⟨_, y, rfl, upd_same, fun dx hdx hne => ⟨rfl, h _ dx hn (by rw [upd_ne hne] at hdx; exact hdx) hne⟩⟩
  have hl : ps.length = 2 := (F1.len _ _ _ _ hq).symm
  have hb2 := hb _ (Value.ref (hp.objs.size + 1)) u I2.kIn hl
  refine wpAny_call (CEKW.callK F.excBase_ValueError (fun Y => PySem.HandSPX.refsVE_contains Y bm hbm) hCh (PySem.W.looks_findIn I.kIn iC) (fun self => PySem.W.bind_fn I.kIn self tI) (Nat.zero_le _)
    (codeAny_mono (F1.run _ X.stack _ _ ⟨[Value.ref (hp.objs.size + 1)], [(pN, u)]⟩ [Value.ref (hp.objs.size + 1), u] _ _ (E σ) (hr.make C [] [(pN, u)]) (I2.env0.make C [] [(pN, u)]) hb2 r2 hq) fun r s' hq' => ?_))
  cases r with
  | error er => exact hx pins _ _ er s' I2 hq'
  | ok fl =>
    cases fl with
    | ret v =>
      obtain ⟨v', H', I3, rv, ev, q3⟩ := I2.after hq'
      subst ev
      exact ⟨rv, ⟨V.ref (hp.objs.size + 1), H', I3, rfl, q3⟩⟩
    | next => exact False.elim hq'
    | brk => exact False.elim hq'
    | cont => exact False.elim hq'
end CE
end CEyk
section CEyd
set_option maxRecDepth 100000
set_option maxHeartbeats 4000000
namespace CE
open PySem PySem.Spec PyProof.Rows L2
theorem exv_inv {w : Wd} {m : Pl} {H : Hp} {k : Str} {ns : List Str} {xs : List A} {v : V} (h : RA w m H (.exv k ns xs) v) : ∃ a C od, v = .ref a ∧ w.ca k = some C ∧ H a = some (exo a C od) ∧ ns.length = xs.length ∧
    ((ns = [] ∧ xs = [] ∧ od = none) ∨ ∃ d vs, od = some d ∧ H d = some (exd d (ns.zip vs)) ∧ RAs w m H xs vs) := by
  cases h with
  | exv0 h1 h2 => exact ⟨_, _, _, rfl, h1, h2, rfl, .inl ⟨rfl, rfl, rfl⟩⟩
  | exv h1 h2 h3 h4 h5 => exact ⟨_, _, _, rfl, h1, h2, h4, .inr ⟨_, _, rfl, h3, h5⟩⟩
theorem zip_get {w : Wd} {m : Pl} {H : Hp} {f : Str} {a : A} : ∀ {ns : List Str} {xs : List A} {vs : List V}, RAs w m H xs vs → (ns.zip xs).lookup f = some a → ∃ v, (ns.zip vs).lookup f = some v ∧ RA w m H a v
  | [], _, _, _, e => by cases e
  | n :: ns, _, _, .nil, e => by cases e
  | n :: ns, x :: xs, v :: vs, .cons r t, e => by
    rw [List.zip_cons_cons] at e ⊢
    simp only [List.lookup] at e ⊢
    cases hb : f == n with
    | true => rw [hb] at e; cases e; exact ⟨v, rfl, r⟩
    | false => rw [hb] at e; exact zip_get t e
/-- e.f -/
def tXfv (K : PySem.W.Frag) (f : Str) (te : TE) : TE := fun σ H Q => te σ H fun x H1 => ∃ a C dd fs v, x = .ref a ∧ XfC K C ∧ PySem.W.findIn K (.ref C) f = some none ∧ H1 a = some (exo a C (some dd)) ∧ H1 dd = some (exd dd fs) ∧ fs.lookup f = some v ∧ Q v H1
theorem pe_xfv {X : Cx} {e : Expr} {f : Str} {pos : Pos} {te : TE} (he : PE X e te) (hb : attributeBase e f X.env (eval e X.env) = eval e X.env) : PE X (.Attribute e f pos) (tXfv X.K f te) := by
  refine ⟨fun pins s σ H Q I h => ?_⟩
  refine attr_of hb (thn (he.run pins s σ H _ I h) fun u s1 ⟨x, H1, I1, rx, a, C, dd, fs, v, ex, T, hno, ea, ed, hl, q⟩ => ?_)
  subst ex
  obtain rfl : u = Value.ref a := rx
  exact exv_fld T hno I1 ea ed hl q
/-- isinstance(e, c) -/
def rIsX (K : PySem.W.Frag) : List V → Hp → VK → Prop := fun xs H Q => ∃ (a C : Addr) (od : Option Addr) (c : V) (cv : Value) (b : Bool), xs = [.ref a, c] ∧ XvC K C ∧ H a = some (exo a C od) ∧ (∀ d, od = some d → ∃ fs, H d = some (exd d fs)) ∧ (∀ u, RelV c u → u = cv) ∧ PySem.W.kitOne K (.ref C) cv = some b ∧ Q (.bl b) H
theorem call_isX {X : Cx} : CallR X (.builtin "isinstance") (rIsX X.K) := by
  intro pins s σ H xs us Q I r h
  obtain ⟨a, C, od, c, cv, b, rfl, T, ea, hd, hcv, e, q⟩ := h
  cases r with
  | cons rx rr =>
    cases rr with
    | cons rt rr =>
      cases rr
      cases rx
      have ec := hcv _ rt
      subst ec
      exact exv_is T I ea hd e q
section
variable {X : Cx} {w : Wd} {W : WX}
theorem snd_xfv {xfl : Str → Str → Bool} {e : Expr} {f : Str} {pos : Pos} {fe : S → R T} (hw : w.K = X.K) (hX : ∀ k C, w.ca k = some C → xfl k f = true → XfC X.K C ∧ PySem.W.findIn X.K (.ref C) f = some none) (he : Snd X w W e fe) (hb : baseOk e = true) :
    Snd X w W (.Attribute e f pos) (fun s => (fe s).bind fun x s1 => match x with
      | .v (.exv k ns xs) => match xfl k f, (ns.zip xs).lookup f with
        | true, some a => .ok (.v a) s1
        | _, _ => .stuck
      | _ => .stuck) := by
  refine .of ((pe_xfv he.pe (base_of hb)).imp fun σ H Q ⟨m, s, r, h⟩ => ⟨m, s, r, (Pst.bind (rr := rT w) h).mono fun v H1 ⟨x, s1, m1, _, r1, e1, x1, h1⟩ => ?_⟩) (by intro _; rfl)
  split at h1
  · rename_i k ns xs _
    split at h1
    · rename_i a hf hl
      obtain ⟨p, C, od, rfl, hC, ha, _, hor⟩ := exv_inv (show RA w m1 H1 (.exv k ns xs) v from x1)
      rcases hor with ⟨z1, z2, _⟩ | ⟨d, vs, rfl, hd, hv⟩
      · rw [z1] at hl; cases hl
      · obtain ⟨u, hu, ru⟩ := zip_get hv hl
        obtain ⟨T, hno⟩ := hX k C hC hf
        exact ⟨p, C, d, _, u, rfl, T, hno, ha, hd, hu, h1.fin r1 ru⟩
    · exact h1.elim
  · exact h1.elim

/-- two objects laid, the first one changed at once -/
theorem upd_two {H : Hp} {a dx : Addr} {o o1 o2 : HO} (hne : dx ≠ a) : upd (upd (upd H a o1) dx o) a o2 = upd (upd H dx o) a o2 := by
  funext b
  by_cases hb : b = a
  · subst hb; rw [upd_same, upd_same]
  · rw [upd_ne hb, upd_ne hb]
    by_cases hd : b = dx
    · subst hd; rw [upd_same, upd_same]
    · rw [upd_ne hd, upd_ne hd, upd_ne hb]
theorem snd_mkx0 {C : Addr} {bmB : List Value} {B newId initId : String} {x k : Str} {e : Expr} {p pos : Pos} {fe : S → R T} (F : ExcBaseFacts B newId initId bmB) (q : PySem.W.excIn X.K C bmB newId = true) (gC : X.mg x = some (.ref C)) (kC : PySem.W.keepIn X.K (.ref C) = true) (hg : Gl X x)
    (hca : w.ca k = some C) (he : Snd X w W e fe) (hs : notStar e = true) (hdb : (x == ("__debug__" : Str)) = false) :
    Snd X w W (.Call (.Name x p) [e] [] pos) (fun s => (fe s).bind fun _ s1 => .ok (.v (.exv k [] [])) s1) := by
  refine .of ((pe_exv0 F q gC kC hg he.pe (star_cons hs) hdb).imp fun σ H Q ⟨m, s, r, h⟩ => ⟨m, s, r, (Pst.bind (rr := rT w) h).mono fun v H1 ⟨x, s1, m1, _, r1, e1, x1, h1⟩ a ha => ?_⟩) (by intro _; rfl)
  exact h1.new r1 e1.gone ha (.exv0 hca upd_same)
theorem pst_exv {k f : Str} {C a dx : Addr} {b : A} {y : V} {m1 : Pl} {s1 : S} {σ : L2.St} {H0 H1 : Hp} {Q : VK} (hca : w.ca k = some C) (r1 : Rel w m1 s1 σ H1) (g : Gone H0 H1) (rb : RA w m1 H1 b y) (h1 : Pst w W (rT w) H0 m1 s1 σ H1 (.ok (.v (.exv k [f] [b])) s1) Q) (ha : H1 a = none) (hd : H1 dx = none) (hne : dx ≠ a) :
    Q (.ref a) (upd (upd (upd H1 a (exo a C none)) dx (exd dx [(f, y)])) a (exo a C (some dx))) := by
  rw [upd_two hne]
  have hax : (upd H1 dx (exd dx [(f, y)])) a = none := by rw [upd_ne (Ne.symm hne)]; exact ha
  have r2 : Rel w m1 s1 σ (upd H1 dx (exd dx [(f, y)])) := r1.new hd
  have e2 : Ext m1 s1 σ H1 m1 s1 σ (upd H1 dx (exd dx [(f, y)])) := Ext.newO hd
  have st : Stb m1 H1 m1 (upd (upd H1 dx (exd dx [(f, y)])) a (exo a C (some dx))) := (e2.trans (Ext.newO hax)).stb r1
  have h2 := h1.at e2
  have g2 : Gone H0 (upd H1 dx (exd dx [(f, y)])) := fun p hp => g p (e2.gone p hp)
  refine h2.new r2 g2 hax (RA.exv (d := dx) (vs := [y]) hca upd_same ?_ rfl (.cons (rb.stb st) .nil))
  rw [upd_ne hne, upd_same]; rfl
theorem snd_mkxI {CX : CXT} {C fI : Addr} {n : Nat} {x k f : Str} {fd : FuncData} {ps : List Str} {e : Expr} {p pos : Pos} {fe : S → R T} {E : L2.St → XK} (T : OexC X.K C) (iC : PySem.W.findIn X.K (.ref C) "__init__" = some (some (.ref fI))) (tI : PySem.W.typeIn X.K (.ref fI) = some (.type "function"))
    (F1 : FnOk X.prog X.w X.K X.mg X.base CX n fI fd ps (spXI C f)) (hr : Room (n + 1) X.A) (hb : Binds X.K fd ps []) (hx : ∀ σ, PassesAt CX X σ (E σ)) (gC : X.mg x = some (.ref C)) (hg : Gl X x)
    (hca : w.ca k = some C) (he : Snd X w W e fe) (hs : notStar e = true) (hdb : (x == ("__debug__" : Str)) = false) :
    Snd X w W (.Call (.Name x p) [e] [] pos) (fun s => (fe s).bind fun x s1 => match asA x with
      | some a => .ok (.v (.exv k [f] [a])) s1
      | none => .stuck) := by
  refine .of ⟨fun pins s0 σ H Q I ⟨m, s, r, h⟩ => ?_⟩ (by intro _; rfl)
  refine wpAny_Call_Name_kw (ld_glob I hg gC ?_ hdb)
  refine PySem.W.callWith_K (h₀ := X.base) I.ok.mod.kin T.kC ?_ (star_cons hs) (by rfl)
  rw [star_cons hs]
  show wpAny _ _ (spliced ((false, eval e X.env) :: backTo pos (starEach [] X.env))) _ _ s0
  refine Calls.spliced_cons (thn (he.pe.run pins s0 σ H _ I ⟨m, s, r, Pst.bind (rr := rT w) h⟩) fun u s1 ⟨v, H1, I1, rv, y, z1, m1, _, r1, e1, x1, h1⟩ => ?_)
  refine Calls.spliced_nil ⟨I1.kIn, ?_⟩
  show wpAny _ _ (call (.ref C) [u]) _ _ _
  split at h1
  · rename_i b hb'
    exact run_exvI T iC tI F1 hr hb (hx σ) I1 rv fun a dx ha hd hne => pst_exv hca r1 e1.gone (a_of x1 hb') h1 ha hd hne
  · exact h1.elim
theorem snd_mkk {CX : CXT} {C fI : Addr} {n : Nat} {x k f pN : Str} {fd : FuncData} {ps : List Str} {e : Expr} {p kp pos : Pos} {fe : S → R T} {E : L2.St → XK} (T : OexC X.K C) (iC : PySem.W.findIn X.K (.ref C) "__init__" = some (some (.ref fI))) (tI : PySem.W.typeIn X.K (.ref fI) = some (.type "function"))
    (F1 : FnOk X.prog X.w X.K X.mg X.base CX n fI fd ps (spXI C f)) (hr : Room (n + 1) X.A) (hb : ∀ (s : Shared) (a u : Value), X.K.In s.heap → ps.length = 2 → BindsTo s fd ⟨[a], [(pN, u)]⟩ (ps.zip [a, u])) (hx : ∀ σ, PassesAt CX X σ (E σ)) (gC : X.mg x = some (.ref C)) (hg : Gl X x)
    (hca : w.ca k = some C) (he : Snd X w W e fe) (hdb : (x == ("__debug__" : Str)) = false) :
    Snd X w W (.Call (.Name x p) [] [⟨some pN, e, kp⟩] pos) (fun s => (fe s).bind fun x s1 => match asA x with
      | some a => .ok (.v (.exv k [f] [a])) s1
      | none => .stuck) := by
  refine .of ⟨fun pins s0 σ H Q I ⟨m, s, r, h⟩ => ?_⟩ (by intro _; rfl)
  refine wpAny_Call_Name_kw (ld_glob I hg gC ?_ hdb)
  refine PySem.W.callWith_KW0 (h₀ := X.base) I.ok.mod.kin T.kC rfl (thn ((pk_cons (nm := some pN) (kpos := kp) he.pe pk_nil).run pos pins s0 σ H (fun zs H1 => ∃ v, zs = [v] ∧ ∃ x s1 m1, fe s = R.ok x s1 ∧ Rel w m1 s1 σ H1 ∧ Ext m s σ H m1 s1 σ H1 ∧ rT w σ H m1 s1 H1 x v ∧ Pst w W (rT w) H m1 s1 σ H1 (match asA x with
      | some a => .ok (.v (.exv k [f] [a])) s1
      | none => .stuck) Q) I ⟨m, s, r, (Pst.bind (rr := rT w) h).mono fun v H1 q => ⟨v, rfl, q⟩⟩) fun ws s2 ⟨zs, H1, I1, rz, v, ez, y, z1, m1, _, r1, e1, x1, h1⟩ => ⟨I1.kIn, ?_⟩) rfl
  subst ez
  cases rz with
  | cons rv rn =>
  cases rn
  split at h1
  · rename_i b hb'
    exact run_exvK T iC tI F1 hr hb (hx σ) I1 rv fun a dx ha hd hne => pst_exv hca r1 e1.gone (a_of x1 hb') h1 ha hd hne
  · exact h1.elim
theorem snd_isx {cx : Expr} {cv : V} {cu : Value} {k : Str} {e : Expr} {p pos : Pos} {sub : Str → Str → Bool} {xc : Str → Bool} {fe : S → R T} (bi : BltN X "isinstance") (hcx : PE X cx (tC cv)) (hX : ∀ k' C, w.ca k' = some C → xc k' = true → XvC X.K C ∧ PySem.W.kitOne X.K (.ref C) cu = some (sub k' k))
    (he : Snd X w W e fe) (hs : notStar e = true) (hcn : notStar cx = true := by rfl) (hcr : ∀ u, RelV cv u → u = cu := by intro u h; exact h) :
    Snd X w W (.Call (.Name "isinstance" p) [e, cx] [] pos) (fun s => (fe s).bind fun x s1 => match x with
      | .v (.exv k' _ _) => if xc k' then .ok (.v (.bl (sub k' k))) s1 else .stuck
      | _ => .stuck) := by
  have hA := pa_cons he.pe (pa_cons hcx pa_nil (star_cons hcn)) (star_cons hs)
  refine .of ((pe_callB call_isX bi.gl bi.mg (by decide +kernel) hA (by decide +kernel) (by decide +kernel) (star_cons hs) (star_any (by rw [List.all_cons, hcn]; rfl))).imp fun σ H Q ⟨m, s, r, h⟩ => ⟨m, s, r, (Pst.bind (rr := rT w) h).mono fun v H1 ⟨x, s1, m1, _, r1, e1, x1, h1⟩ => ?_⟩) (by intro _; rfl)
  split at h1
  · rename_i k' ns xs _
    obtain ⟨a, C, od, rfl, hC, ha, _, hor⟩ := exv_inv (show RA w m1 H1 (.exv k' ns xs) v from x1)
    split at h1
    case isFalse => exact h1.elim
    rename_i hc
    obtain ⟨hV, hk⟩ := hX k' C hC hc
    refine ⟨a, C, od, cv, cu, _, rfl, hV, ha, fun d hd => ?_, hcr, hk, h1.fin r1 (.bl _)⟩
    rcases hor with ⟨_, _, z⟩ | ⟨d', vs, e1, e2, _⟩
    · rw [hd] at z; cases z
    · rw [hd] at e1; cases e1; exact ⟨_, e2⟩
  · exact h1.elim
end
end CE
end CEyd
section CEs
set_option maxRecDepth 100000
set_option maxHeartbeats 4000000
namespace CE
open PySem PySem.Spec PyProof.Rows L2
inductive GK where | fn (i : Nat) | val (a : A) | exc (k : Str) | cls (k : Str) (i : Nat) | blt deriving DecidableEq
structure GT where
  gk : Str → Option GK
  dfl : Nat → List A
  xi : Str → Option (Str × Str)
/-- where one stands -/
structure SC where
  N : List Str
  sc : Scope
  fn : Str → Bool
  hot : Bool
  blk : Bool
def SC.glB (B : SC) (x : Str) : Bool := decide (B.sc.names.lookup x = some .globalImplicit)
def SC.visB (B : SC) (x : Str) : Bool := match B.sc.names.lookup x with
  | some .local => true
  | some .cell => true
  | some .free => true
  | _ => false
def SC.locB (B : SC) (x : Str) : Bool := match B.sc.names.lookup x with
  | some .local => true
  | some .cell => B.fn x
  | _ => false
def okN (x : Str) : Bool := !(x == ("__debug__" : Str)) && !(x == ("__classdict__" : Str))
def binB : BinO → Operator → Bool
  | .add, .Add => true
  | .sub, .Sub => true
  | .mul, .Mult => true
  | .fdiv, .FloorDiv => true
  | .mod, .Mod => true
  | .pow, .Pow => true
  | _, _ => false
def cmpB : CmpO → CmpOp → Bool
  | .eq, .Eq => true
  | .ne, .NotEq => true
  | .lt, .Lt => true
  | .le, .LtE => true
  | .gt, .Gt => true
  | .ge, .GtE => true
  | .is, .Is => true
  | .isn, .IsNot => true
  | .inn, .In => true
  | .nin, .NotIn => true
  | _, _ => false
/-- no slice, no star, no set display -/
def plainB : Expr → Bool
  | .Slice _ _ _ _ => false
  | .Starred _ _ => false
  | .Set _ _ _ => false
  | _ => true
mutual
def Tg.js : Tg → List Nat
  | .nm i => [i]
  | .tp gs => gs.js
  | .ix _ _ => []
  | .fd _ _ => []
def Tgs.js : Tgs → List Nat
  | .nil => []
  | .cons g gs => g.js ++ gs.js
end
def isTup : Expr → Bool
  | .Tuple _ _ _ => true
  | _ => false
def strFit (x : Str) : Bool := PyData.strOk x && decide (x.length ≤ Lim)
def SC.blt (Γ : GT) (B : SC) (x : Str) : Bool := B.glB x && decide (Γ.gk x = some .blt)
def ownOf (N : List Str) (vs : List Nat) : List (Str × Nat) := vs.map fun v => (N.getD v ⟨#[]⟩, v)
def SC.inB (B : SC) (scope : Scope) : SC := ⟨B.N, relS scope B.sc, fun x => scope.names.lookup x == some .cell, false, true⟩
/-- the defaults that fill up -/
def fillOk (ds all : List A) : Bool := decide (ds = all.drop (all.length - ds.length))
variable (Γ : GT)
mutual
def chkE : E → SC → Expr → Bool
  | .cst a, B, e => match e with
    | .Constant .none _ _ => decide (a = .non)
    | .Constant (.bool b) _ _ => decide (a = .bl b)
    | .Constant (.int i) _ _ => decide (a = .int i)
    | .Constant (.str x) _ _ => decide (a = .str x) && strFit x
    | .Name x _ => B.glB x && okN x && decide (Γ.gk x = some (.val a))
    | _ => false
  | .var i, B, e => match e with
    | .Name x _ => decide (B.N[i]? = some x) && B.visB x && okN x
    | _ => false
  | .bin o a b, B, e => match e with
    | .BinOp x op y _ => binB o op && chkE a B x && chkE b B y
    | _ => false
  | .neg a, B, e => match e with
    | .UnaryOp .USub x _ => chkE a B x
    | _ => false
  | .cmp o a b, B, e => match e with
    | .Compare x [op] [y] _ => cmpB o op && chkE a B x && chkE b B y && plainB y
    | _ => false
  | .cmp2 o p a b d, B, e => match e with
    | .Compare x [op, op'] [y, z] _ => cmpB o op && cmpB p op' && chkE a B x && chkE b B y && chkE d B z && plainB y && plainB z
    | _ => false
  | .not a, B, e => match e with
    | .UnaryOp .Not x _ => chkE a B x
    | _ => false
  | .and as, B, e => match e with
    | .BoolOp .And es _ => chkEs as B es && !es.isEmpty && es.all notStar
    | _ => false
  | .or as, B, e => match e with
    | .BoolOp .Or es _ => chkEs as B es && !es.isEmpty && es.all notStar
    | _ => false
  | .ite c a b, B, e => match e with
    | .IfExp x y z _ => chkE c B x && chkE a B y && chkE b B z
    | _ => false
  | .idx a i, B, e => match e with
    | .Subscript x y _ => chkE a B x && chkE i B y && plainB y
    | _ => false
  | .slc a lo hi, B, e => match e with
    | .Subscript x (.Slice l h none _) _ => chkE a B x && chkO lo B l && chkO hi B h
    | _ => false
  | .call f as ds, B, e => match e with
    | .Call (.Name x _) es [] _ => B.glB x && okN x && decide (Γ.gk x = some (.fn f)) && !B.hot && fillOk ds (Γ.dfl f) && chkEs as B es && es.all notStar
    | _ => false
  | .bf b as, B, e => match e with
    | .Call (.Name x _) (y :: ys) [] _ => decide (x = bfName b) && B.blt Γ x && !B.hot && chkEs as B (y :: ys) && (y :: ys).all notStar
    | _ => false
  | .mt m a as, B, e => match e with
    | .Call (.Attribute o x apos) es [] cpos => decide (x = mtName m) && mtL m && chkE a B o && chkEs as B es && baseOk o && (apos.endLine == cpos.line) && es.all notStar && decide (es.length < 30) && (mtArgs m == !es.isEmpty)
    | _ => false
  | .tup as, B, e => match e with
    | .Tuple es _ _ => chkEs as B es
    | _ => false
  | .lst as, B, e => match e with
    | .List es _ => chkEs as B es
    | _ => false
  | .dic0, _, e => match e with
    | .Dict [] [] _ => true
    | _ => false
  | .isi a ts, B, e => match e with
    | .Call (.Name f _) [x, .Name c _] [] _ => decide (f = ("isinstance" : Str)) && B.blt Γ ("isinstance" : Str) && (match isiOf c with
      | some t => decide (ts = [t])
      | none => false) && B.blt Γ c && chkE a B x && notStar x
    | .Call (.Name f _) [x, .Tuple es _ _] [] _ => decide (f = ("isinstance" : Str)) && B.blt Γ ("isinstance" : Str) && decide (isiAll es = some ts) && (clsNames es).all (fun c => B.blt Γ c) && decide (ts.length ≤ 1000) && chkE a B x && notStar x
    | _ => false
  | .lc vs g it k e', B, e => match e with
    | .ListComp elt [⟨tg, iter, ifs, z⟩] scope _ => decide (z = 0) && !B.hot && blkC B.N B.sc scope (ownOf B.N vs) && g.js.all (fun j => decide (j ∈ vs)) && plainB iter && chkW it B tg iter && chkG g (B.inB scope) tg && chkC k (B.inB scope) ifs && chkE e' (B.inB scope) elt
    | _ => false
  | .dget a k, B, e => match e with
    | .Call (.Attribute o x apos) [y] [] cpos => decide (x = ("get" : Str)) && chkE a B o && chkE k B y && baseOk o && (apos.endLine == cpos.line) && notStar y
    | _ => false
  | .dget2 a k d, B, e => match e with
    | .Call (.Attribute o x apos) [y, z] [] cpos => decide (x = ("get" : Str)) && chkE a B o && chkE k B y && chkE d B z && baseOk o && (apos.endLine == cpos.line) && notStar y && notStar z
    | _ => false
  | .fld a f, B, e => match e with
    | .Attribute x g _ => decide (g = f) && chkE a B x && baseOk x
    | _ => false
  | .mcall mn a as, B, e => match e with
    | .Call (.Attribute o x apos) es [] cpos => decide (x = mn) && !B.hot && chkE a B o && chkEs as B es && baseOk o && (apos.endLine == cpos.line) && es.all notStar && decide (es.length < 30)
    | _ => false
  | .make k f as ds, B, e => match e with
    | .Call (.Name x _) es [] _ => B.glB x && okN x && decide (Γ.gk x = some (.cls k f)) && !B.hot && fillOk ds (Γ.dfl f) && chkEs as B es && es.all notStar
    | _ => false
  | .frz a, B, e => plainT e && chkE a B e
  | .prm a, B, e => plainT e && chkE a B e
  | .mkx k f a, B, e => match e with
    | .Call (.Name x _) [y] [] _ => B.glB x && okN x && decide (Γ.gk x = some (.exc k)) && !B.hot && decide ((Γ.xi k).map (·.1) = f) && chkE a B y && notStar y
    | _ => false
  | .mkk k f pn a, B, e => match e with
    | .Call (.Name x _) [] [⟨some q, y, _⟩] _ => B.glB x && okN x && decide (Γ.gk x = some (.exc k)) && !B.hot && decide (Γ.xi k = some (f, pn)) && chkE a B y && decide (q = pn)
    | _ => false
  | .isx a k, B, e => match e with
    | .Call (.Name f _) [x, .Name c _] [] _ => decide (f = ("isinstance" : Str)) && B.blt Γ ("isinstance" : Str) && chkE a B x && notStar x && ((B.glB c && okN c && decide (Γ.gk c = some (.exc k))) || (decide (c = ("ValueError" : Str)) && decide (k = ("ValueError" : Str)) && B.blt Γ c))
    | _ => false
  | .xfl a f, B, e => match e with
    | .Attribute x g _ => decide (g = f) && chkE a B x && baseOk x
    | _ => false
  | _, _, _ => false
def chkEs : Es → SC → List Expr → Bool
  | .nil, _, es => match es with
    | [] => true
    | _ => false
  | .cons a as, B, es => match es with
    | e :: es => chkE a B e && chkEs as B es && notStar e
    | _ => false
  | .star a as, B, es => match es with
    | .Starred e _ :: es => chkE a B e && chkEs as B es
    | _ => false
def chkO : OE → SC → Option Expr → Bool
  | .none, _, e => match e with
    | none => true
    | _ => false
  | .some a, B, e => match e with
    | some e => chkE a B e
    | _ => false
def chkC : OE → SC → List Expr → Bool
  | .none, _, e => match e with
    | [] => true
    | _ => false
  | .some a, B, e => match e with
    | [e] => chkE a B e
    | _ => false
def chkW : Wk → SC → Expr → Expr → Bool
  | .seq a, B, _, e => chkE a B e
  | .rng1 a, B, _, e => match e with
    | .Call (.Name f _) [x] [] _ => decide (f = ("range" : Str)) && B.blt Γ ("range" : Str) && chkE a B x && notStar x
    | _ => false
  | .rng2 a b, B, _, e => match e with
    | .Call (.Name f _) [x, y] [] _ => decide (f = ("range" : Str)) && B.blt Γ ("range" : Str) && chkE a B x && notStar x && chkE b B y && notStar y
    | _ => false
  | .enm a, B, tg, e => match e with
    | .Call (.Name f _) [x] [] _ => decide (f = ("enumerate" : Str)) && B.blt Γ ("enumerate" : Str) && isTup tg && chkE a B x && notStar x
    | _ => false
  | .zip a b, B, tg, e => match e with
    | .Call (.Name f _) [x, y] [] _ => decide (f = ("zip" : Str)) && B.blt Γ ("zip" : Str) && isTup tg && chkE a B x && notStar x && chkE b B y && notStar y
    | _ => false
def chkG : Tg → SC → Expr → Bool
  | .nm i, B, e => match e with
    | .Name x _ => decide (B.N[i]? = some x) && B.locB x
    | _ => false
  | .tp gs, B, e => match e with
    | .Tuple es _ _ => !B.hot && chkGs gs B es && es.all notStar
    | _ => false
  | .ix o i, B, e => match e with
    | .Subscript x y _ => chkE o B x && chkE i B y && plainB y
    | _ => false
  | .fd o f, B, e => match e with
    | .Attribute x g _ => decide (g = f) && chkE o B x
    | _ => false
def chkGs : Tgs → SC → List Expr → Bool
  | .nil, _, es => match es with
    | [] => true
    | _ => false
  | .cons g gs, B, es => match es with
    | e :: es => chkG g B e && chkGs gs B es
    | _ => false
end
def isComp : Expr → Bool
  | .ListComp _ _ _ _ => true
  | _ => false
/-- name = [..] on one line: stored by the comprehension -/
def swapC (B : SC) (y : Str) (py : Pos) : Expr → Bool
  | .ListComp _ _ scope pos => decide (B.sc.names.lookup y = some .local) && (py.line == pos.line) && !(scope.names.any fun (n, k) => n == y && (k == .local || k == .cell))
  | _ => false
def nsB (e : Expr) : Bool := notComp e
mutual
def chkS : Sm → SC → Stmt → Bool
  | .asg g a, B, st => match st with
    | .Assign [tg] e _ => chkG Γ g B tg && chkE Γ a B e && (match tg with
      | .Name _ _ => (match a with
        | .lc _ _ _ _ _ => isComp e
        | _ => notComp e)
      | .Tuple _ _ _ => !isTup e
      | .Subscript _ _ _ => true
      | .Attribute _ _ _ => true
      | _ => false)
    | _ => false
  | .par i j a b, B, st => match st with
    | .Assign [.Tuple [.Name x px, .Name y py] _ _] (.Tuple [e, e2] _ _) _ => !B.hot && decide (B.N[i]? = some x) && decide (B.N[j]? = some y) && decide (i ≠ j) && decide (B.sc.names.lookup x = some .local) && decide (B.sc.names.lookup y = some .local) &&
        (px.line == py.line) && chkE Γ a B e && chkE Γ b B e2 && notStar e && notStar e2 && !(foldedForSure 8 e && foldedForSure 8 e2) && !(constantsAlone 8 e && constantsAlone 8 e2)
    | _ => false
  | .par3 i j l a b d, B, st => match st with
    | .Assign [.Tuple [.Name x px, .Name y py, .Name z pz] _ _] (.Tuple [e, e2, e3] _ _) _ => !B.hot && decide (B.N[i]? = some x) && decide (B.N[j]? = some y) && decide (B.N[l]? = some z) && decide (i ≠ j) && decide (i ≠ l) && decide (j ≠ l) && decide (B.sc.names.lookup x = some .local) && decide (B.sc.names.lookup y = some .local) && decide (B.sc.names.lookup z = some .local) &&
        (px.line == py.line) && (px.line == pz.line) && chkE Γ a B e && chkE Γ b B e2 && chkE Γ d B e3 && notStar e && notStar e2 && notStar e3 && !(foldedForSure 8 e && (foldedForSure 8 e2 && foldedForSure 8 e3)) && !(constantsAlone 8 e && (constantsAlone 8 e2 && constantsAlone 8 e3))
    | _ => false
  | .aug i o a, B, st => match st with
    | .AugAssign (.Name x _) op e _ => decide (B.N[i]? = some x) && B.locB x && (match o, op with
      | .add, .Add => true
      | .sub, .Sub => true
      | _, _ => false) && chkE Γ a B e
    | _ => false
  | .augF a f o b, B, st => match st with
    | .AugAssign (.Attribute x g _) op e _ => decide (g = f) && (match o, op with
      | .add, .Add => true
      | .sub, .Sub => true
      | _, _ => false) && chkE Γ a B x && chkE Γ b B e
    | _ => false
  | .ex a, B, st => match st with
    | .Expr e _ => chkE Γ a B e && notComp e
    | _ => false
  | .rt a, B, st => match st with
    | .Return (some e) _ => chkE Γ a B e
    | _ => false
  | .rtn, _, st => match st with
    | .Return none _ => true
    | _ => false
  | .ife c a b, B, st => match st with
    | .If e x y _ => chkE Γ c B e && chkSs a B x && chkSs b B y
    | _ => false
  | .for g it b, B, st => match st with
    | .For tg iter body [] _ => !B.hot && chkG Γ g B tg && chkW Γ it B tg iter && plainB iter && chkSs b B body
    | _ => false
  | .whl c b, B, st => match st with
    | .While e body [] _ => !B.hot && chkE Γ c B e && chkSs b B body
    | _ => false
  | .raise k f a, B, st => match st with
    | .Raise (some (.Call (.Name x _) [e] [] _)) none _ => !B.hot && B.glB x && okN x && decide (Γ.gk x = some (.exc k)) && decide (f = none) && decide (Γ.xi k = none) && chkE Γ a B e && notStar e
    | _ => false
  | .tryx b k n h, B, st => match st with
    | .Try body [.ExceptHandler (some (.Name x _)) none (h0 :: hs) _] [] [] _ => !B.hot && decide (n = none) && B.glB x && okN x && decide (Γ.gk x = some (.exc k)) && chkSs b B body && chkSs h ⟨B.N, B.sc, B.fn, true, true⟩ (h0 :: hs)
    | _ => false
  | .bk, _, st => match st with
    | .Break _ => true
    | _ => false
  | .ct, _, st => match st with
    | .Continue _ => true
    | _ => false
  | .pass, _, st => match st with
    | .Pass _ => true
    | .Expr (.Constant (.str _) _ _) _ => true
    | _ => false
  | .mtch a cs, B, st => match st with
    | .Match e cases _ => chkE Γ a B e && chkCs cs B cases
    | _ => false
def chkCs : Cs → SC → List MatchCase → Bool
  | .nil, _, ms => match ms with
    | [] => true
    | _ => false
  | .any b, B, ms => match ms with
    | [⟨.MatchAs none none _, none, body⟩] => chkSs b B body
    | _ => false
  | .cons p b cs, B, ms => match ms with
    | ⟨pt, none, body⟩ :: ms => patB pt p && chkSs b B body && chkCs cs B ms
    | _ => false
def chkSs : Sms → SC → List Stmt → Bool
  | .nil, _, st => match st with
    | [] => true
    | _ => false
  | .cons a as, B, st => match st with
    | s :: ss => chkS a B s && chkSs as B ss
    | _ => false
end
end CE
end CEs
section CEt
set_option maxRecDepth 100000
set_option maxHeartbeats 4000000
namespace CE
open PySem PySem.Spec PyProof.Rows L2
/-- how an exception of a class is made: without own __init__, or with one -/
def XIn (X : Cx) (C : Addr) (hot : Bool) : Option (Str × Str) → Prop
  | none => ∃ (bmB : List Value) (Bn newId initId : String), ExcBaseFacts Bn newId initId bmB ∧ PySem.W.excIn X.K C bmB newId = true
  | some (f, pN) => ∃ (fI : Addr) (fd : FuncData) (ps : List Str), OexC X.K C ∧ PySem.W.findIn X.K (.ref C) "__init__" = some (some (.ref fI)) ∧ PySem.W.typeIn X.K (.ref fI) = some (.type "function") ∧
      FnOk X.prog X.w X.K X.mg X.base (L2.CX X.prog X.w) 1 fI fd ps (spXI C f) ∧ (hot = false → Room 2 X.A) ∧ Binds X.K fd ps [] ∧ ∀ (s : Shared) (a u : Value), X.K.In s.heap → ps.length = 2 → BindsTo s fd ⟨[a], [(pN, u)]⟩ (ps.zip [a, u])
theorem XIn.to {X X' : Cx} {C : Addr} {hot hot' : Bool} (h0 : X'.prog = X.prog) (h1 : X'.w = X.w) (h2 : X'.K = X.K) (h3 : X'.mg = X.mg) (h4 : X'.base = X.base) (h5 : hot' = false → hot = false ∧ X'.A = X.A) : ∀ {o : Option (Str × Str)}, XIn X C hot o → XIn X' C hot' o
  | none, h => by unfold XIn at h ⊢; rw [h2]; exact h
  | some (f, pN), h => by
    unfold XIn at h ⊢
    obtain ⟨fI, fd, ps, a1, a2, a3, a4, a5, a6, a7⟩ := h
    rw [h0, h1, h2, h3, h4]
    exact ⟨fI, fd, ps, a1, a2, a3, a4, fun z => by obtain ⟨z1, z2⟩ := h5 z; rw [z2]; exact a5 z1, a6, a7⟩
/-- what a name of the module stands for -/
def GOk (Γ : GT) (w : Wd) (c : Cfg) (hot : Bool) (X : Cx) (x : Str) : GK → Prop
  | .fn i => ∃ (a : Addr) (k : Nat) (fd : FuncData) (ps : List Str), FnOk X.prog X.w X.K X.mg X.base (L2.CX X.prog X.w) k a fd ps (spG w (c.call i)) ∧ (hot = false → Room k X.A) ∧ X.mg x = some (.ref a) ∧ PySem.W.keepIn X.K (.ref a) = true ∧
      ∀ ds, fillOk ds (Γ.dfl i) = true → ∃ dvs dus, Binds X.K fd ps dus ∧ Vals dvs dus ∧ ∀ m H, RAs w m H ds dvs
  | .val a => ∃ (v : V) (u : Value), X.mg x = some u ∧ RelV v u ∧ ∀ m H, RA w m H a v
  | .exc k => ∃ (C : Addr), X.mg x = some (.ref C) ∧ w.ca k = some C ∧ PySem.W.keepIn X.K (.ref C) = true ∧ Raises X (.ref C) ∧ (∀ k' C', w.ca k' = some C' → PySem.W.exmOne X.K (.ref C') (.ref C) = some (c.sub k' k)) ∧
      (∀ k' C', w.ca k' = some C' → c.xc k' = true → XvC X.K C' ∧ PySem.W.kitOne X.K (.ref C') (.ref C) = some (c.sub k' k)) ∧ XIn X C hot (Γ.xi k)
  | .cls k i => ∃ (C a : Addr) (n : Nat) (fd : FuncData) (ps : List Str), X.mg x = some (.ref C) ∧ w.ca k = some C ∧ Mk X.K C a ∧ FnOk X.prog X.w X.K X.mg X.base (L2.CX X.prog X.w) n a fd ps (spG w (c.callM i)) ∧ (hot = false → Room (n + 1) X.A) ∧
      ∀ ds, fillOk ds (Γ.dfl i) = true → ∃ dvs dus, Binds X.K fd ps dus ∧ Vals dvs dus ∧ ∀ m H, RAs w m H ds dvs
  | .blt => X.mg x = none
structure Good (Γ : GT) (w : Wd) (c : Cfg) (B : SC) (X : Cx) (W : WX) : Prop where
  hw : w.K = X.K
  un : X.A.units + 160 < cLine
  nd : X.N.Nodup
  N : X.N = B.N
  sc : X.env.scope = B.sc
  kind : X.env.scope.kind = .function
  fn : X.fn = B.fn
  calm : B.hot = false → X.calm = true
  own : B.blk = false → PassesOwn (model X.prog X.w) X.A X.env X.xe
  stk : B.blk = false → X.stack = X.env :: X.outer
  frm : B.blk = false → X.env.frame = some X.env.locals
  tk : Takes X W
  glob : ∀ x g, Γ.gk x = some g → GOk Γ w c B.hot X x g
  cls : ClsOk X w c.flds
  xfl : ∀ k C f, w.ca k = some C → c.xf k f = true → XfC X.K C ∧ PySem.W.findIn X.K (.ref C) f = some none
  xve : ∀ k C, w.ca k = some C → c.xc k = true → XvC X.K C ∧ PySem.W.kitOne X.K (.ref C) (.type "ValueError") = some (c.sub k "ValueError")
  mth : B.hot = false → ∀ mn k i, c.meth k mn = some i → MthOk X w (L2.CX X.prog X.w) c.call k mn i
section
variable {Γ : GT} {w : Wd} {c : Cfg} {B : SC} {X : Cx} {W : WX}
theorem okN_ok {x : Str} (h : okN x = true) : (x == ("__debug__" : Str)) = false ∧ (x == ("__classdict__" : Str)) = false := by
  unfold okN at h
  simpa [Bool.and_eq_true] using h
theorem Good.gl (G : Good Γ w c B X W) {x : Str} (h : B.glB x = true) : Gl X x := by
  have h := of_decide_eq_true h
  show X.env.scope.names.lookup x = _
  rw [G.sc]
  exact h
theorem Good.bltN (G : Good Γ w c B X W) {x : Str} (h : B.blt Γ x = true) : BltN X x := by
  unfold SC.blt at h
  rw [Bool.and_eq_true] at h
  exact ⟨G.gl h.1, G.glob x .blt (of_decide_eq_true h.2)⟩
theorem Good.vis (G : Good Γ w c B X W) {x : Str} (h : B.visB x = true) : Vis X.env.scope x := by
  rw [G.sc]
  unfold SC.visB at h
  unfold Vis
  split at h <;> first | cases h | skip
  · rename_i e; exact .inl e
  · rename_i e; exact .inr (.inl e)
  · rename_i e; exact .inr (.inr e)
theorem Good.loc (G : Good Γ w c B X W) {x : Str} (h : B.locB x = true) : L2.Loc X.env.scope x ∧ (X.fn x = true ∨ X.env.scope.names.lookup x = some .local) := by
  rw [G.sc, G.fn]
  unfold SC.locB at h
  unfold L2.Loc
  split at h <;> first | cases h | skip
  · rename_i e; exact ⟨.inl e, .inr e⟩
  · rename_i e; exact ⟨.inr e, .inl h⟩
theorem takes0 {X : Cx} : Takes { X with xe := fun _ _ => False } W0 := fun u s' x => by
  obtain ⟨_, _, _, _, _, _, _, _, _, _, _, _, _, _, _, _, w⟩ := x
  exact w
theorem Good.block (G : Good Γ w c B X W) (hh : B.hot = false) {scope : Scope} (hk : scope.kind = .function) (s : Shared) (H : Hp) (C : Addr) (cl : List (Str × Addr)) (fp : List Addr) :
    Good Γ w c (B.inB scope) (X.blk s H scope (compEnvC scope cl C X.env) fp) W0 where
  hw := G.hw
  un := G.un
  nd := G.nd
  N := G.N
  sc := by show relS scope X.env.scope = relS scope B.sc; rw [G.sc]
  kind := hk
  fn := rfl
  calm := fun _ => G.calm hh
  own := fun z => nomatch z
  stk := fun z => nomatch z
  frm := fun z => nomatch z
  tk := fun u s' x => by
    obtain ⟨_, _, _, _, _, _, _, _, _, _, _, _, _, _, _, _, w⟩ := x
    exact w
  glob := fun x g e => by
    have q := G.glob x g e
    cases g with
    | fn i => obtain ⟨a, k, fd, ps, F, hr, r⟩ := q; exact ⟨a, k, fd, ps, F, fun _ => hr hh, r⟩
    | val a => exact q
    | exc k => obtain ⟨C, q1, q2, q3, q4, q5, q6, q7⟩ := q; exact ⟨C, q1, q2, q3, q4, q5, q6, q7.to rfl rfl rfl rfl rfl fun _ => ⟨hh, rfl⟩⟩
    | cls k i => obtain ⟨C, a, n, fd, ps, q1, q2, q3, F, hr, r⟩ := q; exact ⟨C, a, n, fd, ps, q1, q2, q3, F, fun _ => hr hh, r⟩
    | blt => exact q
  cls := G.cls
  xfl := G.xfl
  xve := G.xve
  mth := fun _ => G.mth hh
theorem Good.room (G : Good Γ w c B X W) (hh : B.hot = false) : True := trivial
theorem or_bin (hw : w.K = X.K) {o : BinO} {op : Operator} (h : binB o op = true) : OpR X (binaryOp op) (rOpG w (opBin o)) := by
  cases o <;> cases op <;> first | exact absurd h Bool.false_ne_true | exact or_add hw | exact or_sub | exact or_mul hw | exact or_fdiv | exact or_mod | exact or_pow
theorem or_cmp (hw : w.K = X.K) (hu : X.A.units + 160 < cLine) {o : CmpO} {op : CmpOp} (h : cmpB o op = true) : OpR X (compareOp op) (rCmpG w o) := by
  cases o <;> cases op <;> first | exact absurd h Bool.false_ne_true | exact or_eq hw hu | exact or_ne hw hu | exact or_lt | exact or_le | exact or_gt | exact or_ge | exact or_is | exact or_isn | exact or_in hw hu | exact or_nin hw hu
theorem plain_ix {b : Expr} (h : plainB b = true) : PlainIx b := by
  intro o i
  cases b <;> first | rfl | cases h
theorem plain_behind {b : Expr} {op : CmpOp} (h : plainB b = true) : behindInMarks op b = false := by
  cases b <;> first | rfl | cases h
theorem plain_folded {e : Expr} {env : Env} (h : plainB e = true) : ∀ x, foldedSetIterable e env x = pure x := by
  intro x
  cases e <;> first | rfl | cases h
end
end CE
end CEt
section CEu
set_option maxRecDepth 100000
set_option maxHeartbeats 4000000
namespace CE
open PySem PySem.Spec PyProof.Rows L2
theorem and4 {a b : Bool} (h : (a && b) = true) : a = true ∧ b = true := Bool.and_eq_true_iff.mp h
theorem ownOf_snd (N : List Str) (vs : List Nat) : (ownOf N vs).map (·.2) = vs := by
  unfold ownOf
  rw [List.map_map]
  exact List.map_id' vs
/-- what an and, an or, a display is of, one after another -/
inductive SndL (X : Cx) (w : Wd) (W : WX) (c : Cfg) : Es → List Expr → Prop
  | nil : SndL X w W c .nil []
  | cons {a : E} {as : Es} {e : Expr} {es : List Expr} : Snd X w W e (evE c a) → SndL X w W c as es → notStar e = true → SndL X w W c (.cons a as) (e :: es)
  | star {a : E} {as : Es} {e : Expr} {es : List Expr} {p : Pos} : Snd X w W e (evE c a) → SndL X w W c as es → SndL X w W c (.star a as) (.Starred e p :: es)
theorem sndL_and {X : Cx} {w : Wd} {W : WX} {c : Cfg} {pos : Pos} : ∀ {as : Es} {es : List Expr}, SndL X w W c as es → es ≠ [] → es.all notStar = true → SndB X w W (.BoolOp .And es pos) (evAnd c as)
  | _, _, .nil, h, _ => absurd rfl h
  | _, _, .star _ _, _, h => by cases h
  | .cons a as, e :: es, .cons h hs _, _, hn => by
    simp only [List.all_cons, Bool.and_eq_true] at hn
    cases hs with
    | nil => exact snd_and1 h
    | @cons b bs e2 es2 h2 hs2 n2 => exact snd_and h (sndL_and (.cons h2 hs2 n2) (by simp) hn.2)
    | star h2 hs2 => cases hn.2
theorem sndL_or {X : Cx} {w : Wd} {W : WX} {c : Cfg} {pos : Pos} : ∀ {as : Es} {es : List Expr}, SndL X w W c as es → es ≠ [] → es.all notStar = true → SndB X w W (.BoolOp .Or es pos) (evOr c as)
  | _, _, .nil, h, _ => absurd rfl h
  | _, _, .star _ _, _, h => by cases h
  | .cons a as, e :: es, .cons h hs _, _, hn => by
    simp only [List.all_cons, Bool.and_eq_true] at hn
    cases hs with
    | nil => exact snd_or1 h
    | @cons b bs e2 es2 h2 hs2 n2 => exact snd_or h (sndL_or (.cons h2 hs2 n2) (by simp) hn.2)
    | star h2 hs2 => cases hn.2
theorem rts_vals {w : Wd} {σ : L2.St} {H0 : Hp} {m : Pl} {s : S} {H : Hp} : ∀ {as : List A} {vs : List V} {ts : List T} {us : List V}, RAs w m H as vs → RTs w σ H0 m s H ts us → RTs w σ H0 m s H (as.map .v ++ ts) (vs ++ us)
  | _, _, _, _, .nil, h => h
  | _, _, _, _, .cons r t, h => .cons r (rts_vals t h)
theorem snd_astar {X : Cx} {w : Wd} {W : WX} {e : Expr} {es : List Expr} {p : Pos} {f : S → R T} {fs : S → R (List T)} (hw : w.K = X.K) (h : Snd X w W e f) (hs : SndA X w W es fs) :
    SndA X w W (.Starred e p :: es) (fun s => (f s).bind fun t s1 => match seqOf s1 t with
    | some xs => (fs s1).bind fun ts s2 => .ok (xs.map .v ++ ts) s2
    | none => .stuck) := by
  refine ⟨(StX.pa_star (p := p) h.pe hs.pa).imp fun σ H Q ⟨m, s, r, h⟩ => ⟨m, s, r, (Pst.bind (rr := rT w) h).mono fun v H1 ⟨x, s1, m1, _, r1, e1, x1, h1⟩ => ?_⟩⟩
  split at h1
  · rename_i xs hx
    obtain ⟨q, vs, ev, a, b, c⟩ := seq_of r1 x1 hx
    refine ⟨q, vs, ev, hw ▸ a.symm, m1, s1, r1, (Pst.bind (rr := rTs w) h1).mono fun us H2 ⟨ts, s2, m2, _, r2, e2, x2, h2⟩ => ?_⟩
    exact h2.fin r2 (rts_vals (RAs.stb (e2.stb r1) c) (x2.back e1.gone))
  · exact h1.elim
theorem sndL_a {X : Cx} {w : Wd} {W : WX} {c : Cfg} (hw : w.K = X.K) : ∀ {as : Es} {es : List Expr}, SndL X w W c as es → SndA X w W es (evEs c as)
  | _, _, .nil => snd_anil
  | _, _, .cons h hs hn => snd_acons h (sndL_a hw hs) (star_cons hn)
  | _, _, .star h hs => snd_astar hw h (sndL_a hw hs)
/-- from a target's start: an expression in it -/
theorem PstG.bind {w : Wd} {W : WX} {js : List Nat} {σ : L2.St} {m : Pl} {s : S} {H : Hp} {g0 : G0} {r : R T} {k : T → S → R Unit} {Q : L2.St → Hp → Prop} (e0 : Ext g0.m0 g0.s0 g0.σ0 g0.H0 m s σ H) (h : PstG w W js σ m H g0 (r.bind k) Q) :
    Pst w W (rT w) H m s σ H r (fun b H1 => ∃ a s1 m1, r = .ok a s1 ∧ Rel w m1 s1 σ H1 ∧ Ext m s σ H m1 s1 σ H1 ∧ RT w σ H m1 s1 H1 a b ∧ PstG w W js σ m H g0 (k a s1) Q) := by
  cases r with
  | ok a s1 => exact fun m1 H1 b r1 e1 x1 => ⟨a, s1, m1, rfl, r1, e1, x1, h⟩
  | exc c fs s' => exact fun m' H' cls d r' e' x' => h m' σ H' cls d r' (e0.trans e') x'
  | stuck => exact h
theorem snd_gfd {X : Cx} {w : Wd} {W : WX} {fl : Str → Str → Bool} {o : Expr} {f : Str} {pos : Pos} {fo : S → R T} (hc : ClsOk X w fl) (ho : Snd X w W o fo) : SndG X w W (.Attribute o f pos) [] (fun t s => match asA t with
    | some a => (fo s).bind fun x s1 => match setF fl s1 x f a with
      | some s2 => .ok () s2
      | none => .stuck
    | none => .stuck) := by
  refine ⟨PG_imp (pg_fld ho.pe) fun v σ H Q ⟨g0, m, s, t, r, e0, x, q⟩ => ?_⟩
  dsimp only at q
  split at q
  · rename_i a hA
    refine ⟨m, s, r, (PstG.bind e0 q).mono fun ov H1 ⟨xo, s1, m1, _, r1, e1, x1, q1⟩ => ?_⟩
    split at q1
    · rename_i s2 hs
      have rv : RA w m1 H1 a v := (a_of x hA).stb (e1.stb r)
      obtain ⟨k, p, C, dx, fs', _, ev, hca, hf, hp, hl, r2, e2, b2⟩ := setF_of r1 x1 rv hs
      obtain ⟨c1, c2⟩ := hc k C f hca hf
      exact ⟨p, C, dx, fs', ev, hp, c1, c2, hl, q1 m1 σ _ r2 ((e0.trans e1).trans e2) ⟨rfl, fun _ _ => rfl⟩ ((e1.stb r).trans b2)⟩
    · exact q1.elim
  · exact q.elim
theorem set_any {X : Cx} (hu : X.A.units + 1 < cLine) : PSet X (fun o i v H Q => rSetL o i v H Q ∨ rSetD o i v H Q) := by
  intro pins s σ H o i v ov iv u Q I ro ri rv h
  rcases h with h | h
  · exact set_list pins s σ H o i v ov iv u Q I ro ri rv h
  · exact set_dict hu pins s σ H o i v ov iv u Q I ro ri rv h
theorem snd_gix {X : Cx} {w : Wd} {W : WX} {o i : Expr} {pos : Pos} {fo fi : S → R T} (hu : X.A.units + 1 < cLine) (ho : Snd X w W o fo) (hi : Snd X w W i fi) (hp : plainB i = true) : SndG X w W (.Subscript o i pos) [] (fun t s => match asA t with
    | some a => (fo s).bind fun x s1 => (fi s1).bind fun y s2 => match setIx s2 x y a with
      | some s3 => .ok () s3
      | none => .stuck
    | none => .stuck) := by
  have ha : ∀ v, assign (.Subscript o i pos) X.env v = (do
      let ov ← holding [v] (eval o X.env)
      let iv ← holding [v, ov] (eval i X.env)
      standAt pos
      holding [v, ov, iv] (setItem ov iv v)
      release [v, ov, iv] []) := by
    intro v
    cases i <;> first | rfl | cases hp
  refine ⟨PG_imp (pg_sub ho.pe hi.pe (set_any hu) ha) fun v σ H Q ⟨g0, m, s, t, r, e0, x, q⟩ => ?_⟩
  dsimp only at q
  split at q
  · rename_i a hA
    refine ⟨m, s, r, (PstG.bind e0 q).mono fun ov H1 ⟨xo, s1, m1, _, r1, e1, x1, q1⟩ => ?_⟩
    -- at the state behind the object
    have q1' : PstG w W [] σ m1 H1 g0 ((fi s1).bind fun y s2 => match setIx s2 xo y a with
      | some s3 => .ok () s3
      | none => .stuck) Q := by
      have b1 := e1.stb r
      cases hr : ((fi s1).bind fun y s2 => match setIx s2 xo y a with
      | some s3 => R.ok () s3
      | none => .stuck) with
      | ok u s3 => rw [hr] at q1; exact fun m' σ' H' r' e' j b => q1 m' σ' H' r' e' j (b1.trans b)
      | exc c fs s3 => rw [hr] at q1; exact q1
      | stuck => rw [hr] at q1; exact q1.elim
    refine ⟨m1, s1, r1, (PstG.bind (e0.trans e1) q1').mono fun iv H2 ⟨yi, s2, m2, _, r2, e2, x2, q2⟩ => ?_⟩
    have x1' := x1.ext r1 e2
    split at q2
    · rename_i s3 hs
      unfold setIx at hs
      have rv : RA w m2 H2 a v := (a_of x hA).stb ((e1.trans e2).stb r)
      split at hs
      · rename_i kvs hkv
        split at hs
        · rename_i k hk
          split at hs
          · rename_i hb
            rw [Bool.and_eq_true] at hb
            obtain ⟨q, hq, ek⟩ := key_of (a_of x2 hk) hb.1
            obtain ⟨p, vs, ev, hp1, hra, fin⟩ := setD_of r2 x1' hkv hs
            obtain ⟨r3, e3, b3⟩ := fin (putK vs q v) (hra.put hq rv)
            refine .inr ⟨p, _, ev, ek ▸ DPut.k hp1 (by rw [← hra.len, lim_eq]; exact of_decide_eq_true hb.2), ?_⟩
            exact q2 m2 σ _ r3 ((e0.trans (e1.trans e2)).trans e3) ⟨rfl, fun _ _ => rfl⟩ ((e2.stb r1).trans b3)
          · cases hs
        · cases hs
      · split at hs
        · rename_i k xs hk hx
          split at hs
          · rename_i j hj
            obtain ⟨p, vs, ev, hp1, hl, hra, fin⟩ := setL_of r2 x1' hx hs
            obtain ⟨r3, e3, b3⟩ := fin (vs.set j v) (RAs.set rv j hra) (by rw [List.length_set]; exact hl)
            refine .inl ⟨p, vs, k, j, ev, int_of x2 hk, hp1, by rw [← hra.len]; exact hj, ?_⟩
            exact q2 m2 σ _ r3 ((e0.trans (e1.trans e2)).trans e3) ⟨rfl, fun _ _ => rfl⟩ ((e2.stb r1).trans b3)
          · cases hs
        · cases hs
    · exact q2.elim
  · exact q.elim
section
variable {Γ : GT} {w : Wd} {c : Cfg}
mutual
theorem sndE : ∀ (a : E) {B : SC} {X : Cx} {W : WX} {e : Expr}, Good Γ w c B X W → chkE Γ a B e = true → Snd X w W e (evE c a)
  | .cst a, B, X, W, e, G, h => by
    unfold chkE at h
    try dsimp only at h
    split at h
    · cases of_decide_eq_true h; exact snd_non
    · cases of_decide_eq_true h; exact snd_bl
    · cases of_decide_eq_true h; exact snd_int
    · obtain ⟨h1, h2⟩ := and4 h
      unfold strFit at h2
      obtain ⟨h3, h4⟩ := and4 h2
      cases of_decide_eq_true h1
      exact snd_str h3 (of_decide_eq_true h4)
    · obtain ⟨h1, h3⟩ := and4 h
      obtain ⟨h1, h2⟩ := and4 h1
      obtain ⟨v, u, e1, e2, e3⟩ := G.glob _ _ (of_decide_eq_true h3)
      exact snd_glo (G.gl h1) e1 e2 e3 (okN_ok h2).1
    · cases h
  | .var i, B, X, W, e, G, h => by
    unfold chkE at h
    try dsimp only at h
    split at h
    · obtain ⟨h1, h3⟩ := and4 h
      obtain ⟨h1, h2⟩ := and4 h1
      have h1 := of_decide_eq_true h1
      exact snd_var (by rw [G.N]; exact h1) (G.vis h2) (okN_ok h3).1 (okN_ok h3).2 fun s => rfl
    · cases h
  | .bin o a b, B, X, W, e, G, h => by
    unfold chkE at h
    try dsimp only at h
    split at h
    · obtain ⟨h1, h3⟩ := and4 h
      obtain ⟨h1, h2⟩ := and4 h1
      exact snd_bin (or_bin G.hw h1) (sndE a G h2) (sndE b G h3)
    · cases h
  | .neg a, B, X, W, e, G, h => by
    unfold chkE at h
    try dsimp only at h
    split at h
    · exact snd_neg (sndE a G h)
    · cases h
  | .cmp o a b, B, X, W, e, G, h => by
    unfold chkE at h
    try dsimp only at h
    split at h
    · obtain ⟨h1, h4⟩ := and4 h
      obtain ⟨h1, h3⟩ := and4 h1
      obtain ⟨h1, h2⟩ := and4 h1
      exact snd_cmp (or_cmp G.hw G.un h1) (sndE a G h2) (sndE b G h3) (plain_behind h4)
    · cases h
  | .cmp2 o p a b d, B, X, W, e, G, h => by
    unfold chkE at h
    try dsimp only at h
    split at h
    · obtain ⟨h, h7⟩ := and4 h
      obtain ⟨h, h6⟩ := and4 h
      obtain ⟨h, h5⟩ := and4 h
      obtain ⟨h, h4⟩ := and4 h
      obtain ⟨h, h3⟩ := and4 h
      obtain ⟨h1, h2⟩ := and4 h
      exact snd_cmp2 (or_cmp G.hw G.un h1) (or_cmp G.hw G.un h2) (sndE a G h3) (sndE b G h4) (sndE d G h5) (show behindInMarks _ _ = false from plain_behind h7)
    · cases h
  | .not a, B, X, W, e, G, h => by
    unfold chkE at h
    try dsimp only at h
    split at h
    · exact snd_not (sndE a G h)
    · cases h
  | .and as, B, X, W, e, G, h => by
    unfold chkE at h
    try dsimp only at h
    split at h
    · obtain ⟨h, h3⟩ := and4 h
      obtain ⟨h1, h2⟩ := and4 h
      exact (sndL_and (sndEs as G h1) (fun z => by subst z; simp at h2) h3).snd
    · cases h
  | .or as, B, X, W, e, G, h => by
    unfold chkE at h
    try dsimp only at h
    split at h
    · obtain ⟨h, h3⟩ := and4 h
      obtain ⟨h1, h2⟩ := and4 h
      exact (sndL_or (sndEs as G h1) (fun z => by subst z; simp at h2) h3).snd
    · cases h
  | .ite k a b, B, X, W, e, G, h => by
    unfold chkE at h
    try dsimp only at h
    split at h
    · obtain ⟨h1, h3⟩ := and4 h
      obtain ⟨h1, h2⟩ := and4 h1
      exact snd_ite (sndE k G h1) (sndE a G h2) (sndE b G h3)
    · cases h
  | .idx a i, B, X, W, e, G, h => by
    unfold chkE at h
    try dsimp only at h
    split at h
    · obtain ⟨h1, h3⟩ := and4 h
      obtain ⟨h1, h2⟩ := and4 h1
      exact snd_idx G.hw G.un (sndE a G h1) (sndE i G h2) (plain_ix h3)
    · cases h
  | .slc a lo hi, B, X, W, e, G, h => by
    unfold chkE at h
    try dsimp only at h
    split at h
    · obtain ⟨h1, h3⟩ := and4 h
      obtain ⟨h1, h2⟩ := and4 h1
      exact snd_slc G.hw (sndE a G h1) (sndO lo G h2) (sndO hi G h3)
    · cases h
  | .call f as ds, B, X, W, e, G, h => by
    unfold chkE at h
    try dsimp only at h
    split at h
    · rename_i x p es pos
      obtain ⟨h, h7⟩ := and4 h
      obtain ⟨h, h6⟩ := and4 h
      obtain ⟨h, h5⟩ := and4 h
      obtain ⟨h, h4⟩ := and4 h
      obtain ⟨h, h3⟩ := and4 h
      obtain ⟨h1, h2⟩ := and4 h
      have hh : B.hot = false := by simpa using h4
      obtain ⟨ad, k, fd, ps, F, hr, hm, hk, hd⟩ := G.glob _ _ (of_decide_eq_true h3)
      obtain ⟨dvs, dus, hb, hv, hra⟩ := hd ds h5
      have ha := sndL_a G.hw (sndEs as G h6)
      cases es with
      | nil =>
        cases as with
        | nil => exact snd_call0 F (hr hh) (G.gl h1) hm hk hb hv (fun σ => passAt G.tk σ) hra (okN_ok h2).1
        | cons _ _ => cases h6
        | star _ _ => cases h6
      | cons y ys => exact snd_call F (hr hh) (G.gl h1) hm hk hb hv (fun σ => passAt G.tk σ) hra ha h7 (okN_ok h2).1
    · cases h
  | .bf b as, B, X, W, e, G, h => by
    unfold chkE at h
    try dsimp only at h
    split at h
    · obtain ⟨h, h5⟩ := and4 h
      obtain ⟨h, h4⟩ := and4 h
      obtain ⟨h, h3⟩ := and4 h
      obtain ⟨h1, h2⟩ := and4 h
      have hh : B.hot = false := by simpa using h3
      have bn := G.bltN h2
      exact snd_bf G.hw (G.calm hh) (of_decide_eq_true h1) bn.gl bn.mg (sndL_a G.hw (sndEs as G h4)) h5
    · cases h
  | .mt m a as, B, X, W, e, G, h => by
    unfold chkE at h
    try dsimp only at h
    split at h
    · rename_i o x apos es cpos
      obtain ⟨h, h9⟩ := and4 h
      obtain ⟨h, h8⟩ := and4 h
      obtain ⟨h, h7⟩ := and4 h
      obtain ⟨h, h6⟩ := and4 h
      obtain ⟨h, h5⟩ := and4 h
      obtain ⟨h, h4⟩ := and4 h
      obtain ⟨h, h3⟩ := and4 h
      obtain ⟨h1, h2⟩ := and4 h
      have ha := sndL_a G.hw (sndEs as G h4)
      cases es with
      | nil =>
        cases as with
        | nil => exact snd_mt0 G.hw (of_decide_eq_true h1) (by simpa using h9) (sndE a G h3) h5 h6
        | cons _ _ => cases h4
        | star _ _ => cases h4
      | cons y ys => exact snd_mt G.hw G.un (of_decide_eq_true h1) h2 (by simpa using h9) (sndE a G h3) ha h5 h6 h7 (of_decide_eq_true h8)
    · cases h
  | .tup as, B, X, W, e, G, h => by
    unfold chkE at h
    try dsimp only at h
    split at h
    · exact snd_tup (sndL_a G.hw (sndEs as G h))
    · cases h
  | .lst as, B, X, W, e, G, h => by
    unfold chkE at h
    try dsimp only at h
    split at h
    · exact snd_lst (sndL_a G.hw (sndEs as G h))
    · cases h
  | .dic0, B, X, W, e, G, h => by
    unfold chkE at h
    try dsimp only at h
    split at h
    · exact snd_dic0
    · cases h
  | .isi a ts, B, X, W, e, G, h => by
    unfold chkE at h
    try dsimp only at h
    split at h
    · obtain ⟨h, h6⟩ := and4 h
      obtain ⟨h, h5⟩ := and4 h
      obtain ⟨h, h4⟩ := and4 h
      obtain ⟨h, h3⟩ := and4 h
      obtain ⟨h1, h2⟩ := and4 h
      cases of_decide_eq_true h1
      split at h3
      · rename_i t ht
        cases of_decide_eq_true h3
        exact snd_isi1 G.hw (G.bltN h2) ht (G.bltN h4) (sndE a G h5) h6
      · cases h3
    · obtain ⟨h, h7⟩ := and4 h
      obtain ⟨h, h6⟩ := and4 h
      obtain ⟨h, h5⟩ := and4 h
      obtain ⟨h, h4⟩ := and4 h
      obtain ⟨h, h3⟩ := and4 h
      obtain ⟨h1, h2⟩ := and4 h
      cases of_decide_eq_true h1
      exact snd_isiT G.hw (G.bltN h2) (of_decide_eq_true h3) (fun c hc => G.bltN (List.all_eq_true.mp h4 c hc)) (of_decide_eq_true h5) (sndE a G h6) h7
    · cases h
  | .lc vs g it k e', B, X, W, e, G, h => by
    unfold chkE at h
    try dsimp only at h
    split at h
    · rename_i elt tg iter ifs z scope pos
      obtain ⟨h, h9⟩ := and4 h
      obtain ⟨h, h8⟩ := and4 h
      obtain ⟨h, h7⟩ := and4 h
      obtain ⟨h, h6⟩ := and4 h
      obtain ⟨h, h5⟩ := and4 h
      obtain ⟨h, h4⟩ := and4 h
      obtain ⟨h, h3⟩ := and4 h
      obtain ⟨h1, h2⟩ := and4 h
      have hh : B.hot = false := by simpa using h2
      cases of_decide_eq_true h1
      have ok : BlkOk X.N X.env.scope scope (ownOf B.N vs) := by rw [G.N, G.sc]; exact blkOk_by h3
      have Gb := fun (s : Shared) (H : Hp) (C : Addr) (cl : List (Str × Addr)) (fp : List Addr) => G.block hh ok.kind s H C cl fp
      have js : ∀ j ∈ g.js, j ∈ (ownOf B.N vs).map (·.2) := fun j hj => by rw [ownOf_snd]; exact of_decide_eq_true (List.all_eq_true.mp h4 j hj)
      have q := snd_lc (pos := pos) (G.calm hh) G.nd (sndW it (tg := tg) G h6) ok js (fun s H C cl fp => sndG g (Gb s H C cl fp) h7) (fun s H C cl fp => sndC k (Gb s H C cl fp) h8) (fun s H C cl fp => sndE e' (Gb s H C cl fp) h9) (plain_folded h5)
      rw [ownOf_snd] at q
      exact q
    · cases h
  | .frz a, B, X, W, e, G, h => by
    unfold chkE at h
    try dsimp only at h
    obtain ⟨h1, h2⟩ := and4 h
    exact snd_frz (sndE a G h2) h1
  | .prm a, B, X, W, e, G, h => by
    unfold chkE at h
    try dsimp only at h
    obtain ⟨h1, h2⟩ := and4 h
    exact snd_prm (sndE a G h2) h1
  | .mcall mn a as, B, X, W, e, G, h => by
    unfold chkE at h
    try dsimp only at h
    split at h
    · rename_i o x apos es cpos
      obtain ⟨h, h8⟩ := and4 h
      obtain ⟨h, h7⟩ := and4 h
      obtain ⟨h, h6⟩ := and4 h
      obtain ⟨h, h5⟩ := and4 h
      obtain ⟨h, h4⟩ := and4 h
      obtain ⟨h, h3⟩ := and4 h
      obtain ⟨h1, h2⟩ := and4 h
      have hh : B.hot = false := by simpa using h2
      cases of_decide_eq_true h1
      refine snd_mc (G.mth hh _) G.tk (sndE a G h3) (sndL_a G.hw (sndEs as G h4)) (fun z => ?_) h5 h6 (of_decide_eq_true h8) h7
      subst z
      cases as with
      | nil => rfl
      | cons _ _ => cases h4
      | star _ _ => cases h4
    · cases h
  | .make k f as ds, B, X, W, e, G, h => by
    unfold chkE at h
    try dsimp only at h
    split at h
    · rename_i x p es pos
      obtain ⟨h, h7⟩ := and4 h
      obtain ⟨h, h6⟩ := and4 h
      obtain ⟨h, h5⟩ := and4 h
      obtain ⟨h, h4⟩ := and4 h
      obtain ⟨h, h3⟩ := and4 h
      obtain ⟨h1, h2⟩ := and4 h
      have hh : B.hot = false := by simpa using h4
      obtain ⟨C, ad, n, fd, ps, hm, hca, M, F, hr, hd⟩ := G.glob _ _ (of_decide_eq_true h3)
      obtain ⟨dvs, dus, hb, hv, hra⟩ := hd ds h5
      refine snd_mk M F (hr hh) (G.gl h1) hm hb hv (fun σ => passAt G.tk σ) hca hra (sndL_a G.hw (sndEs as G h6)) (fun z => ?_) h7 (okN_ok h2).1
      subst z
      cases as with
      | nil => rfl
      | cons _ _ => cases h6
      | star _ _ => cases h6
    · cases h
  | .fld a f, B, X, W, e, G, h => by
    unfold chkE at h
    try dsimp only at h
    split at h
    · obtain ⟨h, h3⟩ := and4 h
      obtain ⟨h1, h2⟩ := and4 h
      cases of_decide_eq_true h1
      exact snd_fld G.cls (sndE a G h2) h3
    · cases h
  | .exf _ _, B, X, W, e, G, h => by cases h
  | .mkx k f a, B, X, W, e, G, h => by
    unfold chkE at h
    try dsimp only at h
    split at h
    · obtain ⟨h, h7⟩ := and4 h
      obtain ⟨h, h6⟩ := and4 h
      obtain ⟨h, h5⟩ := and4 h
      obtain ⟨h, h4⟩ := and4 h
      obtain ⟨h, h3⟩ := and4 h
      obtain ⟨h1, h2⟩ := and4 h
      have hh : B.hot = false := by simpa using h4
      have h5 := of_decide_eq_true h5
      obtain ⟨C, q1, q2, q3, q4, q5, q6, q7⟩ := G.glob _ _ (of_decide_eq_true h3)
      cases hxi : Γ.xi k with
      | none =>
        rw [hxi] at h5 q7
        cases h5
        obtain ⟨bmB, Bn, nid, iid, F, q⟩ := q7
        exact snd_mkx0 F q q1 q3 (G.gl h1) q2 (sndE a G h6) h7 (okN_ok h2).1
      | some fp =>
        obtain ⟨f', pN⟩ := fp
        rw [hxi] at h5 q7
        cases h5
        obtain ⟨fI, fd, ps, T, iC, tI, F1, hr, hb, hk⟩ := q7
        exact snd_mkxI T iC tI F1 (hr hh) hb (fun σ => passAt G.tk σ) q1 (G.gl h1) q2 (sndE a G h6) h7 (okN_ok h2).1
    · cases h
  | .mkk k f pn a, B, X, W, e, G, h => by
    unfold chkE at h
    try dsimp only at h
    split at h
    · obtain ⟨h, h7⟩ := and4 h
      obtain ⟨h, h6⟩ := and4 h
      obtain ⟨h, h5⟩ := and4 h
      obtain ⟨h, h4⟩ := and4 h
      obtain ⟨h, h3⟩ := and4 h
      obtain ⟨h1, h2⟩ := and4 h
      have hh : B.hot = false := by simpa using h4
      have h5 := of_decide_eq_true h5
      cases of_decide_eq_true h7
      obtain ⟨C, q1, q2, q3, q4, q5, q6, q7⟩ := G.glob _ _ (of_decide_eq_true h3)
      rw [h5] at q7
      obtain ⟨fI, fd, ps, T, iC, tI, F1, hr, hb, hk⟩ := q7
      exact snd_mkk T iC tI F1 (hr hh) hk (fun σ => passAt G.tk σ) q1 (G.gl h1) q2 (sndE a G h6) (okN_ok h2).1
    · cases h
  | .isx a k, B, X, W, e, G, h => by
    unfold chkE at h
    try dsimp only at h
    split at h
    · obtain ⟨h, h5⟩ := and4 h
      obtain ⟨h, h4⟩ := and4 h
      obtain ⟨h, h3⟩ := and4 h
      obtain ⟨h1, h2⟩ := and4 h
      cases of_decide_eq_true h1
      rcases Bool.or_eq_true_iff.mp h5 with h5 | h5
      · obtain ⟨h5, h8⟩ := and4 h5
        obtain ⟨h6, h7⟩ := and4 h5
        obtain ⟨C, q1, q2, q3, q4, q5, q6, q7⟩ := G.glob _ _ (of_decide_eq_true h8)
        exact snd_isx (G.bltN h2) (pe_glob (v := .ref C) (G.gl h6) q1 rfl (okN_ok h7).1) q6 (sndE a G h3) h4
      · obtain ⟨h5, h8⟩ := and4 h5
        obtain ⟨h6, h7⟩ := and4 h5
        cases of_decide_eq_true h6
        cases of_decide_eq_true h7
        have b := G.bltN h8
        exact snd_isx (G.bltN h2) (pe_bltn b.gl b.mg (v := .ty "ValueError") (u := .type "ValueError") (by decide +kernel) rfl (by decide) (by decide)) G.xve (sndE a G h3) h4
    · cases h
  | .xfl a f, B, X, W, e, G, h => by
    unfold chkE at h
    try dsimp only at h
    split at h
    · obtain ⟨h, h3⟩ := and4 h
      obtain ⟨h1, h2⟩ := and4 h
      cases of_decide_eq_true h1
      exact snd_xfv G.hw (fun k C hC hf => G.xfl k C _ hC hf) (sndE a G h2) h3
    · cases h
  | .dget a k, B, X, W, e, G, h => by
    unfold chkE at h
    try dsimp only at h
    split at h
    · obtain ⟨h, h6⟩ := and4 h
      obtain ⟨h, h5⟩ := and4 h
      obtain ⟨h, h4⟩ := and4 h
      obtain ⟨h, h3⟩ := and4 h
      obtain ⟨h1, h2⟩ := and4 h
      cases of_decide_eq_true h1
      exact snd_dget G.un (sndE a G h2) (sndE k G h3) h4 h5 h6
    · cases h
  | .dget2 a k d, B, X, W, e, G, h => by
    unfold chkE at h
    try dsimp only at h
    split at h
    · obtain ⟨h, h8⟩ := and4 h
      obtain ⟨h, h7⟩ := and4 h
      obtain ⟨h, h6⟩ := and4 h
      obtain ⟨h, h5⟩ := and4 h
      obtain ⟨h, h4⟩ := and4 h
      obtain ⟨h, h3⟩ := and4 h
      obtain ⟨h1, h2⟩ := and4 h
      cases of_decide_eq_true h1
      exact snd_dget2 G.un (sndE a G h2) (sndE k G h3) (sndE d G h4) h5 h6 h7 h8
    · cases h
theorem sndEs : ∀ (as : Es) {B : SC} {X : Cx} {W : WX} {es : List Expr}, Good Γ w c B X W → chkEs Γ as B es = true → SndL X w W c as es
  | .nil, B, X, W, es, G, h => by
    cases es with
    | nil => exact .nil
    | cons _ _ => cases h
  | .cons a as, B, X, W, es, G, h => by
    cases es with
    | nil => cases h
    | cons x xs =>
      have h : (chkE Γ a B x && chkEs Γ as B xs && notStar x) = true := h
      obtain ⟨h, h3⟩ := and4 h
      obtain ⟨h1, h2⟩ := and4 h
      exact .cons (sndE a G h1) (sndEs as G h2) h3
  | .star a as, B, X, W, es, G, h => by
    unfold chkEs at h
    try dsimp only at h
    split at h
    · obtain ⟨h1, h2⟩ := and4 h
      exact .star (sndE a G h1) (sndEs as G h2)
    · cases h
theorem sndO : ∀ (a : OE) {B : SC} {X : Cx} {W : WX} {e : Option Expr}, Good Γ w c B X W → chkO Γ a B e = true → SndO X w W e (evO c a)
  | .none, B, X, W, e, G, h => by
    cases e with
    | none => exact snd_ono
    | some _ => cases h
  | .some a, B, X, W, e, G, h => by
    cases e with
    | none => cases h
    | some e => exact snd_oso (sndE a G h)
theorem sndC : ∀ (a : OE) {B : SC} {X : Cx} {W : WX} {es : List Expr}, Good Γ w c B X W → chkC Γ a B es = true → SndC X w W es (evC c a)
  | .none, B, X, W, es, G, h => by
    unfold chkC at h
    try dsimp only at h
    split at h
    · exact snd_cno
    · cases h
  | .some a, B, X, W, es, G, h => by
    unfold chkC at h
    try dsimp only at h
    split at h
    · exact snd_cso (sndE a G h)
    · cases h
theorem sndW : ∀ (a : Wk) {B : SC} {X : Cx} {W : WX} {tg e : Expr}, Good Γ w c B X W → chkW Γ a B tg e = true → SndI X w W tg e (evIt c a)
  | .seq a, B, X, W, tg, e, G, h => by
    unfold chkW at h
    try dsimp only at h
    exact snd_seq G.hw (sndE a G h)
  | .rng1 a, B, X, W, tg, e, G, h => by
    unfold chkW at h
    try dsimp only at h
    split at h
    · obtain ⟨h, h4⟩ := and4 h
      obtain ⟨h, h3⟩ := and4 h
      obtain ⟨h1, h2⟩ := and4 h
      cases of_decide_eq_true h1
      exact snd_rng1 (G.bltN h2) (sndE a G h3) h4
    · cases h
  | .rng2 a b, B, X, W, tg, e, G, h => by
    unfold chkW at h
    try dsimp only at h
    split at h
    · obtain ⟨h, h6⟩ := and4 h
      obtain ⟨h, h5⟩ := and4 h
      obtain ⟨h, h4⟩ := and4 h
      obtain ⟨h, h3⟩ := and4 h
      obtain ⟨h1, h2⟩ := and4 h
      cases of_decide_eq_true h1
      exact snd_rng2 (G.bltN h2) (sndE a G h3) (sndE b G h5) h4 h6
    · cases h
  | .enm a, B, X, W, tg, e, G, h => by
    unfold chkW at h
    try dsimp only at h
    split at h
    · obtain ⟨h, h5⟩ := and4 h
      obtain ⟨h, h4⟩ := and4 h
      obtain ⟨h, h3⟩ := and4 h
      obtain ⟨h1, h2⟩ := and4 h
      cases of_decide_eq_true h1
      cases tg <;> first | exact absurd h3 Bool.false_ne_true | exact snd_enm G.hw (G.bltN h2) (sndE a G h4) h5
    · cases h
  | .zip a b, B, X, W, tg, e, G, h => by
    unfold chkW at h
    try dsimp only at h
    split at h
    · obtain ⟨h, h7⟩ := and4 h
      obtain ⟨h, h6⟩ := and4 h
      obtain ⟨h, h5⟩ := and4 h
      obtain ⟨h, h4⟩ := and4 h
      obtain ⟨h, h3⟩ := and4 h
      obtain ⟨h1, h2⟩ := and4 h
      cases of_decide_eq_true h1
      cases tg <;> first | exact absurd h3 Bool.false_ne_true | exact snd_zip G.hw (G.bltN h2) (sndE a G h4) (sndE b G h6) h5 h7
    · cases h
theorem sndG : ∀ (g : Tg) {B : SC} {X : Cx} {W : WX} {e : Expr}, Good Γ w c B X W → chkG Γ g B e = true → SndG X w W e g.js (evTg c g)
  | .nm i, B, X, W, e, G, h => by
    unfold chkG at h
    try dsimp only at h
    split at h
    · obtain ⟨h1, h2⟩ := and4 h
      obtain ⟨h3, h4⟩ := G.loc h2
      have h1 := of_decide_eq_true h1
      exact snd_gnm G.nd (by rw [G.N]; exact h1) h3 h4
    · cases h
  | .tp gs, B, X, W, e, G, h => by
    unfold chkG at h
    try dsimp only at h
    split at h
    · rename_i es kk pos
      obtain ⟨h, h3⟩ := and4 h
      obtain ⟨h1, h2⟩ := and4 h
      have hh : B.hot = false := by simpa using h1
      obtain ⟨q, hl⟩ := sndGs gs G h2 h3
      have z := snd_gtp (X := X) (w := w) (W := W) (k := kk) (pos := pos) G.hw (G.calm hh) q h3
      rw [hl] at z
      exact z
    · cases h
  | .ix o i, B, X, W, e, G, h => by
    unfold chkG at h
    try dsimp only at h
    split at h
    · obtain ⟨h, h3⟩ := and4 h
      obtain ⟨h1, h2⟩ := and4 h
      exact snd_gix (by have := G.un; omega) (sndE o G h1) (sndE i G h2) h3
    · cases h
  | .fd o f, B, X, W, e, G, h => by
    unfold chkG at h
    try dsimp only at h
    split at h
    · obtain ⟨h1, h2⟩ := and4 h
      cases of_decide_eq_true h1
      exact snd_gfd G.cls (sndE o G h2)
    · cases h
theorem sndGs : ∀ (gs : Tgs) {B : SC} {X : Cx} {W : WX} {es : List Expr}, Good Γ w c B X W → chkGs Γ gs B es = true → es.all notStar = true → SndGs X w W es gs.js (evTgs c gs) ∧ es.length = gs.len
  | .nil, B, X, W, es, G, h, hn => by
    cases es with
    | nil => exact ⟨⟨PGs_imp snd_gnil.pgs fun vs σ H Q ⟨g0, m, s, as, r, e, x, q⟩ => ⟨g0, m, s, as, r, e, x, by cases as <;> exact q⟩⟩, rfl⟩
    | cons _ _ => cases h
  | .cons g gs, B, X, W, es, G, h, hn => by
    cases es with
    | nil => cases h
    | cons x xs =>
      have h : (chkG Γ g B x && chkGs Γ gs B xs) = true := h
      obtain ⟨h1, h2⟩ := and4 h
      simp only [List.all_cons, Bool.and_eq_true] at hn
      obtain ⟨q, hl⟩ := sndGs gs G h2 hn.2
      exact ⟨⟨PGs_imp (snd_gcons (sndG g G h1) q hn.1).pgs fun vs σ H Q ⟨g0, m, s, as, r, e, x, q⟩ => ⟨g0, m, s, as, r, e, x, by cases as <;> exact q⟩⟩, by show xs.length + 1 = gs.len + 1; rw [hl]⟩
end
end
end CE
end CEu
section CEv
set_option maxRecDepth 100000
set_option maxHeartbeats 4000000
namespace CE
open PySem PySem.Spec PyProof.Rows L2
theorem blockK {env : Env} (hk : env.scope.kind = .function) : env.blockKind = .function := by unfold Env.blockKind; rw [hk]; rfl
theorem swap_par {x y : Str} {px py pt pt2 : Pos} {kt k2 : Nat} {a b : Expr} {env : Env} (hk : env.scope.kind = .function) (hx : env.scope.names.lookup x = some .local) (hy : env.scope.names.lookup y = some .local) (hxy : x ≠ y) (hl : (px.line == py.line) = true)
    (hsa : notStar a = true) (hsb : notStar b = true) (hf : (foldedForSure 8 a && foldedForSure 8 b) = false) (hc : (constantsAlone 8 a && constantsAlone 8 b) = false) :
    swappedStores [.Tuple [.Name x px, .Name y py] kt pt] (.Tuple [a, b] k2 pt2) env = pure (some [x, y]) := by
  have hb := blockK hk
  have kx : env.kindOf x = some .local := hx
  have ky : env.kindOf y = some .local := hy
  have hl2 : (py.line == px.line) = true := by rw [beq_iff_eq] at hl ⊢; exact hl.symm
  have he : [x, y].eraseDups = [x, y] := by
    rw [List.eraseDups_cons]
    have : ([y].filter fun b => !b == x) = [y] := by simp [Ne.symm hxy]
    rw [this]
    rfl
  unfold swappedStores
  simp only [List.length_cons, List.length_nil, hb, List.head?_cons, Option.map_some, Expr.pos, Option.getD_some, List.filterMap_cons, List.filterMap_nil, kx, ky, hl2, he, List.all_cons, List.all_nil, Bool.and_true, hf, hc]
  simp
  rw [if_neg, he]
  · rfl
  · intro h
    rcases h with h | h
    · cases a <;> first | exact absurd h Bool.false_ne_true | cases hsa
    · cases b <;> first | exact absurd h Bool.false_ne_true | cases hsb
theorem swap_par3 {x y z : Str} {px py pz pt pt2 : Pos} {kt k2 : Nat} {a b c : Expr} {env : Env} (hk : env.scope.kind = .function) (hx : env.scope.names.lookup x = some .local) (hy : env.scope.names.lookup y = some .local) (hz : env.scope.names.lookup z = some .local) (hxy : x ≠ y) (hxz : x ≠ z) (hyz : y ≠ z)
    (hl : (px.line == py.line) = true) (hl3 : (px.line == pz.line) = true) (hsa : notStar a = true) (hsb : notStar b = true) (hsc : notStar c = true) (hf : (foldedForSure 8 a && (foldedForSure 8 b && foldedForSure 8 c)) = false) (hc : (constantsAlone 8 a && (constantsAlone 8 b && constantsAlone 8 c)) = false) :
    swappedStores [.Tuple [.Name x px, .Name y py, .Name z pz] kt pt] (.Tuple [a, b, c] k2 pt2) env = pure (some [x, y, z]) := by
  have hb := blockK hk
  have kx : env.kindOf x = some .local := hx
  have ky : env.kindOf y = some .local := hy
  have kz : env.kindOf z = some .local := hz
  have hl2 : (py.line == px.line) = true := by rw [beq_iff_eq] at hl ⊢; exact hl.symm
  have hl4 : (pz.line == px.line) = true := by rw [beq_iff_eq] at hl3 ⊢; exact hl3.symm
  have he : [x, y, z].eraseDups = [x, y, z] := by
    rw [List.eraseDups_cons]
    have : ([y, z].filter fun b => !b == x) = [y, z] := by simp [Ne.symm hxy, Ne.symm hxz]
    rw [this, List.eraseDups_cons]
    have : ([z].filter fun b => !b == y) = [z] := by simp [Ne.symm hyz]
    rw [this]
    rfl
  unfold swappedStores
  simp only [List.length_cons, List.length_nil, hb, List.head?_cons, Option.map_some, Expr.pos, Option.getD_some, List.filterMap_cons, List.filterMap_nil, kx, ky, kz, hl2, hl4, he, List.all_cons, List.all_nil, Bool.and_true, hf, hc]
  simp
  rw [if_neg, he]
  · rfl
  · intro h
    rcases h with h | h | h
    · cases a <;> first | exact absurd h Bool.false_ne_true | cases hsa
    · cases b <;> first | exact absurd h Bool.false_ne_true | cases hsb
    · cases c <;> first | exact absurd h Bool.false_ne_true | cases hsc
theorem swaps_dec {elt : Expr} {gs : List Comprehension} {scope : Scope} {pos py : Pos} {y : Str} {l : Nat} {env : Env} (B : SC) (hk : env.scope.kind = .function) (hsc : env.scope = B.sc) : swapsWith (.ListComp elt gs scope pos) (some (.Name y py)) l env = pure (swapC B y py (.ListComp elt gs scope pos)) := by
  have hb := blockK hk
  unfold swapsWith swapC
  have kk : env.kindOf y = B.sc.names.lookup y := by rw [← hsc]; rfl
  simp only [hb, kk, Expr.pos]
  have e : (B.sc.names.lookup y == some NameKind.local) = decide (B.sc.names.lookup y = some NameKind.local) := by
    cases B.sc.names.lookup y with
    | none => rfl
    | some k => cases k <;> rfl
  rw [e]
  rfl
theorem Good.try_ {Γ : GT} {w : Wd} {c : Cfg} {B : SC} {X : Cx} {W W' : WX} (G : Good Γ w c B X W) (hb : B.blk = false) {pn : List (Addr × Obj)} {xe : Value → Shared → Prop} (t : Takes (X.tr pn xe) W') (p : PassesOwn (model X.prog X.w) X.A X.env xe) : Good Γ w c B (X.tr pn xe) W' where
  hw := G.hw
  un := G.un
  nd := G.nd
  N := G.N
  sc := G.sc
  kind := G.kind
  fn := G.fn
  calm := G.calm
  own := fun _ => p
  stk := fun z => G.stk z
  frm := G.frm
  tk := t
  glob := fun x g e => by
    have q := G.glob x g e
    cases g with
    | fn i => exact q
    | val a => exact q
    | exc k => obtain ⟨C, q1, q2, q3, q4, q5, q6, q7⟩ := q; exact ⟨C, q1, q2, q3, q4, q5, q6, q7.to rfl rfl rfl rfl rfl fun z => ⟨z, rfl⟩⟩
    | cls k i => exact q
    | blt => exact q
  cls := G.cls
  xfl := G.xfl
  xve := G.xve
  mth := G.mth
theorem Good.hotS {Γ : GT} {w : Wd} {c : Cfg} {B : SC} {X : Cx} {W : WX} (G : Good Γ w c B X W) (hb : B.blk = false) (a : Addr) (pn : List (Addr × Obj)) : Good Γ w c ⟨B.N, B.sc, B.fn, true, true⟩ (X.suite a pn) W0 where
  hw := G.hw
  un := by
    show (X.A.mark (some (.ref a))).units + 160 < cLine
    have h := G.un
    simp only [Around.mark_units]
    exact h
  nd := G.nd
  N := G.N
  sc := G.sc
  kind := G.kind
  fn := G.fn
  calm := fun z => nomatch z
  own := fun z => nomatch z
  stk := fun z => nomatch z
  frm := fun z => nomatch z
  tk := fun u s' x => by
    obtain ⟨_, _, _, _, _, _, _, _, _, _, _, _, _, _, _, _, w⟩ := x
    exact w
  glob := fun x g e => by
    have q := G.glob x g e
    cases g with
    | fn i => obtain ⟨a, k, fd, ps, F, hr, r⟩ := q; exact ⟨a, k, fd, ps, F, (fun z => nomatch z), r⟩
    | val a => exact q
    | exc k => obtain ⟨C, q1, q2, q3, q4, q5, q6, q7⟩ := q; exact ⟨C, q1, q2, q3, q4, q5, q6, XIn.to (X := X) (X' := X.suite a pn) (hot' := true) rfl rfl rfl rfl rfl (fun z => absurd z (by decide)) q7⟩
    | cls k i => obtain ⟨C, a, n, fd, ps, q1, q2, q3, F, hr, r⟩ := q; exact ⟨C, a, n, fd, ps, q1, q2, q3, F, (fun z => nomatch z), r⟩
    | blt => exact q
  cls := G.cls
  xfl := G.xfl
  xve := G.xve
  mth := fun z => nomatch z
section
variable {X : Cx} {w : Wd} {W : WX} {pos : Pos}
theorem snd_augF {fl : Str → Str → Bool} {o e : Expr} {f : Str} {tpos : Pos} {op : Operator} {bo : BinO} {fo fe : S → R T} (hc : ClsOk X w fl) (ho : Snd X w W o fo) (he : Snd X w W e fe) {rd : V → V → Hp → VK → Prop} {g : Int → Int → Int} (hop : InOp X op rd) (hrd : ∀ i j H Q, Q (.int (g i j)) H → rd (.int i) (.int j) H Q) (hg : ∀ j k, augI bo j k = some (g j k)) :
    SndS X w W (.AugAssign (.Attribute o f tpos) op e pos) (fun s => (fo s).stm fun x s1 => match instOf s1 x with
    | some (k, fs) => if fl k f then match fs.lookup f with
      | some (.int j) => (fe s1).stm fun u s2 => match asInt u with
        | some i => match augI bo j i with
          | some r => if (instOf s2 x).map (·.1) = some k then match setF fl s2 x f (.int r) with
            | some s3 => .nx s3
            | none => .stuck else .stuck
          | none => .stuck
        | none => .stuck
      | _ => .stuck else .stuck
    | none => .stuck) := by
  refine ⟨(ps_fldaug ho.pe he.pe hop).imp fun D σ H ⟨m, s, r, h⟩ => ⟨m, s, r, (PQ.stm (rr := rT w) h).mono fun v H1 ⟨x, s1, m1, _, r1, e1, x1, h1⟩ => ?_⟩⟩
  split at h1
  · rename_i k fs hi
    split at h1
    · rename_i hf
      split at h1
      · rename_i j hj
        obtain ⟨l, p, C, dx, fs', ex, _, hml, rfl, hca, hp, rf⟩ := inst_of r1 x1 hi
        obtain ⟨y, hy, ry⟩ := rf.lookup.1 _ hj
        obtain ⟨c1, c2⟩ := hc k C f hca hf
        refine ⟨p, C, dx, fs', y, rfl, hp, c1, c2, hy, m1, s1, r1, (PQ.stm (rr := rT w) (h1.at e1)).mono fun u H2 ⟨t, s2, m2, hfe, r2, e2, x2, h2⟩ => ?_⟩
        split at h2
        · rename_i i hi2
          rw [hg] at h2
          dsimp only at h2
          cases ry
          rw [int_of x2 hi2]
          refine hrd _ _ _ _ ?_
          split at h2
          · rename_i hk2
            split at h2
            · rename_i s3 hs
              have x1' := x1.ext r1 e2
              obtain ⟨k2, p2, C2, dx2, fs2, hk3, ev2, hca2, hf2, hp2, hl2, r3, e3, b3⟩ := setF_of r2 x1' (.int _) hs
              cases ev2
              rw [hk2] at hk3
              cases hk3
              rw [hca] at hca2
              cases hca2
              exact ⟨dx2, fs2, hp2, hl2, h2 m2 σ _ r3 (e2.trans e3)⟩
            · exact h2.elim
          · exact h2.elim
        · exact h2.elim
      · exact h1.elim
    · exact h1.elim
  · exact h1.elim
theorem snd_aug {i : Nat} {x : Str} {e : Expr} {op : Operator} {o : BinO} {f : S → R T} {pos' : Pos} (hN : X.N.Nodup) (hi : X.N[i]? = some x) (hx : L2.Loc X.env.scope x) (hf : X.fn x = true ∨ X.env.scope.names.lookup x = some .local) (he : Snd X w W e f)
    {g : Int → Int → Int} (hp : PIp X op (ipI g)) (ho : ∀ j k, augI o j k = some (g j k)) : SndS X w W (.AugAssign (.Name x pos') op e pos) (fun s => match s.slot i with
      | some (.v (.int j)) => (f s).stm fun u s2 => match asInt u with
        | some k => match augI o j k with
          | some r => .nx (s2.put i (.v (.int r)))
          | none => .stuck
        | none => .stuck
      | _ => .stuck) := by
  refine ⟨⟨fun pins s0 σ H D I ⟨m, s, r, h⟩ => (ps_aug (pos := pos) hN hi hx he.pe hp hf).run pins s0 σ H D I ?_⟩⟩
  dsimp only at h
  split at h
  · rename_i j hc
    obtain ⟨v, ev, z⟩ := r.slot i _ hc
    have z : RA w m H (.int j) v := z
    refine ⟨v, ev, m, s, r, (PQ.stm (rr := rT w) h).mono fun y H1 ⟨t, s1, m1, _, r1, e1, x1, h1⟩ => ?_⟩
    split at h1
    · rename_i k hk
      rw [ho] at h1
      dsimp only at h1
      cases z
      refine ⟨j, k, rfl, int_of x1 hk, ?_⟩
      have hlt : i < s1.env.length := by
        have h2 := r1.len
        have h3 := I.len
        have h4 := (List.getElem?_eq_some_iff.mp hi).1
        omega
      exact h1 m1 _ H1 (r1.put hlt (.int _) (fun z => nomatch z) rfl) (e1.put hlt (fun z => nomatch z) rfl)
    · exact h1.elim
  · exact h.elim
end
section
variable {Γ : GT} {w : Wd} {c : Cfg}
theorem sndS_asg {g : Tg} {a : E} {B : SC} {X : Cx} {W : WX} {st : Stmt} (G : Good Γ w c B X W) (h : chkS Γ (.asg g a) B st = true) : SndS X w W st (evS c (.asg g a)) := by
  unfold chkS at h
  try dsimp only at h
  split at h
  · rename_i tg e pos
    obtain ⟨h, h3⟩ := and4 h
    obtain ⟨h1, h2⟩ := and4 h
    split at h3
    · rename_i y py _
      cases g with
      | nm i =>
        unfold chkG at h1
        dsimp only at h1
        obtain ⟨h4, h5⟩ := and4 h1
        obtain ⟨h6, h7⟩ := G.loc h5
        have hi : X.N[i]? = some y := by rw [G.N]; exact of_decide_eq_true h4
        split at h3
        · rename_i vs gg it kk e' _
          cases e with
          | ListComp elt gs scope lpos =>
            have sw := swaps_dec (elt := elt) (gs := gs) (scope := scope) (pos := lpos) (py := py) (y := y) (l := pos.line) B G.kind G.sc
            cases hsw : swapC B y py (.ListComp elt gs scope lpos) with
            | false => rw [hsw] at sw; exact snd_set G.nd hi h6 h7 (sndE _ G h2) sw
            | true =>
              rw [hsw] at sw
              have hyl : X.env.scope.names.lookup y = some .local := by
                unfold swapC at hsw
                simp only [Bool.and_eq_true] at hsw
                rw [G.sc]
                exact of_decide_eq_true hsw.1.1
              unfold chkE at h2
              try dsimp only at h2
              split at h2
              · rename_i elt2 tg2 iter2 ifs2 z2 scope2 pos2 heq
                cases heq
                obtain ⟨h, k9⟩ := and4 h2
                obtain ⟨h, k8⟩ := and4 h
                obtain ⟨h, k7⟩ := and4 h
                obtain ⟨h, k6⟩ := and4 h
                obtain ⟨h, k5⟩ := and4 h
                obtain ⟨h, k4⟩ := and4 h
                obtain ⟨h, k3⟩ := and4 h
                obtain ⟨k1, k2⟩ := and4 h
                have hh : B.hot = false := by simpa using k2
                cases of_decide_eq_true k1
                have ok : BlkOk X.N X.env.scope scope (ownOf B.N vs) := by rw [G.N, G.sc]; exact blkOk_by k3
                have Gb := fun (s : Shared) (H : Hp) (C : Addr) (cl : List (Str × Addr)) (fp : List Addr) => G.block hh ok.kind s H C cl fp
                have js : ∀ j ∈ gg.js, j ∈ (ownOf B.N vs).map (·.2) := fun j hj => by rw [ownOf_snd]; exact of_decide_eq_true (List.all_eq_true.mp k4 j hj)
                have q := snd_setLc (pos := pos) (i := i) (y := y) (py := py) (lpos := lpos) (G.calm hh) G.nd hi hyl sw (sndW it (tg := tg2) G k6) ok js (fun s H C cl fp => sndG gg (Gb s H C cl fp) k7) (fun s H C cl fp => sndC kk (Gb s H C cl fp) k8) (fun s H C cl fp => sndE e' (Gb s H C cl fp) k9) (plain_folded k5)
                rw [ownOf_snd] at q
                exact q
              · cases h2
          | _ => cases h3
        · exact snd_set G.nd hi h6 h7 (sndE a G h2) (swaps_of h3)
      | _ => cases h1
    · rename_i es kk tpos
      refine snd_asgG (sndE a G h2) (sndG g G h1) ?_ ?_ rfl
      · cases e <;> rfl
      · cases e <;> first | rfl | cases h3
    · rename_i o i spos
      refine snd_asgG (sndE a G h2) (sndG g G h1) ?_ ?_ rfl
      · cases e <;> rfl
      · cases e <;> rfl
    · refine snd_asgG (sndE a G h2) (sndG g G h1) ?_ ?_ rfl
      · cases e <;> rfl
      · cases e <;> rfl
    · cases h3
  · cases h

theorem sndS_par {i j : Nat} {a b : E} {B : SC} {X : Cx} {W : WX} {st : Stmt} (G : Good Γ w c B X W) (h : chkS Γ (.par i j a b) B st = true) : SndS X w W st (evS c (.par i j a b)) := by
  unfold chkS at h
  try dsimp only at h
  split at h
  · rename_i x px y py kt pt e e2 k2 pt2 pos
    obtain ⟨h, k13⟩ := and4 h
    obtain ⟨h, k12⟩ := and4 h
    obtain ⟨h, k11⟩ := and4 h
    obtain ⟨h, k10⟩ := and4 h
    obtain ⟨h, k9⟩ := and4 h
    obtain ⟨h, k8⟩ := and4 h
    obtain ⟨h, k7⟩ := and4 h
    obtain ⟨h, k6⟩ := and4 h
    obtain ⟨h, k5⟩ := and4 h
    obtain ⟨h, k4⟩ := and4 h
    obtain ⟨h, k3⟩ := and4 h
    obtain ⟨k1, k2⟩ := and4 h
    have hh : B.hot = false := by simpa using k1
    have hi : X.N[i]? = some x := by rw [G.N]; exact of_decide_eq_true k2
    have hj : X.N[j]? = some y := by rw [G.N]; exact of_decide_eq_true k3
    have hij : i ≠ j := of_decide_eq_true k4
    have hx : X.env.scope.names.lookup x = some .local := by rw [G.sc]; exact of_decide_eq_true k5
    have hy : X.env.scope.names.lookup y = some .local := by rw [G.sc]; exact of_decide_eq_true k6
    have hxy : x ≠ y := fun z => hij (nodup_ix G.nd hi (z ▸ hj))
    exact snd_par (G.calm hh) G.nd hi hj hij hx hy (sndE a G k8) (sndE b G k9) k10 k11 (swap_par G.kind hx hy hxy k7 k10 k11 (by simpa only [Bool.not_eq_true'] using k12) (by simpa only [Bool.not_eq_true'] using k13))
  · cases h

theorem sndS_par3 {i j l : Nat} {a b d : E} {B : SC} {X : Cx} {W : WX} {st : Stmt} (G : Good Γ w c B X W) (h : chkS Γ (.par3 i j l a b d) B st = true) : SndS X w W st (evS c (.par3 i j l a b d)) := by
  unfold chkS at h
  try dsimp only at h
  split at h
  · rename_i x px y py z pz kt pt e e2 e3 k2 pt2 pos
    obtain ⟨h, q20⟩ := and4 h
    obtain ⟨h, q19⟩ := and4 h
    obtain ⟨h, q18⟩ := and4 h
    obtain ⟨h, q17⟩ := and4 h
    obtain ⟨h, q16⟩ := and4 h
    obtain ⟨h, q15⟩ := and4 h
    obtain ⟨h, q14⟩ := and4 h
    obtain ⟨h, q13⟩ := and4 h
    obtain ⟨h, q12⟩ := and4 h
    obtain ⟨h, q11⟩ := and4 h
    obtain ⟨h, q10⟩ := and4 h
    obtain ⟨h, q9⟩ := and4 h
    obtain ⟨h, q8⟩ := and4 h
    obtain ⟨h, q7⟩ := and4 h
    obtain ⟨h, q6⟩ := and4 h
    obtain ⟨h, q5⟩ := and4 h
    obtain ⟨h, q4⟩ := and4 h
    obtain ⟨h, q3⟩ := and4 h
    obtain ⟨q1, q2⟩ := and4 h
    have hh : B.hot = false := by simpa using q1
    have hi : X.N[i]? = some x := by rw [G.N]; exact of_decide_eq_true q2
    have hj : X.N[j]? = some y := by rw [G.N]; exact of_decide_eq_true q3
    have hl : X.N[l]? = some z := by rw [G.N]; exact of_decide_eq_true q4
    have hij : i ≠ j := of_decide_eq_true q5
    have hil : i ≠ l := of_decide_eq_true q6
    have hjl : j ≠ l := of_decide_eq_true q7
    have hx : X.env.scope.names.lookup x = some .local := by rw [G.sc]; exact of_decide_eq_true q8
    have hy : X.env.scope.names.lookup y = some .local := by rw [G.sc]; exact of_decide_eq_true q9
    have hz : X.env.scope.names.lookup z = some .local := by rw [G.sc]; exact of_decide_eq_true q10
    exact snd_par3 (G.calm hh) G.nd hi hj hl hij hil hjl hx hy hz (sndE a G q13) (sndE b G q14) (sndE d G q15) q16 q17 q18
      (swap_par3 G.kind hx hy hz (fun z => hij (nodup_ix G.nd hi (z ▸ hj))) (fun z => hil (nodup_ix G.nd hi (z ▸ hl))) (fun z => hjl (nodup_ix G.nd hj (z ▸ hl))) q11 q12 q16 q17 q18 (by simpa only [Bool.not_eq_true'] using q19) (by simpa only [Bool.not_eq_true'] using q20))
  · cases h
theorem sndS_aug {i : Nat} {o : BinO} {a : E} {B : SC} {X : Cx} {W : WX} {st : Stmt} (G : Good Γ w c B X W) (h : chkS Γ (.aug i o a) B st = true) : SndS X w W st (evS c (.aug i o a)) := by
  unfold chkS at h
  try dsimp only at h
  split at h
  · obtain ⟨h, h4⟩ := and4 h
    obtain ⟨h, h3⟩ := and4 h
    obtain ⟨h1, h2⟩ := and4 h
    obtain ⟨h5, h6⟩ := G.loc h2
    have h1 := of_decide_eq_true h1
    split at h3
    · exact snd_aug (o := .add) (g := fun i j => i + j) G.nd (by rw [G.N]; exact h1) h5 h6 (sndE a G h4) ip_add fun _ _ => rfl
    · exact snd_aug (o := .sub) (g := fun i j => i - j) G.nd (by rw [G.N]; exact h1) h5 h6 (sndE a G h4) ip_sub fun _ _ => rfl
    · cases h3
  · cases h

theorem sndS_augF {a : E} {f : Str} {o : BinO} {b : E} {B : SC} {X : Cx} {W : WX} {st : Stmt} (G : Good Γ w c B X W) (h : chkS Γ (.augF a f o b) B st = true) : SndS X w W st (evS c (.augF a f o b)) := by
  unfold chkS at h
  try dsimp only at h
  split at h
  · obtain ⟨h, h4⟩ := and4 h
    obtain ⟨h, h3⟩ := and4 h
    obtain ⟨h1, h2⟩ := and4 h
    cases of_decide_eq_true h1
    split at h2
    · exact snd_augF (bo := .add) (g := fun i j => i + j) G.cls (sndE a G h3) (sndE b G h4) in_add (fun i j H Q q => ⟨i, j, rfl, rfl, q⟩) fun _ _ => rfl
    · exact snd_augF (bo := .sub) (g := fun i j => i - j) G.cls (sndE a G h3) (sndE b G h4) in_sub (fun i j H Q q => ⟨i, j, rfl, rfl, q⟩) fun _ _ => rfl
    · cases h2
  · cases h
theorem sndS_ex {a : E} {B : SC} {X : Cx} {W : WX} {st : Stmt} (G : Good Γ w c B X W) (h : chkS Γ (.ex a) B st = true) : SndS X w W st (evS c (.ex a)) := by
  unfold chkS at h
  try dsimp only at h
  split at h
  · obtain ⟨h1, h2⟩ := and4 h
    exact snd_ex (sndE a G h1) h2
  · cases h

theorem sndS_rt {a : E} {B : SC} {X : Cx} {W : WX} {st : Stmt} (G : Good Γ w c B X W) (h : chkS Γ (.rt a) B st = true) : SndS X w W st (evS c (.rt a)) := by
  unfold chkS at h
  try dsimp only at h
  split at h
  · exact snd_rt (sndE a G h)
  · cases h

theorem sndS_rtn  {B : SC} {X : Cx} {W : WX} {st : Stmt} (G : Good Γ w c B X W) (h : chkS Γ (.rtn) B st = true) : SndS X w W st (evS c (.rtn)) := by
  unfold chkS at h
  try dsimp only at h
  split at h
  · exact snd_rtn
  · cases h

theorem sndS_raise {k : Str} {f : Option Str} {a : E} {B : SC} {X : Cx} {W : WX} {st : Stmt} (G : Good Γ w c B X W) (h : chkS Γ (.raise k f a) B st = true) : SndS X w W st (evS c (.raise k f a)) := by
  unfold chkS at h
  try dsimp only at h
  split at h
  · rename_i x p e cpos pos
    obtain ⟨h, h7⟩ := and4 h
    obtain ⟨h, h6⟩ := and4 h
    obtain ⟨h, h8⟩ := and4 h
    obtain ⟨h, h5⟩ := and4 h
    obtain ⟨h, h4⟩ := and4 h
    obtain ⟨h, h3⟩ := and4 h
    obtain ⟨h1, h2⟩ := and4 h
    have hh : B.hot = false := by simpa using h1
    cases of_decide_eq_true h5
    obtain ⟨C, gC, hca, kC, rs, _, _, q7⟩ := G.glob _ _ (of_decide_eq_true h4)
    rw [of_decide_eq_true h8] at q7
    obtain ⟨bmB, Bn, nid, iid, F, q⟩ := q7
    have hst : ([e].all notStar) = true := by rw [List.all_cons, h7] <;> rfl
    have hA := snd_acons (sndE a G h6) snd_anil (star_cons h7)
    have z := snd_raise0 (k := k) (p := p) (cpos := cpos) (pos := pos) (G.calm hh) G.tk F q gC kC rs (G.gl h2) hca hA hst (okN_ok h3).1 (by simp) (fun s ts s1 e => by
      obtain ⟨t, s2, e1, e2⟩ := R.bind_ok e
      cases e2
      rfl)
    exact ⟨z.ps.imp fun D σ H ⟨m, s, r, hq⟩ => ⟨m, s, r, by
      have hq : PQ w W m s σ H ((evE c a s).stm fun t s1 => .exc k [] s1) D := hq
      show PQ w W m s σ H (((evE c a s).bind fun t s1 => (R.ok [] s1).bind fun ts s2 => R.ok (t :: ts) s2).stm fun _ s1 => .exc k [] s1) D
      cases e : evE c a s with
      | ok t s1 => rw [e] at hq; exact hq
      | exc c1 f1 s1 => rw [e] at hq; exact hq
      | stuck => rw [e] at hq; exact hq.elim⟩⟩
  · cases h

theorem sndS_bk  {B : SC} {X : Cx} {W : WX} {st : Stmt} (G : Good Γ w c B X W) (h : chkS Γ (.bk) B st = true) : SndS X w W st (evS c (.bk)) := by
  unfold chkS at h
  try dsimp only at h
  split at h
  · exact snd_bk
  · cases h

theorem sndS_ct  {B : SC} {X : Cx} {W : WX} {st : Stmt} (G : Good Γ w c B X W) (h : chkS Γ (.ct) B st = true) : SndS X w W st (evS c (.ct)) := by
  unfold chkS at h
  try dsimp only at h
  split at h
  · exact snd_ct
  · cases h

theorem sndS_pass  {B : SC} {X : Cx} {W : WX} {st : Stmt} (G : Good Γ w c B X W) (h : chkS Γ (.pass) B st = true) : SndS X w W st (evS c (.pass)) := by
  unfold chkS at h
  try dsimp only at h
  split at h
  · exact snd_pass
  · exact snd_doc
  · cases h
mutual
theorem sndS : ∀ (a : Sm) {B : SC} {X : Cx} {W : WX} {st : Stmt}, Good Γ w c B X W → B.blk = false ∨ B.hot = true → chkS Γ a B st = true → SndS X w W st (evS c a)
  | .asg g a, B, X, W, st, G, hb, h => sndS_asg G h
  | .par i j a b, B, X, W, st, G, hb, h => sndS_par G h
  | .par3 i j l a b d, B, X, W, st, G, hb, h => sndS_par3 G h
  | .aug i o a, B, X, W, st, G, hb, h => sndS_aug G h
  | .augF a f o b, B, X, W, st, G, hb, h => sndS_augF G h
  | .ex a, B, X, W, st, G, hb, h => sndS_ex G h
  | .rt a, B, X, W, st, G, hb, h => sndS_rt G h
  | .rtn, B, X, W, st, G, hb, h => sndS_rtn G h
  | .ife k a b, B, X, W, st, G, hb, h => by
    unfold chkS at h
    try dsimp only at h
    split at h
    · obtain ⟨h, h3⟩ := and4 h
      obtain ⟨h1, h2⟩ := and4 h
      exact snd_if (sndE k G h1) (sndSs a G hb h2) (sndSs b G hb h3)
    · cases h
  | .for g it b, B, X, W, st, G, hb, h => by
    unfold chkS at h
    try dsimp only at h
    split at h
    · obtain ⟨h, h5⟩ := and4 h
      obtain ⟨h, h4⟩ := and4 h
      obtain ⟨h, h3⟩ := and4 h
      obtain ⟨h1, h2⟩ := and4 h
      have hh : B.hot = false := by simpa using h1
      have hbk : B.blk = false := hb.resolve_right (by rw [hh]; exact Bool.false_ne_true)
      exact snd_for (G.own hbk) (G.calm hh) (sndW it G h3) (sndG g G h2) (sndSs b G hb h5) (plain_folded h4)
    · cases h
  | .whl k b, B, X, W, st, G, hb, h => by
    unfold chkS at h
    try dsimp only at h
    split at h
    · obtain ⟨h, h3⟩ := and4 h
      obtain ⟨h1, h2⟩ := and4 h
      have hh : B.hot = false := by simpa using h1
      have hbk : B.blk = false := hb.resolve_right (by rw [hh]; exact Bool.false_ne_true)
      exact snd_whl (G.own hbk) (sndE k G h2) (sndSs b G hb h3)
    · cases h
  | .raise k f a, B, X, W, st, G, hb, h => sndS_raise G h
  | .tryx b k n hd, B, X, W, st, G, hb, h => by
    unfold chkS at h
    try dsimp only at h
    split at h
    · rename_i body x np h0 hs0 pos' pos
      obtain ⟨h, h7⟩ := and4 h
      obtain ⟨h, h6⟩ := and4 h
      obtain ⟨h, h5⟩ := and4 h
      obtain ⟨h, h4⟩ := and4 h
      obtain ⟨h, h3⟩ := and4 h
      obtain ⟨h1, h2⟩ := and4 h
      have hh : B.hot = false := by simpa using h1
      have hbk : B.blk = false := hb.resolve_right (by rw [hh]; exact Bool.false_ne_true)
      cases of_decide_eq_true h2
      obtain ⟨C, gC, hca, kC, rs, hsub, _, _⟩ := G.glob _ _ (of_decide_eq_true h5)
      exact snd_try (k := k) (sub := c.sub) (G.stk hbk) (G.frm hbk) ⟨G.gl h3, (okN_ok h4).1, .inl gC⟩ G.tk hsub (fun W' pn xe t p => sndSs b (G.try_ hbk t p) hb h6) (fun a oe cls d pn z v => sndSs hd (G.hotS hbk a ((a, oe) :: pn)) (.inr rfl) h7)
    · cases h
  | .bk, B, X, W, st, G, hb, h => sndS_bk G h
  | .ct, B, X, W, st, G, hb, h => sndS_ct G h
  | .pass, B, X, W, st, G, hb, h => sndS_pass G h
  | .mtch a cs, B, X, W, st, G, hb, h => by
    unfold chkS at h
    try dsimp only at h
    split at h
    · obtain ⟨h1, h2⟩ := and4 h
      exact snd_mtch (sndE a G h1) (sndCs cs G hb h2)
    · cases h
theorem sndCs : ∀ (cs : Cs) {B : SC} {X : Cx} {W : WX} {ms : List MatchCase}, Good Γ w c B X W → B.blk = false ∨ B.hot = true → chkCs Γ cs B ms = true → SndM X w W ms (evCs c cs)
  | .nil, B, X, W, ms, G, hb, h => by
    cases ms with
    | nil => exact snd_mnil
    | cons _ _ => cases h
  | .any b, B, X, W, ms, G, hb, h => by
    unfold chkCs at h
    try dsimp only at h
    split at h
    · exact snd_many (sndSs b G hb h)
    · cases h
  | .cons p b cs, B, X, W, ms, G, hb, h => by
    unfold chkCs at h
    try dsimp only at h
    split at h
    · obtain ⟨h, h3⟩ := and4 h
      obtain ⟨h1, h2⟩ := and4 h
      exact snd_mcons h1 (sndSs b G hb h2) (sndCs cs G hb h3)
    · cases h
theorem sndSs : ∀ (as : Sms) {B : SC} {X : Cx} {W : WX} {st : List Stmt}, Good Γ w c B X W → B.blk = false ∨ B.hot = true → chkSs Γ as B st = true → SndSs X w W st (evSs c as)
  | .nil, B, X, W, st, G, hb, h => by
    cases st with
    | nil => exact snd_snil
    | cons _ _ => cases h
  | .cons a as, B, X, W, st, G, hb, h => by
    cases st with
    | nil => cases h
    | cons x xs =>
      have h : (chkS Γ a B x && chkSs Γ as B xs) = true := h
      obtain ⟨h1, h2⟩ := and4 h
      exact snd_scons (sndS a G hb h1) (sndSs as G hb h2)
end
end
end CE
end CEv
section CEw
set_option maxRecDepth 100000
set_option maxHeartbeats 4000000
namespace CE
open PySem PySem.Spec PyProof.Rows L2
section
variable {w : Wd} {m m' : Pl} {s s' : S} {σ σ' : L2.St} {H H' H0 : Hp} {st : List O} {cs : List C} {vs : List V}
/-- a def's slots at its entry -/
abbrev start0 (cs : List C) (k : Nat) (st : List O) : S := ⟨cs.map some ++ List.replicate k none, st⟩
theorem slot_start0 {cs : List C} {k : Nat} {st : List O} {i : Nat} {c : C} (h : (start0 cs k st).slot i = some c) : cs[i]? = some c := by
  have h : ((cs.map some ++ List.replicate k none)[i]?).bind id = some c := h
  by_cases hi : i < cs.length
  · rw [List.getElem?_append_left (by simpa using hi), List.getElem?_map] at h
    cases e : cs[i]? with
    | none => rw [e] at h; cases h
    | some d => rw [e] at h; exact h
  · rw [List.getElem?_append_right (by simpa using hi), List.getElem?_replicate] at h
    split at h <;> cases h
theorem start_at {N : List Str} {vs : List V} {i : Nat} {v : V} (h : vs[i]? = some v) : (L2.start N vs)[i]? = some (some v) := by
  unfold L2.start
  have hi := (List.getElem?_eq_some_iff.mp h).1
  rw [List.getElem?_append_left (by simpa using hi), List.getElem?_map, h]
  rfl
theorem rel_start {N : List Str} {k : Nat} (r : Rel w m ⟨[], st⟩ [] H) (ra : RArgs w m H cs vs) (hk : k = N.length - vs.length) : Rel w m (start0 cs k st) (L2.start N vs) H ∧ ∀ i p, ¬ OwnS (start0 cs k st) (L2.start N vs) i p := by
  have no : ∀ i p, ¬ OwnS (start0 cs k st) (L2.start N vs) i p := fun i p ⟨e, c, hc, ho⟩ => by
    obtain ⟨v, hv, a, b, _⟩ := ra.get (slot_start0 hc)
    rw [b] at ho
    cases ho
  refine ⟨⟨?_, fun i c h => ?_, r.st, r.dom, r.inj, fun i p h => (no i p h).elim, fun i j p h => (no i p h).elim, fun i p ⟨e, c, hc, hb⟩ h => ?_⟩, no⟩
  · show (cs.map some ++ List.replicate k none).length = (L2.start N vs).length
    unfold L2.start
    rw [List.length_append, List.length_append, List.length_map, List.length_map, List.length_replicate, List.length_replicate, ra.len, hk]
  · obtain ⟨v, hv, a, _, _⟩ := ra.get (slot_start0 h)
    exact ⟨v, start_at hv, a⟩
  · obtain ⟨v, hv, a, b, d⟩ := ra.get (slot_start0 hc)
    rw [start_at hv] at e
    cases e
    rcases h with ⟨l, h⟩ | ⟨j, h⟩
    · exact d hb p rfl l h
    · exact no j p h
theorem Ext.down (x : Ext m s σ H m' s' σ' H') (no : ∀ i p, ¬ OwnS s σ i p) : Ext m ⟨[], s.st⟩ [] H m' ⟨[], s'.st⟩ [] H' := by
  refine ⟨x.mono, x.newM, fun i p ⟨h, _⟩ => (by cases h), fun i p ⟨h, _⟩ => (by cases h), fun p o h n => x.frame p o h fun z => n ?_, x.keep⟩
  rcases z with z | ⟨i, z⟩
  · exact .inl z
  · exact (no i p z).elim
theorem ret_of {t t' : T} {v : V} (r : Rel w m' s' σ' H') (x : Ext m s σ H m' s' σ' H') (no : ∀ i p, ¬ OwnS s σ i p) (h : RT w σ' H m' s' H' t v) (e : retT s' t = some t') : RT w [] H m' ⟨[], s'.st⟩ H' t' v := by
  cases t with
  | v a => cases e; exact h
  | tl xs =>
    cases e
    obtain ⟨p, ev, hl, h0, h1, h2⟩ := h
    exact ⟨p, ev, hl, h0, fun z => h1 (.inl (own_nil.mp z)), fun i z => bor_nil z⟩
  | td xs =>
    cases e
    obtain ⟨p, ev, hl, h0, h1, h2⟩ := h
    exact ⟨p, ev, hl, h0, fun z => h1 (.inl (own_nil.mp z)), fun i z => bor_nil z⟩
  | sl i =>
    have e : (match s'.slot i with
      | some (.l true xs) => some (T.tl xs)
      | some (.d true kvs) => some (T.td kvs)
      | _ => none) = some t' := e
    have h : σ'[i]? = some (some v) := h
    cases hc : s'.slot i with
    | none => rw [hc] at e; cases e
    | some c =>
      rw [hc] at e
      obtain ⟨u, e1, z⟩ := r.slot i c hc
      rw [h] at e1
      cases e1
      have tmp : ∀ {p}, v = .ref p → c.own = true → Tmp H m' ⟨[], s'.st⟩ [] p := fun {p} ev ho => by
        subst ev
        have ow : OwnS s' σ' i p := ⟨h, c, hc, ho⟩
        refine ⟨?_, fun z => ?_, fun j z => bor_nil z⟩
        · rcases x.newS i p ow with q | q
          · exact (no i p q).elim
          · exact q
        · obtain ⟨l, z⟩ := own_nil.mp z
          exact r.ap1 i p ow l z
      cases c with
      | l o xs =>
        cases o with
        | false => cases e
        | true =>
          cases e
          obtain ⟨p, ev, hl⟩ := z
          exact ⟨p, ev, hl, tmp ev rfl⟩
      | d o xs =>
        cases o with
        | false => cases e
        | true =>
          cases e
          obtain ⟨p, ev, hl⟩ := z
          exact ⟨p, ev, hl, tmp ev rfl⟩
      | _ => cases e
/-- a body's outcome is the call's -/
theorem endC_pq {q : Q} {D : Ends} {E : XK} {Q : VK} (no : ∀ i p, ¬ OwnS s σ i p) (hD : D = { nx := fun _ H' => Q .non H', rt := Q }) (h : Pst w (fun cls d _ H' => E cls d H') (rT w) H m ⟨[], s.st⟩ [] H (rcR (endC q)) Q) : PQ w (fun cls d _ H' => E cls d H') m s σ H q D := by
  subst hD
  cases q with
  | nx s' => exact fun m' σ' H' r x => h m' H' .non r.down (x.down no) .non
  | rt t s' =>
    intro m' σ' H' v r x y
    unfold endC at h
    dsimp only at h
    cases e : retT s' t with
    | none => rw [e] at h; exact h.elim
    | some t' => rw [e] at h; exact h m' H' v r.down (x.down no) (ret_of r x no y e)
  | bk s' => exact h.elim
  | ct s' => exact h.elim
  | exc c fs s' => exact fun m' σ' H' cls d r x y => h m' H' cls d r.down (x.down no) y
  | stuck => exact h.elim
end
/-- what is to be known of the def at f, the evaluator's i-th -/
def FIx (K : PySem.W.Frag) (w : Wd) (Γ : GT) (P : Prg) (f : Addr) (i : Nat) (fd : FuncData) (ps : List Str) : Prop :=
  ∃ (F : Fn) (nm qual : Str) (params : Arguments) (body : List Stmt) (scope : Scope) (dvs : List V) (kws : List (Str × V)) (N : List Str), P.fns[i]? = some F ∧ FunD K nm qual params body scope dvs kws f fd ∧ FnScope N ps scope ∧
    F.np = ps.length ∧ F.ns = N.length ∧ chkSs Γ F.body ⟨N, scope, fun _ => true, false, false⟩ body = true ∧
    ∀ ds, fillOk ds (Γ.dfl i) = true → ∃ dvs' dus, Binds K fd ps dus ∧ Vals dvs' dus ∧ ∀ m H, RAs w m H ds dvs'
def FI (K : PySem.W.Frag) (w : Wd) (Γ : GT) (P : Prg) (f : Addr) (i : Nat) : Prop := ∃ (fd : FuncData) (ps : List Str), FIx K w Γ P f i fd ps
/-- of the making of an exception -/
def NXI (Pg : Program) (K : PySem.W.Frag) (mg : Str → Option Value) (C : Addr) : Option (Str × Str) → Prop
  | none => ∃ (bmB : List Value) (Bn newId initId : String), ExcBaseFacts Bn newId initId bmB ∧ PySem.W.excIn K C bmB newId = true
  | some (f, pN) => ∃ (fI : Addr) (fd : FuncData) (ps : List Str), XiD Pg K mg C fI f fd ps ∧ PySem.W.findIn K (.ref C) "__init__" = some (some (.ref fI)) ∧ PySem.W.typeIn K (.ref fI) = some (.type "function") ∧
      Binds K fd ps [] ∧ ∀ (s : Shared) (a u : Value), K.In s.heap → ps.length = 2 → BindsTo s fd ⟨[a], [(pN, u)]⟩ (ps.zip [a, u])
/-- what is to be known of a name -/
def NW (Pg : Program) (K : PySem.W.Frag) (mg : Str → Option Value) (w : Wd) (Γ : GT) (P : Prg) (x : Str) : GK → Prop
  | .fn i => ∃ f, mg x = some (.ref f) ∧ FI K w Γ P f i
  | .val a => ∃ (v : V) (u : Value), mg x = some u ∧ RelV v u ∧ ∀ m H, RA w m H a v
  | .exc k => ∃ (C : Addr), mg x = some (.ref C) ∧ w.ca k = some C ∧ PySem.W.keepIn K (.ref C) = true ∧ PySem.W.subIn K (.ref C) (.type "BaseException") = some true ∧ PySem.W.typeIn K (.ref C) = some (.type "type") ∧
      (∀ k' C', w.ca k' = some C' → PySem.W.exmOne K (.ref C') (.ref C) = some (P.sub k' k)) ∧ (∀ k' C', w.ca k' = some C' → P.xc k' = true → XvC K C' ∧ PySem.W.kitOne K (.ref C') (.ref C) = some (P.sub k' k)) ∧ NXI Pg K mg C (Γ.xi k)
  | .cls k i => ∃ C a, mg x = some (.ref C) ∧ w.ca k = some C ∧ Mk K C a ∧ FI K w Γ P a i
  | .blt => mg x = none
/-- the classes -/
def CW (K : PySem.W.Frag) (w : Wd) (P : Prg) : Prop := ∀ k C f, w.ca k = some C → P.flds k f = true → Cls K C ∧ NoAttr K C f
def XW (K : PySem.W.Frag) (w : Wd) (P : Prg) : Prop := (∀ k C f, w.ca k = some C → P.xf k f = true → XfC K C ∧ PySem.W.findIn K (.ref C) f = some none) ∧ ∀ k C, w.ca k = some C → P.xc k = true → XvC K C ∧ PySem.W.kitOne K (.ref C) (.type "ValueError") = some (P.sub k "ValueError")
def MW (K : PySem.W.Frag) (w : Wd) (Γ : GT) (P : Prg) : Prop := ∀ mn k i C, P.meth k mn = some i → w.ca k = some C → Cls K C ∧ fillOk [] (Γ.dfl i) = true ∧ ∃ a, Meth K C mn a ∧ FI K w Γ P a i
section
variable {Pg : Program} {wo : World} {K : PySem.W.Frag} {mg : Str → Option Value} {base : Heap} {w : Wd} {Γ : GT} {P : Prg}
def BundleX (Pg : Program) (wo : World) (K : PySem.W.Frag) (mg : Str → Option Value) (base : Heap) (w : Wd) (Γ : GT) (P : Prg) (n : Nat) (f : Addr) (i : Nat) (fd : FuncData) (ps : List Str) : Prop :=
  FnOk Pg wo K mg base (L2.CX Pg wo) n f fd ps (spG w (evCall P n i)) ∧ PySem.W.keepIn K (.ref f) = true ∧
    ∀ ds, fillOk ds (Γ.dfl i) = true → ∃ dvs' dus, Binds K fd ps dus ∧ Vals dvs' dus ∧ ∀ m H, RAs w m H ds dvs'
theorem bundle0 {n : Nat} (h0 : ∀ f cs st, evCall P n f cs st = .stuck) {f : Addr} {i : Nat} {fd : FuncData} {ps : List Str} (h : FIx K w Γ P f i fd ps) : BundleX Pg wo K mg base w Γ P n f i fd ps := by
  obtain ⟨F, nm, qual, params, body, scope, dvs, kws, N, hP, FD, S, h1, h2, h3, h4⟩ := h
  refine ⟨⟨fun vs H Q E ⟨m, st, cs, _, _, h⟩ => ?_, fun A outer s H args us vs Q E hr he hb hv ⟨m, st, cs, _, _, h⟩ => ?_⟩, FD.kp, h4⟩
  · rw [h0] at h; exact h.elim
  · rw [h0] at h; exact h.elim
theorem fn_all (hw : w.K = K) (hN : ∀ x g, Γ.gk x = some g → NW Pg K mg w Γ P x g) (hC : CW K w P) (hX : XW K w P) (hM : MW K w Γ P) : ∀ n f i fd ps, FIx K w Γ P f i fd ps → BundleX Pg wo K mg base w Γ P n f i fd ps
  | 0, f, i, fd, ps, h => bundle0 (fun _ _ _ => rfl) h
  | 1, f, i, fd, ps, h => bundle0 (fun _ _ _ => rfl) h
  | 2, f, i, fd, ps, h => bundle0 (fun _ _ _ => rfl) h
  | n + 3, f, i, fd, ps, h => by
    obtain ⟨F, nm, qual, params, body, scope, dvs, kws, N, hP, FD, S, h1, h2, h3, h4⟩ := h
    have len : ∀ vs H Q E, spG w (evCall P (n + 3) i) vs H Q E → vs.length = ps.length := fun vs H Q E ⟨m, st, cs, r, ra, h⟩ => by
      unfold evCall at h
      rw [hP] at h
      dsimp only at h
      split at h
      · rename_i hl
        rw [← ra.len, hl, h1]
      · exact h.elim
    refine ⟨FD.ok S len fun cdv A outer s H vs Q E hr hsp => ?_, FD.kp, h4⟩
    obtain ⟨m, st, cs, r, ra, h⟩ := hsp
    unfold evCall at h
    rw [hP] at h
    dsimp only at h
    split at h
    case isFalse => exact h.elim
    rename_i hl
    have hk : F.ns - F.np = N.length - vs.length := by rw [← ra.len, hl, h2]
    obtain ⟨r0, no⟩ := rel_start (N := N) r ra hk
    refine ⟨tS w (fun cls d _ H' => E cls d H') (evSs (P.cfg (evCall P (n + 2)) (evCall P (n + 1))) F.body), ?_, m, start0 cs (F.ns - F.np) st, r0, endC_pq no rfl h⟩
    refine (sndSs F.body (Γ := Γ) (B := ⟨N, scope, fun _ => true, false, false⟩) ?_ (.inl rfl) h3).pss
    refine ⟨hw, ?_, S.nd, rfl, rfl, S.kind, rfl, fun _ => rfl, fun _ => passes_of rfl, fun _ => rfl, fun _ => rfl, takes_of rfl rfl rfl rfl, fun y g hg => ?_, hC, hX.1, hX.2, fun _ mn k j hj C hCa => ?_⟩
    · have q := hr.un
      show (A.deeper (envOfC qual scope s.heap.objs.size f cdv)).units + 160 < cLine
      omega
    · have q := hN y g hg
      cases g with
      | fn j =>
        obtain ⟨f', e1, fd', ps', e4⟩ := q
        obtain ⟨F', e2, e3⟩ := fn_all hw hN hC hX hM (n + 2) f' j fd' ps' e4
        exact ⟨f', n + 2, fd', ps', F', fun _ => hr, e1, e2, e3⟩
      | val a => exact q
      | exc k =>
        obtain ⟨C, q1, q2, q3, q4, q5, q6, q7, q8⟩ := q
        refine ⟨C, q1, q2, q3, raises_own q4 q5, q6, q7, ?_⟩
        cases hxi : Γ.xi k with
        | none => rw [hxi] at q8; exact q8
        | some fp =>
          obtain ⟨fx, pN⟩ := fp
          rw [hxi] at q8
          obtain ⟨fI, fdI, psI, D, i1, i2, i3, i4⟩ := q8
          exact ⟨fI, fdI, psI, D.T, i1, i2, fn_xi D, fun _ => hr.mono (by omega), i3, i4⟩
      | cls k j =>
        obtain ⟨C, a, q1, q2, q3, fd', ps', q4⟩ := q
        obtain ⟨F', e2, e3⟩ := fn_all hw hN hC hX hM (n + 1) a j fd' ps' q4
        exact ⟨C, a, n + 1, fd', ps', q1, q2, q3, F', fun _ => hr, e3⟩
      | blt => exact q
    · obtain ⟨c1, c2, a, c3, fd', ps', c4⟩ := hM mn k j C hj hCa
      obtain ⟨F', e2, e3⟩ := fn_all hw hN hC hX hM (n + 2) a j fd' ps' c4
      obtain ⟨dvs', dus, b1, b2, b3⟩ := e3 [] c2
      cases b3 (fun _ => none) (fun _ => none)
      cases b2
      exact ⟨c1, a, n + 2, fd', ps', c3, F', hr, b1⟩
end
end CE
end CEw
section CEx
set_option maxRecDepth 100000
set_option maxHeartbeats 4000000
namespace CE
open PySem PySem.Spec PyProof.Rows L2
theorem rel_nil {w : Wd} {H : Hp} : Rel w (fun _ => none) ⟨[], []⟩ [] H :=
  ⟨rfl, fun i c h => (by cases h), fun l o h => (by cases h), fun l p h => (by cases h), fun l l' p h => (by cases h), fun i p ⟨h, _⟩ => (by cases h), fun i j p ⟨h, _⟩ => (by cases h), fun i p ⟨h, _⟩ => (by cases h)⟩
/-- the law's promise: true at each script -/
theorem law_sp {w : Wd} {f : List C → List O → RC} (hf : ∀ ns : List Int, ns.length ≤ 63 → ∃ st, f [.v (.lst (ns.map A.int))] [] = .ok (.v (.bl true)) st) (H : Hp) (a : Addr) (ns : List Int) (hl : ns.length ≤ 63) (ho : Only H) (hS : SqL w.K H a (ns.map V.int)) :
    spG w f [.ref a] H (fun v _ => v = .bl true) fun _ _ _ => False := by
  obtain ⟨st, e⟩ := hf ns hl
  refine ⟨fun _ => none, [], [.v (.lst (ns.map A.int))], rel_nil, .cons ⟨?_, rfl, fun z => nomatch z⟩ .nil, ?_⟩
  · refine .lst ?_ ?_ (RAs.ints ns)
    · rcases hS with (h | ⟨o, h⟩) | h
      · rcases ho a with z | ⟨o, xs, z⟩
        · rw [h] at z; cases z
        · rw [h] at z; cases z
      · exact .inl ⟨o, h⟩
      · exact .inr h
    · rw [List.length_map]; show _ ≤ 16777216; omega
  · rw [e]
    intro m' H' b r x y
    cases (show RA w m' H' (.bl true) b from y)
    rfl
end CE
end CEx
section CEz
set_option maxRecDepth 100000
set_option maxHeartbeats 4000000
namespace CE
open PySem PySem.Spec PyProof.Rows L2
open He (ga ma eqO eqO_ok veBase ba frG frG_in)
def oexB (K : PySem.W.Frag) (C : Addr) : Bool := (match K.lookup C with
  | some ⟨.type "type", _, .cls cd, sl⟩ => (match cd.mro, sl.toList with
    | .ref C' :: bm, [_, _, _, _, some (.builtin n), _] => C' == C && (n == "ValueError.__new__" && (!cd.hasDel && (cd.hasDict && PySem.HandSPX.refsVE bm)))
    | _, _ => false)
  | _ => false) && (eqO (PySem.W.findIn K (.ref C) "__setattr__") (some (some (.builtin "object.__setattr__"))) && (decide (PySem.W.subIn K (.ref C) (.type "BaseException") = some true) && (decide (PySem.W.typeIn K (.ref C) = some (.type "type")) && PySem.W.keepIn K (.ref C))))
theorem oexB_ok {K : PySem.W.Frag} {C : Addr} (h : oexB K C = true) : OexC K C := by
  obtain ⟨h1, h⟩ := ba h
  obtain ⟨h2, h⟩ := ba h
  obtain ⟨h3, h⟩ := ba h
  obtain ⟨h4, h5⟩ := ba h
  refine ⟨?_, eqO_ok h2, of_decide_eq_true h3, of_decide_eq_true h4, h5⟩
  split at h1
  · rename_i dd cd sl ho
    split at h1
    · rename_i C' bm k0 k1 k2 k3 n k5 hm hs
      simp only [Bool.and_eq_true, beq_iff_eq, Bool.not_eq_true'] at h1
      obtain ⟨rfl, rfl, hdel, hdc, hr⟩ := h1
      obtain ⟨nm, bs, mro, ns, qn, hd, sn, sub, ab, col, del⟩ := cd
      dsimp only at hm hdel hdc
      subst hm hdel hdc
      have hsl : sl = #[k0, k1, k2, k3, some (.builtin "ValueError.__new__"), k5] := by
        obtain ⟨l⟩ := sl
        simp only at hs
        rw [hs]
      subst hsl
      exact ⟨nm, qn, ns, bs, bm, sn, sub, ab, col, dd, k0, k1, k2, k3, k5, ho, hr⟩
    · cases h1
  · cases h1
def xvB (K : PySem.W.Frag) (C : Addr) : Bool := (PySem.W.clsIn K C).isSome && (eqO (PySem.W.findIn K (.ref C) "__getattribute__") (some (some (.builtin "BaseException.__getattribute__"))) && (eqO (PySem.W.findIn K (.ref C) "__getattr__") (some none) &&
  (decide (PySem.W.subIn K (.ref C) (.type "BaseException") = some true) && (PySem.W.hasDictIn K C && (eqO (PySem.W.findIn K (.ref C) "__class__") (some (some (.builtin "object.__class__"))) && (eqO (PySem.W.specialIn K (.builtin "object.__class__") "__get__") (some (some (.builtin "getset_descriptor.__get__"))) &&
  (decide (PySem.W.takesIn K (.builtin "object.__class__") = some true) && decide (PySem.W.mroIn K C (.type "object") = some true))))))))
theorem xvB_ok {K : PySem.W.Frag} {C : Addr} (h : xvB K C = true) : XvC K C ∧ XfC K C := by
  obtain ⟨h1, h⟩ := ba h
  obtain ⟨h2, h⟩ := ba h
  obtain ⟨h3, h⟩ := ba h
  obtain ⟨h4, h⟩ := ba h
  obtain ⟨h5, h⟩ := ba h
  obtain ⟨h6, h⟩ := ba h
  obtain ⟨h7, h⟩ := ba h
  obtain ⟨h8, h9⟩ := ba h
  exact ⟨⟨⟨eqO_ok h2, eqO_ok h3, of_decide_eq_true h4, h5, eqO_ok h6, eqO_ok h7, of_decide_eq_true h8, of_decide_eq_true h9⟩, h1⟩, ⟨eqO_ok h2, eqO_ok h3, of_decide_eq_true h4, h5⟩⟩
structure XD where
  cls : Str
  f : Str
  sN : Str
  pN : Str
  params : Arguments
  body : List Stmt
  scope : Scope
abbrev FnY : Type := Option (Str × Arguments × FuncBody × Scope × Addr × List Str × Option Addr × Addr × Value × Value)
def fnY (K : PySem.W.Frag) (c : Str) : FnY := match K.lookup (ma K (ga K c) "__init__") with
  | some ⟨_, _, .func fd, _⟩ => some (fd.qualname, fd.params, fd.body, fd.scope, fd.globals, fd.closure.map (·.1), fd.annotations, fd.builtins, fd.defaults, fd.kwdefaults)
  | _ => none
def XD.qual (d : XD) : Str := d.cls ++ ".__init__"
def XD.val (d : XD) : FnY := some (d.qual, d.params, .stmts d.body, d.scope, mainGlobals, ["__class__"], none, builtinsNs, .none, .none)
/-- the heap's part of XiD -/
def xiB (Pg : Program) (K : PySem.W.Frag) (d : XD) : Bool :=
  oexB K (ga K d.cls) && (eqO (PySem.W.findIn K (.ref (ga K d.cls)) "__init__") (some (some (.ref (ma K (ga K d.cls) "__init__")))) && (decide (PySem.W.typeIn K (.ref (ma K (ga K d.cls) "__init__")) = some (.type "function")) &&
  ((match K.lookup (ma K (ga K d.cls) "__init__") with
    | some ⟨_, _, .func fd, _⟩ => (match fd.closure, fd.code with
      | [(_, cc)], .ref cda => PySem.W.codeIn K (.ref cda) d.qual && ((match K.lookup cda with
        | some ⟨_, _, .fields vs, _⟩ => (match (vs[2]? : Option Value) with
          | some (.str file _) => Pg.main.file == file
          | _ => false)
        | _ => false) && (match K.lookup cc with
        | some ⟨_, _, .cell (some (.ref C')), _⟩ => C' == ga K d.cls
        | _ => false))
      | _, _ => false)
    | _ => false) && ((PySem.W.clsIn K (ga K d.cls)).isSome && (decide (PySem.W.mroIn K (ga K d.cls) (.ref (ga K d.cls)) = some true) && (decide (PySem.W.subIn K (.ref (ga K d.cls)) (.type "ValueError") = some true) &&
  (eqO (PySem.W.ks_superIn K (ga K d.cls) (ga K d.cls) "__init__") (some (some (.builtin "ValueError.__init__"))) && (eqO (PySem.W.nsIn K PySem.cStatics "thirdparty.any") (some none) && eqO (PySem.W.findIn K (.ref (ga K d.cls)) d.f) (some none)))))))))
/-- the text's part -/
def bodyB (sN f pN : Str) : List Stmt → Bool
  | [.Expr (.Call (.Attribute (.Call (.Name a _) [] [] _) b p2) [.Constant (.str _) _ _] [] p4) _, .Assign [.Attribute (.Name c _) g _] (.Name e _) _] =>
    decide (a = "super") && (decide (b = "__init__") && (decide (c = sN) && (decide (g = f) && (decide (e = pN) && (p2.endLine == p4.line)))))
  | _ => false
def XD.okT (Pg : Program) (d : XD) : Bool := bodyB d.sN d.f d.pN d.body && (!(d.sN == ("__debug__" : Str)) && (!(d.pN == ("__debug__" : Str)) && (!(d.sN == ("__classdict__" : Str)) && (!(d.pN == ("__classdict__" : Str)) &&
  (NdefX.nscB [d.sN, d.pN, "__class__"] [d.sN, d.pN] ["__class__"] d.scope && (decide (d.scope.names.lookup ("super" : Str) = some .globalImplicit) && (!(Pg.main.scope.names.lookup ("super" : Str)).isSome && decide (((d.params.posonlyargs ++ d.params.args).head?).map (·.arg) = some d.sN))))))))
/-- how it binds -/
def XD.binds (d : XD) : Prop := ∀ (name qual : Str) (cl : List (Str × Addr)) (doc pm : Value) (an : Option Addr) (cdv ct : Value) (a u : Value),
  bindArgs (PySem.W.fnX name qual d.params d.body d.scope cl .none .none doc pm an cdv ct) ⟨[a, u], []⟩ = pure [(d.sN, a), (d.pN, u)] ∧
  bindArgs (PySem.W.fnX name qual d.params d.body d.scope cl .none .none doc pm an cdv ct) ⟨[a], [(d.pN, u)]⟩ = pure [(d.sN, a), (d.pN, u)]
theorem bodyB_ok {sN f pN : Str} {b : List Stmt} (h : bodyB sN f pN b = true) : ∃ (txt : Str) (kc : Nat) (p0 p1 p2 p3 p4 p5 q0 q1 q2 q3 : Pos), (p2.endLine == p4.line) = true ∧
    b = [.Expr (.Call (.Attribute (.Call (.Name "super" p0) [] [] p1) "__init__" p2) [.Constant (.str txt) kc p3] [] p4) p5, .Assign [.Attribute (.Name sN q0) f q1] (.Name pN q2) q3] := by
  unfold bodyB at h
  split at h
  · obtain ⟨h1, h⟩ := ba h
    obtain ⟨h2, h⟩ := ba h
    obtain ⟨h3, h⟩ := ba h
    obtain ⟨h4, h⟩ := ba h
    obtain ⟨h5, h6⟩ := ba h
    cases of_decide_eq_true h1
    cases of_decide_eq_true h2
    cases of_decide_eq_true h3
    cases of_decide_eq_true h4
    cases of_decide_eq_true h5
    exact ⟨_, _, _, _, _, _, _, _, _, _, _, _, h6, rfl⟩
  · cases h
theorem xi_ok {Pg : Program} {K : PySem.W.Frag} {mg : Str → Option Value} {d : XD} (hT : d.okT Pg = true) (hb : d.binds) (hs : mg "super" = none) (hv : fnY K d.cls = d.val) (h : xiB Pg K d = true) : NXI Pg K mg (ga K d.cls) (some (d.f, d.pN)) ∧ PySem.W.findIn K (.ref (ga K d.cls)) d.f = some none := by
  unfold xiB at h
  obtain ⟨h1, h⟩ := ba h
  obtain ⟨h2, h⟩ := ba h
  obtain ⟨h3, h⟩ := ba h
  obtain ⟨h4, h⟩ := ba h
  obtain ⟨h5, h⟩ := ba h
  obtain ⟨h6, h⟩ := ba h
  obtain ⟨h7, h⟩ := ba h
  obtain ⟨h8, h⟩ := ba h
  obtain ⟨h9, h10⟩ := ba h
  unfold XD.okT at hT
  obtain ⟨t1, hT⟩ := ba hT
  obtain ⟨t2, hT⟩ := ba hT
  obtain ⟨t3, hT⟩ := ba hT
  obtain ⟨t4, hT⟩ := ba hT
  obtain ⟨t5, hT⟩ := ba hT
  obtain ⟨t6, hT⟩ := ba hT
  obtain ⟨t7, hT⟩ := ba hT
  obtain ⟨t8, t9⟩ := ba hT
  obtain ⟨txt, kc, p0, p1, p2, p3, p4, p5, q0, q1, q2, q3, hline, hbody⟩ := bodyB_ok t1
  refine ⟨?_, eqO_ok h10⟩
  unfold fnY at hv
  split at h4
  case h_2 => cases h4
  rename_i oc od fd osl ho
  rw [ho] at hv
  obtain ⟨n1, n2, n3, n4, n5, n6, n7, n8, n9, n10, n11, n12, n13, n14, n15⟩ := fd
  simp only [XD.val, Option.some.injEq, Prod.mk.injEq] at hv
  obtain ⟨e1, e2, e3, e4, e5, e6, e7, e8, e9, e10⟩ := hv
  subst e1 e2 e3 e4 e5 e7 e8 e9 e10
  dsimp only at h4
  split at h4
  case h_2 => cases h4
  rename_i y cc cda
  obtain ⟨c1, h4⟩ := ba h4
  obtain ⟨c2, c3⟩ := ba h4
  simp only [List.map_cons, List.map_nil, List.cons.injEq, and_true] at e6
  subst e6
  split at c2
  case h_2 => cases c2
  rename_i ccl cdd vs ccs hcd
  split at c2
  case h_2 => cases c2
  rename_i file tf hvs
  split at c3
  case h_2 => cases c3
  rename_i cl cld C' csl hcc
  cases beq_iff_eq.mp c3
  obtain ⟨cdC, hcls⟩ := Option.isSome_iff_exists.mp h5
  obtain ⟨ar, hhd, har⟩ := Option.map_eq_some_iff.mp (of_decide_eq_true t9)
  have D : XiD Pg K mg (ga K d.cls) (ma K (ga K d.cls) "__init__") d.f _ [d.sN, d.pN] := {
    T := oexB_ok h1
    ex := ⟨d.sN, d.pN, txt, n1, d.qual, file, d.params, d.scope, .none, .none, n10, n11, n14, oc, ccl, cl, od, cdd, cld, osl, ccs, csl, cda, cc, vs, tf, cdC, ar, kc, p0, p1, p2, p3, p4, p5, q0, q1, q2, q3, rfl, hline, by simpa using t2, by simpa using t3, by simpa using t4, by simpa using t5, rfl,
      NdefX.nscope_by t6, of_decide_eq_true t7, by rw [← hbody]; exact ho, c1, hcd, hvs, c2, hcc, hcls, hhd, har⟩
    mro := of_decide_eq_true h6
    ve := of_decide_eq_true h7
    sup := eqO_ok h8
    opq := eqO_ok h9
    top := by simpa using t8
    mgS := hs
    no := eqO_ok h10 }
  refine ⟨_, _, _, D, eqO_ok h2, of_decide_eq_true h3, ?_, ?_⟩
  · refine .all fun us hl => ?_
    match us, hl with
    | [a, u], _ =>
      have q := (hb n1 d.qual [("__class__", cc)] n10 n11 none (.ref cda) n14 a u).1
      rw [hbody] at q
      exact q
  · intro s a u _ _
    have q := (hb n1 d.qual [("__class__", cc)] n10 n11 none (.ref cda) n14 a u).2
    rw [hbody] at q
    exact .of_eq q
end CE
end CEz
section CEza
set_option maxRecDepth 100000
set_option maxHeartbeats 4000000
namespace CE
open PySem PySem.Spec PyProof.Rows L2
open He (ga ma eqO eqO_ok veBase ba frG frG_in)
mutual
def valV (K : PySem.W.Frag) : A → Value → Bool
  | .non, u => match u with
    | .none => true
    | _ => false
  | .bl b, u => match u with
    | .bool c => decide (c = b)
    | _ => false
  | .int i, u => match u with
    | .int j _ => decide (j = i)
    | _ => false
  | .str x, u => match u with
    | .str y _ => decide (y = x) && strFit x
    | _ => false
  | .tup as, u => match u with
    | .ref p => (match K.lookup p with
      | some ⟨.type c, _, .seq its _, _⟩ => decide (c = "tuple") && (decide (its.size ≤ sizeLine) && (decide (as.length ≤ Lim) && valVs K as its.toList))
      | _ => false)
    | _ => false
  | .lst as, u => match u with
    | .ref p => (match K.lookup p with
      | some ⟨.type c, none, .seq its _, _⟩ => decide (c = "list") && (decide (its.size ≤ sizeLine) && (decide (as.length ≤ Lim) && valVs K as its.toList))
      | _ => false)
    | _ => false
  | _, _ => false
def valVs (K : PySem.W.Frag) : List A → List Value → Bool
  | [], us => us.isEmpty
  | a :: as, us => match us with
    | [] => false
    | u :: us => valV K a u && valVs K as us
end
mutual
theorem valV_ok {K : PySem.W.Frag} : ∀ (a : A) {u : Value}, valV K a u = true → ∃ v, RelV v u ∧ ∀ (w : Wd) m H, w.K = K → RA w m H a v
  | .non, u, h => by
    unfold valV at h
    split at h
    · exact ⟨.non, rfl, fun _ _ _ _ => .non⟩
    · cases h
  | .bl b, u, h => by
    unfold valV at h
    split at h
    · cases of_decide_eq_true h; exact ⟨.bl b, rfl, fun _ _ _ _ => .bl b⟩
    · cases h
  | .int i, u, h => by
    unfold valV at h
    split at h
    · cases of_decide_eq_true h; exact ⟨.int i, ⟨_, rfl⟩, fun _ _ _ _ => .int i⟩
    · cases h
  | .str x, u, h => by
    unfold valV at h
    split at h
    · obtain ⟨h1, h2⟩ := ba h
      cases of_decide_eq_true h1
      obtain ⟨h3, h4⟩ := ba (show (PyData.strOk _ && decide (_ ≤ Lim)) = true from h2)
      exact ⟨.str x, ⟨_, rfl⟩, fun _ _ _ _ => .str x h3 (of_decide_eq_true h4)⟩
    · cases h
  | .tup as, u, h => by
    unfold valV at h
    split at h
    case h_2 => cases h
    rename_i p
    split at h
    case h_2 => cases h
    rename_i c od its n osl ho
    obtain ⟨h1, h⟩ := ba h
    obtain ⟨h2, h⟩ := ba h
    obtain ⟨h3, h4⟩ := ba h
    cases of_decide_eq_true h1
    obtain ⟨vs, hv, hr⟩ := valVs_ok as h4
    exact ⟨.ref p, rfl, fun w m H hw => .tup (.inr ⟨_, its, n, by rw [hw]; exact ho, rfl, rfl, of_decide_eq_true h2, hv⟩) (of_decide_eq_true h3) (hr w m H hw)⟩
  | .lst as, u, h => by
    unfold valV at h
    split at h
    case h_2 => cases h
    rename_i p
    split at h
    case h_2 => cases h
    rename_i c its n osl ho
    obtain ⟨h1, h⟩ := ba h
    obtain ⟨h2, h⟩ := ba h
    obtain ⟨h3, h4⟩ := ba h
    cases of_decide_eq_true h1
    obtain ⟨vs, hv, hr⟩ := valVs_ok as h4
    exact ⟨.ref p, rfl, fun w m H hw => .lst (.inr ⟨_, its, n, by rw [hw]; exact ho, rfl, rfl, rfl, of_decide_eq_true h2, hv⟩) (of_decide_eq_true h3) (hr w m H hw)⟩
  | .ref _, u, h => by unfold valV at h; cases h
  | .ty _, u, h => by unfold valV at h; cases h
  | .glo _, u, h => by unfold valV at h; cases h
  | .exv _ _ _, u, h => by unfold valV at h; cases h
theorem valVs_ok {K : PySem.W.Frag} : ∀ (as : List A) {us : List Value}, valVs K as us = true → ∃ vs, Vals vs us ∧ ∀ (w : Wd) m H, w.K = K → RAs w m H as vs
  | [], us, h => by
    cases us with
    | nil => exact ⟨[], .nil, fun _ _ _ _ => .nil⟩
    | cons _ _ => cases h
  | a :: as, us, h => by
    cases us with
    | nil => cases h
    | cons u us =>
      obtain ⟨h1, h2⟩ := ba (show (valV K a u && valVs K as us) = true from h)
      obtain ⟨v, r, k⟩ := valV_ok a h1
      obtain ⟨vs, rs, ks⟩ := valVs_ok as h2
      exact ⟨v :: vs, .cons r rs, fun w m H e => .cons (k w m H e) (ks w m H e)⟩
end
structure LD where
  fn : List He.DefD
  fns : List Fn
  xs : List XD
  gkl : List (Str × GK)
  dfll : List (Nat × List A)
  xil : List (Str × (Str × Str))
  subl : List (Str × List Str)
  fldl : List (Str × Str)
  mthl : List ((Str × Str) × Nat)
  cls : List Str
  xcl : List Str
  xfl : List (Str × Str)
  fuel : Nat
def LD.Γ (L : LD) : GT := ⟨fun x => L.gkl.lookup x, fun i => (L.dfll.lookup i).getD [], fun k => L.xil.lookup k⟩
def LD.P (L : LD) : Prg := ⟨L.fns, fun c x => L.mthl.lookup (c, x), fun k k' => decide (k' ∈ (L.subl.lookup k).getD []), fun c f => decide ((c, f) ∈ L.fldl), fun c f => decide ((c, f) ∈ L.xfl), fun c => decide (c ∈ L.xcl), L.fuel⟩
def LD.wd (L : LD) (K : PySem.W.Frag) : Wd := ⟨K, fun _ => none, fun k => if k ∈ L.cls then some (ga K k) else none⟩
def gloB (K : PySem.W.Frag) (x : Str) : Bool := eqO (PySem.W.nsIn K mainGlobals x) (some (some (.ref (ga K x))))
def LD.gkB (L : LD) (K : PySem.W.Frag) (x : Str) : GK → Bool
  | .fn i => gloB K x && decide ((L.fn[i]?).map (·.at_) = some (x, none))
  | .val a => match PySem.W.nsIn K mainGlobals x with
    | some (some u) => valV K a u
    | _ => false
  | .exc k => decide (x = k) && (decide (k ∈ L.cls) && (gloB K x && (PySem.W.keepIn K (.ref (ga K k)) && (decide (PySem.W.subIn K (.ref (ga K k)) (.type "BaseException") = some true) && (decide (PySem.W.typeIn K (.ref (ga K k)) = some (.type "type")) &&
      ((match L.Γ.xi k with
        | none => PySem.W.excIn K (ga K k) veBase "ValueError.__new__"
        | some (f, pN) => L.xs.any fun d => decide (d.cls = k) && (decide (d.f = f) && decide (d.pN = pN))) &&
      (L.cls.all (fun k' => decide (PySem.W.exmOne K (.ref (ga K k')) (.ref (ga K k)) = some (L.P.sub k' k))) &&
      L.xcl.all (fun k' => xvB K (ga K k') && decide (PySem.W.kitOne K (.ref (ga K k')) (.ref (ga K k)) = some (L.P.sub k' k))))))))))
  | .cls k i => decide (x = k) && (decide (k ∈ L.cls) && (gloB K x && ((He.Fa.mkr k).ok K && decide ((L.fn[i]?).map (·.at_) = some (k, some ("__init__" : Str))))))
  | .blt => eqO (PySem.W.nsIn K mainGlobals x) (some none)
def LD.chk (L : LD) (Pg : Program) (K : PySem.W.Frag) : Bool := (L.gkl.all fun p => L.gkB K p.1 p.2) && ((L.xs.all fun d => xiB Pg K d) && ((L.xcl.all fun k => xvB K (ga K k) && decide (PySem.W.kitOne K (.ref (ga K k)) (.type "ValueError") = some (L.P.sub k "ValueError"))) &&
  ((L.xfl.all fun p => xvB K (ga K p.1) && L.xs.any fun d => decide (d.cls = p.1) && decide (d.f = p.2)) && ((L.fldl.all fun p => (He.Fa.cls p.1).ok K && (He.Fa.noat p.1 p.2).ok K) &&
  ((L.mthl.all fun p => (He.Fa.cls p.1.1).ok K && ((He.Fa.meth p.1.1 p.1.2).ok K && (fillOk [] (L.Γ.dfl p.2) && decide ((L.fn[p.2]?).map (·.at_) = some (p.1.1, some p.1.2))))) && (L.xs.isEmpty || eqO (PySem.W.nsIn K mainGlobals "super") (some none)))))))
abbrev AlC : Type := Bool × List He.FnW × List FnY
def obsC (L : LD) (Pg : Program) (K : PySem.W.Frag) : AlC := (L.chk Pg K && L.fn.all fun d => d.ok K, L.fn.map fun d => He.fnW K d.at_, L.xs.map fun d => fnY K d.cls)
def valC (L : LD) : AlC := (true, L.fn.map He.DefD.val, L.xs.map XD.val)
def SaysC (L : LD) (Pg : Program) (K : PySem.W.Frag) : Prop := obsC L Pg K = valC L
def asC (g : Addr → Option Obj) (n : Nat) : List Addr := PySem.cStatics :: He.asD g n
def obsCG (n : Nat) (L : LD) (Pg : Program) (g : Addr → Option Obj) : AlC := obsC L Pg (frG g (asC g n))
def hookC (n : Nat) (L : LD) (Pg : Program) : PySem.W.Hook where
  α := AlC
  obs := fun s => obsCG n L Pg s.heap.get?
  val := fun _ => valC L
  says := fun _ h => ∃ K : PySem.W.Frag, K.In h ∧ SaysC L Pg K
  of := fun _ _ e => ⟨_, frG_in, e⟩
  keeps := fun _ _ _ ⟨K, hK, c⟩ k => ⟨K, PySem.W.Frag.In.keeps hK k, c⟩
theorem obsCG_eq {n : Nat} {L : LD} {Pg : Program} {g : Addr → Option Obj} {s : Shared} (h : ∀ a, g a = s.heap.get? a) : obsCG n L Pg g = (hookC n L Pg).obs s := by
  have e : g = s.heap.get? := funext h
  rw [e] <;> rfl
section
variable {L : LD} {Pg : Program} {K : PySem.W.Frag}
theorem SaysC.chk (c : SaysC L Pg K) : L.chk Pg K = true := (ba (show (L.chk Pg K && L.fn.all fun d => d.ok K) = true from congrArg (fun z : AlC => z.1) c)).1
theorem SaysC.def_ (c : SaysC L Pg K) {i : Nat} {d : He.DefD} (h : L.fn[i]? = some d) : ∃ fd, FunD K d.name d.qual d.params d.body d.scope (d.dvs K) (d.kws K) (He.fAd K d.at_) fd := by
  have c2 := (ba (show (L.chk Pg K && L.fn.all fun d => d.ok K) = true from congrArg (fun z : AlC => z.1) c)).2
  have e : L.fn.map (fun d => He.fnW K d.at_) = L.fn.map He.DefD.val := congrArg (fun z : AlC => z.2.1) c
  have e2 : (L.fn.map fun d => He.fnW K d.at_)[i]? = (L.fn.map He.DefD.val)[i]? := by rw [e]
  rw [List.getElem?_map, List.getElem?_map, h] at e2
  exact He.DefD.funD (Option.some.inj e2) (List.all_eq_true.mp c2 d (List.mem_of_getElem? h))
theorem map_mem {α β : Type} {f g : α → β} : ∀ {l : List α}, l.map f = l.map g → ∀ a ∈ l, f a = g a
  | [], _, a, h => by cases h
  | b :: l, e, a, h => by
    rw [List.map_cons, List.map_cons] at e
    obtain ⟨e1, e2⟩ := List.cons.inj e
    rcases List.mem_cons.mp h with h | h
    · rw [h]; exact e1
    · exact map_mem e2 a h
theorem SaysC.xs_ (c : SaysC L Pg K) : ∀ d ∈ L.xs, fnY K d.cls = d.val := map_mem (congrArg (fun z : AlC => z.2.2) c)
theorem lookup_mem {α β : Type} [BEq α] [LawfulBEq α] {x : α} {b : β} : ∀ {l : List (α × β)}, l.lookup x = some b → (x, b) ∈ l
  | [], h => by cases h
  | (y, c) :: l, h => by
    simp only [List.lookup] at h
    cases e : x == y with
    | true => rw [e] at h; cases h; rw [beq_iff_eq.mp e]; exact List.mem_cons_self ..
    | false => rw [e] at h; exact List.mem_cons_of_mem _ (lookup_mem h)
/-- a def without defaults -/
theorem fi0x (c : SaysC L Pg K) {i : Nat} {d : He.DefD} (hi : L.fn[i]? = some d) {F : Fn} (hF : L.fns[i]? = some F) (hd : d.dfl = []) (hk : d.kwd = []) {N ps : List Str} (S : FnScope N ps d.scope) (h1 : F.np = ps.length) (h2 : F.ns = N.length)
    (hc : chkSs L.Γ F.body ⟨N, d.scope, fun _ => true, false, false⟩ d.body = true)
    (hb : ∀ (kV doc pm : Value) (an : Option Addr) (cdv ct : Value) (us : List Value), us.length = ps.length → bindArgs (PySem.W.fnOf d.name d.qual d.params d.body d.scope .none kV doc pm an cdv ct) ⟨us, []⟩ = pure (ps.zip us)) (hdf : L.Γ.dfl i = []) :
    ∃ fd, FIx K (L.wd K) L.Γ L.P (He.fAd K d.at_) i fd ps ∧ ∀ (s : Shared) (us : List Value), us.length = ps.length → BindsTo s fd ⟨us, []⟩ (ps.zip us) := by
  obtain ⟨fd, FD⟩ := c.def_ hi
  have FD2 := FD
  unfold He.DefD.dvs at FD2
  rw [hd] at FD2
  refine ⟨fd, ⟨F, d.name, d.qual, d.params, d.body, d.scope, _, _, N, hF, FD, S, h1, h2, hc, fun ds hds => ?_⟩, FunD.bindsA FD2 hb⟩
  have e : ds = [] := by
    have z := of_decide_eq_true hds
    rw [hdf] at z
    simpa using z
  subst e
  exact ⟨[], [], FunD.bindsN FD2 hb, .nil, fun _ _ => .nil⟩
theorem fi0 (c : SaysC L Pg K) {i : Nat} {d : He.DefD} (hi : L.fn[i]? = some d) {F : Fn} (hF : L.fns[i]? = some F) (hd : d.dfl = []) (hk : d.kwd = []) {N ps : List Str} (S : FnScope N ps d.scope) (h1 : F.np = ps.length) (h2 : F.ns = N.length)
    (hc : chkSs L.Γ F.body ⟨N, d.scope, fun _ => true, false, false⟩ d.body = true)
    (hb : ∀ (kV doc pm : Value) (an : Option Addr) (cdv ct : Value) (us : List Value), us.length = ps.length → bindArgs (PySem.W.fnOf d.name d.qual d.params d.body d.scope .none kV doc pm an cdv ct) ⟨us, []⟩ = pure (ps.zip us)) (hdf : L.Γ.dfl i = []) :
    FI K (L.wd K) L.Γ L.P (He.fAd K d.at_) i := let ⟨fd, F, _⟩ := fi0x c hi hF hd hk S h1 h2 hc hb hdf; ⟨fd, ps, F⟩
theorem ca_of {k : Str} {C : Addr} (h : (L.wd K).ca k = some C) : k ∈ L.cls ∧ C = ga K k := by
  have h : (if k ∈ L.cls then some (ga K k) else none) = some C := h
  split at h
  · rename_i hm; cases h; exact ⟨hm, rfl⟩
  · cases h
theorem ca_at {k : Str} (h : k ∈ L.cls) : (L.wd K).ca k = some (ga K k) := if_pos h
theorem facts {h : Heap} {mg : Str → Option Value} (X : K.In h) (G : h.Ns mainGlobals mg) (c : SaysC L Pg K) (hx : ∀ d ∈ L.xs, d.okT Pg = true ∧ d.binds) (hFI : ∀ i d, L.fn[i]? = some d → FI K (L.wd K) L.Γ L.P (He.fAd K d.at_) i) :
    (∀ x g, L.Γ.gk x = some g → NW Pg K mg (L.wd K) L.Γ L.P x g) ∧ CW K (L.wd K) L.P ∧ XW K (L.wd K) L.P ∧ MW K (L.wd K) L.Γ L.P := by
  obtain ⟨c1, cc⟩ := ba (show ((L.gkl.all fun p => L.gkB K p.1 p.2) && _) = true from c.chk)
  obtain ⟨c2, cc⟩ := ba cc
  obtain ⟨c3, cc⟩ := ba cc
  obtain ⟨c4, cc⟩ := ba cc
  obtain ⟨c5, cc⟩ := ba cc
  obtain ⟨c6, c7⟩ := ba cc
  have xiF : ∀ d ∈ L.xs, NXI Pg K mg (ga K d.cls) (some (d.f, d.pN)) ∧ PySem.W.findIn K (.ref (ga K d.cls)) d.f = some none := fun d hd => by
    have hs : mg "super" = none := by
      rcases Bool.or_eq_true_iff.mp c7 with z | z
      · rw [List.isEmpty_iff.mp z] at hd; cases hd
      · exact PySem.W.mg_none_of X G (eqO_ok z)
    exact xi_ok (hx d hd).1 (hx d hd).2 hs (c.xs_ d hd) (List.all_eq_true.mp c2 d hd)
  have fiA : ∀ {i : Nat} {p : Str × Option Str}, (L.fn[i]?).map (·.at_) = some p → FI K (L.wd K) L.Γ L.P (He.fAd K p) i := fun {i p} e => by
    obtain ⟨d, hd, e2⟩ := Option.map_eq_some_iff.mp e
    rw [← e2]
    exact hFI i d hd
  refine ⟨fun x g hg => ?_, fun k C f hk hf => ?_, ⟨fun k C f hk hf => ?_, fun k C hk hf => ?_⟩, fun mn k i C hm hk => ?_⟩
  · have hb := List.all_eq_true.mp c1 _ (lookup_mem (show L.gkl.lookup x = some g from hg))
    cases g with
    | fn i =>
      obtain ⟨b1, b2⟩ := ba hb
      exact ⟨ga K x, PySem.W.mg_of X G (eqO_ok b1), fiA (of_decide_eq_true b2)⟩
    | val a =>
      have hb : (match PySem.W.nsIn K mainGlobals x with
        | some (some u) => valV K a u
        | _ => false) = true := hb
      split at hb
      · rename_i u hu
        obtain ⟨v, r, k⟩ := valV_ok a hb
        exact ⟨v, u, PySem.W.mg_of X G hu, r, fun m H => k _ m H rfl⟩
      · cases hb
    | exc k =>
      obtain ⟨b1, hb⟩ := ba hb
      obtain ⟨b2, hb⟩ := ba hb
      obtain ⟨b3, hb⟩ := ba hb
      obtain ⟨b4, hb⟩ := ba hb
      obtain ⟨b5, hb⟩ := ba hb
      obtain ⟨b6, hb⟩ := ba hb
      obtain ⟨b7, hb⟩ := ba hb
      obtain ⟨b8, b9⟩ := ba hb
      have e1 : x = k := of_decide_eq_true b1
      subst e1
      refine ⟨ga K x, PySem.W.mg_of X G (eqO_ok b3), ca_at (of_decide_eq_true b2), b4, of_decide_eq_true b5, of_decide_eq_true b6, fun k' C' hk' => ?_, fun k' C' hk' hc => ?_, ?_⟩
      · obtain ⟨z1, z2⟩ := ca_of hk'
        subst z2
        exact of_decide_eq_true (List.all_eq_true.mp b8 k' z1)
      · obtain ⟨z1, z2⟩ := ca_of hk'
        subst z2
        obtain ⟨y1, y2⟩ := ba (List.all_eq_true.mp b9 k' (of_decide_eq_true hc))
        exact ⟨(xvB_ok y1).1, of_decide_eq_true y2⟩
      · cases hxi : L.Γ.xi x with
        | none => rw [hxi] at b7; exact ⟨_, _, _, _, F.excBase_ValueError, b7⟩
        | some fp =>
          obtain ⟨f, pN⟩ := fp
          rw [hxi] at b7
          obtain ⟨d, hd, y⟩ := List.any_eq_true.mp b7
          obtain ⟨y1, y⟩ := ba y
          obtain ⟨y2, y3⟩ := ba y
          have q := (xiF d hd).1
          rw [of_decide_eq_true y1, of_decide_eq_true y2, of_decide_eq_true y3] at q
          exact q
    | cls k i =>
      obtain ⟨b1, hb⟩ := ba hb
      obtain ⟨b2, hb⟩ := ba hb
      obtain ⟨b3, hb⟩ := ba hb
      obtain ⟨b4, b5⟩ := ba hb
      have e1 : x = k := of_decide_eq_true b1
      subst e1
      exact ⟨ga K x, ma K (ga K x) "__init__", PySem.W.mg_of X G (eqO_ok b3), ca_at (of_decide_eq_true b2), He.mkr_ok b4, fiA (of_decide_eq_true b5)⟩
    | blt => exact PySem.W.mg_none_of X G (eqO_ok hb)
  · obtain ⟨z1, z2⟩ := ca_of hk
    subst z2
    obtain ⟨y1, y2⟩ := ba (List.all_eq_true.mp c5 (k, f) (of_decide_eq_true hf))
    exact ⟨He.cls_ok y1, He.noat_ok y2⟩
  · obtain ⟨z1, z2⟩ := ca_of hk
    subst z2
    obtain ⟨y0, y⟩ := ba (List.all_eq_true.mp c4 (k, f) (of_decide_eq_true hf))
    obtain ⟨d, hd, y⟩ := List.any_eq_true.mp y
    obtain ⟨y1, y2⟩ := ba y
    have q := xiF d hd
    have q2 := q.2
    have e1 : d.cls = k := of_decide_eq_true y1
    have e2 : d.f = f := of_decide_eq_true y2
    rw [e1, e2] at q2
    exact ⟨(xvB_ok y0).2, q2⟩
  · obtain ⟨z1, z2⟩ := ca_of hk
    subst z2
    obtain ⟨y1, y2⟩ := ba (List.all_eq_true.mp c3 k (of_decide_eq_true hf))
    exact ⟨(xvB_ok y1).1, of_decide_eq_true y2⟩
  · obtain ⟨z1, z2⟩ := ca_of hk
    subst z2
    obtain ⟨y1, y⟩ := ba (List.all_eq_true.mp c6 _ (lookup_mem (show L.mthl.lookup (k, mn) = some i from hm)))
    obtain ⟨y2, y⟩ := ba y
    obtain ⟨y3, y4⟩ := ba y
    exact ⟨He.cls_ok y1, y3, ma K (ga K k) mn, He.meth_ok y2, fiA (of_decide_eq_true y4)⟩

/-- nothing is raised -/
theorem fn_end {w : World} {mg : Str → Option Value} {base : Heap} {k : Nat} {f : Addr} {fd : FuncData} {ps : List Str} {sp : Sp} (F : FnOk Pg w K mg base (L2.CX Pg w) k f fd ps sp) : FnOk Pg w K mg base CX0 k f fd ps (fun vs H Q _ => sp vs H Q fun _ _ _ => False) :=
  ⟨fun vs H Q E h => F.len _ _ _ _ h, fun A outer s H args us vs Q E hr e0 hb r h => codeAny_mono (F.run A outer s H args us vs Q _ hr e0 hb r h) fun r s' q => by
    cases r with
    | ok fl => cases fl <;> exact q
    | error e => obtain ⟨_, _, _, _, _, _, _, _, _, _, _, _, z⟩ := (show L2.CX Pg w outer H s (fun _ _ _ => False) e s' from q); exact z.elim⟩
/-- the law, from what the evaluator says -/
theorem law_end {i n : Nat} {d : He.DefD} {x : Str} (hat : d.at_ = (("law" : Str), (none : Option Str))) (hgk : L.Γ.gk "law" = some (.fn i)) (hx : ∀ d ∈ L.xs, d.okT Pg = true ∧ d.binds) (hFI : ∀ {K : PySem.W.Frag}, SaysC L Pg K → ∀ i d, L.fn[i]? = some d → FI K (L.wd K) L.Γ L.P (He.fAd K d.at_) i)
    (hl : ∀ {K : PySem.W.Frag}, SaysC L Pg K → ∃ fd, FIx K (L.wd K) L.Γ L.P (He.fAd K d.at_) i fd [x] ∧ ∀ (s : Shared) (us : List Value), us.length = [x].length → BindsTo s fd ⟨us, []⟩ ([x].zip us))
    (hlaw : ∀ ns : List Int, ns.length ≤ 63 → ∃ st, evCall L.P n i [.v (.lst (ns.map A.int))] [] = .ok (.v (.bl true)) st)
    {w : World} {mg : Str → Option Value} {fa : Addr} {h : Heap} (Y : ∃ K : PySem.W.Frag, K.In h ∧ SaysC L Pg K) (G : h.Ns mainGlobals mg) (hmg : mg "law" = some (.ref fa)) :
    ∃ (K : PySem.W.Frag) (fd : FuncData) (sp : Sp), K.In h ∧ (∀ (s : Shared) (u : Value), BindsTo s fd ⟨[u], []⟩ [(x, u)]) ∧
        (∀ (H : Hp) (a : Addr) (ns : List Int), ns.length ≤ 63 → Only H → SqL K H a (ns.map V.int) → sp [.ref a] H (fun v _ => v = .bl true) fun _ _ _ => False) ∧
        ∀ base : Heap, K.In base → base.Ns mainGlobals mg → FnOk Pg w K mg base CX0 n fa fd [x] sp := by
  obtain ⟨K, KX, c⟩ := Y
  obtain ⟨fN, fC, fX, fM⟩ := facts KX G c hx (hFI c)
  obtain ⟨fd, F, hb⟩ := hl c
  refine ⟨K, fd, fun vs H Q _ => spG (L.wd K) (evCall L.P n i) vs H Q fun _ _ _ => False, KX, fun s u => hb s [u] rfl, fun H a ns hn ho hS => law_sp hlaw H a ns hn ho hS, fun base _ _ => ?_⟩
  obtain ⟨f', e1, _⟩ := fN "law" (.fn i) hgk
  have ef : He.fAd K d.at_ = fa := by
    obtain ⟨b1, b2⟩ := ba (List.all_eq_true.mp (ba (show ((L.gkl.all fun p => L.gkB K p.1 p.2) && _) = true from c.chk)).1 _ (lookup_mem (show L.gkl.lookup ("law" : Str) = some (GK.fn i) from hgk)))
    have e := (PySem.W.mg_of KX G (eqO_ok b1)).symm.trans hmg
    cases e
    rw [hat]
    rfl
  rw [← ef]
  exact fn_end (fn_all rfl fN fC fX fM n _ i fd [x] F).1
end
end CE
end CEza
section CEsim
set_option maxRecDepth 100000
set_option maxHeartbeats 2000000
namespace CE
open PySem
@[simp] theorem Q.nx_seq (s : S) (k : S → Q) : (Q.nx s).seq k = k s := rfl
@[simp] theorem Q.rt_seq (t : T) (s : S) (k : S → Q) : (Q.rt t s).seq k = .rt t s := rfl
@[simp] theorem Q.exc_seq (c : Str) (fs : List (Str × A)) (s : S) (k : S → Q) : (Q.exc c fs s).seq k = .exc c fs s := rfl
@[simp] theorem Q.bk_seq (s : S) (k : S → Q) : (Q.bk s).seq k = .bk s := rfl
@[simp] theorem Q.ct_seq (s : S) (k : S → Q) : (Q.ct s).seq k = .ct s := rfl
@[simp] theorem RC.ok_res (t : T) (st : List O) (s : S) : (RC.ok t st).res s = .ok t { s with st := st } := rfl
@[simp] theorem RC.exc_res (c : Str) (fs : List (Str × A)) (st : List O) (s : S) : (RC.exc c fs st).res s = .exc c fs { s with st := st } := rfl
@[simp] theorem asInt_int (i : Int) : asInt (.v (.int i)) = some i := rfl
@[simp] theorem asInt_str (i : Str) : asInt (.v (.str i)) = none := rfl
@[simp] theorem asInt_tup (i : List A) : asInt (.v (.tup i)) = none := rfl
@[simp] theorem asInt_tl (i : List A) : asInt (.tl i) = none := rfl
@[simp] theorem asInt_sl (i : Nat) : asInt (.sl i) = none := rfl
@[simp] theorem asInt_ref (i : Nat) : asInt (.v (.ref i)) = none := rfl
@[simp] theorem asInt_bl (i : Bool) : asInt (.v (.bl i)) = none := rfl
@[simp] theorem asInt_non : asInt (.v .non) = none := rfl
@[simp] theorem asStr_str (i : Str) : asStr (.v (.str i)) = some i := rfl
@[simp] theorem asStr_int (i : Int) : asStr (.v (.int i)) = none := rfl
@[simp] theorem asStr_tup (i : List A) : asStr (.v (.tup i)) = none := rfl
@[simp] theorem asStr_lst (i : List A) : asStr (.v (.lst i)) = none := rfl
@[simp] theorem asStr_ref (i : Nat) : asStr (.v (.ref i)) = none := rfl
@[simp] theorem asStr_tl (i : List A) : asStr (.tl i) = none := rfl
@[simp] theorem asStr_sl (i : Nat) : asStr (.sl i) = none := rfl
@[simp] theorem asBl_bl (b : Bool) : asBl (.v (.bl b)) = some b := rfl
@[simp] theorem asA_v (a : A) : asA (.v a) = some a := rfl
@[simp] theorem asAs_nil : asAs [] = some [] := rfl
@[simp] theorem asAs_cons (a : A) (ts : List T) : asAs (.v a :: ts) = (asAs ts).map (a :: ·) := by
  show (match asA (.v a), asAs ts with
    | some a, some as => some (a :: as)
    | _, _ => none) = _
  rw [asA_v]
  cases asAs ts <;> rfl
@[simp] theorem tupOf_tup (xs : List A) : tupOf (.v (.tup xs)) = some xs := rfl
@[simp] theorem tupOf_ref (l : Nat) : tupOf (.v (.ref l)) = none := rfl
@[simp] theorem tupOf_lst (l : List A) : tupOf (.v (.lst l)) = none := rfl
@[simp] theorem tupOf_tl (l : List A) : tupOf (.tl l) = none := rfl
@[simp] theorem tupOf_sl (l : Nat) : tupOf (.sl l) = none := rfl
@[simp] theorem lstOf_tl (s : S) (xs : List A) : lstOf s (.tl xs) = some xs := rfl
@[simp] theorem lstOf_lst (s : S) (xs : List A) : lstOf s (.v (.lst xs)) = some xs := rfl
@[simp] theorem lstOf_tup (s : S) (xs : List A) : lstOf s (.v (.tup xs)) = none := rfl
@[simp] theorem lstOf_ref (s : S) (l : Nat) : lstOf s (.v (.ref l)) = match s.st[l]? with
    | some (.lst xs) => some xs
    | _ => none := rfl
@[simp] theorem lstOf_sl (s : S) (i : Nat) : lstOf s (.sl i) = match s.slot i with
    | some (.l _ xs) => some xs
    | _ => none := rfl
@[simp] theorem dctOf_ref (s : S) (l : Nat) : dctOf s (.v (.ref l)) = match s.st[l]? with
    | some (.dct xs) => some xs
    | _ => none := rfl
@[simp] theorem dctOf_sl (s : S) (i : Nat) : dctOf s (.sl i) = match s.slot i with
    | some (.d _ xs) => some xs
    | _ => none := rfl
@[simp] theorem dctOf_tl (s : S) (xs : List A) : dctOf s (.tl xs) = none := rfl
@[simp] theorem dctOf_tup (s : S) (xs : List A) : dctOf s (.v (.tup xs)) = none := rfl
@[simp] theorem dctOf_lst (s : S) (xs : List A) : dctOf s (.v (.lst xs)) = none := rfl
@[simp] theorem dctOf_str (s : S) (x : Str) : dctOf s (.v (.str x)) = none := rfl
@[simp] theorem dctOf_td (s : S) (xs : List (A × A)) : dctOf s (.td xs) = some xs := rfl
@[simp] theorem slot_mk (env : List (Option C)) (st : List O) (i : Nat) : S.slot ⟨env, st⟩ i = (env[i]?).bind id := rfl
@[simp] theorem put_mk (env : List (Option C)) (st : List O) (i : Nat) (c : C) : S.put ⟨env, st⟩ i c = ⟨env.set i (some c), st⟩ := rfl
@[simp] theorem new_mk (env : List (Option C)) (st : List O) (o : O) : S.new ⟨env, st⟩ o = ⟨env, st ++ [o]⟩ := rfl
@[simp] theorem putT_v (s : S) (i : Nat) (a : A) : putT s i (.v a) = .ok () (s.put i (.v a)) := rfl
@[simp] theorem putT_tl (s : S) (i : Nat) (a : List A) : putT s i (.tl a) = .ok () (s.put i (.l true a)) := rfl
@[simp] theorem putT_td (s : S) (i : Nat) (a : List (A × A)) : putT s i (.td a) = .ok () (s.put i (.d true a)) := rfl
@[simp] theorem frzT_v (s : S) (a : A) : frzT (.v a) s = .ok (.v a) s := rfl
@[simp] theorem frzT_tl (s : S) (a : List A) : frzT (.tl a) s = .ok (.v (.lst a)) s := rfl
@[simp] theorem frzT_sl (s : S) (i : Nat) : frzT (.sl i) s = match s.slot i with
    | some (.l true xs) => .ok (.v (.lst xs)) (s.put i (.v (.lst xs)))
    | _ => .stuck := rfl
@[simp] theorem prmT_tl (s : S) (xs : List A) : prmT (.tl xs) s = .ok (.v (.ref s.st.length)) (s.new (.lst xs)) := rfl
@[simp] theorem prmT_v (s : S) (a : A) : prmT (.v a) s = .ok (.v a) s := rfl
@[simp] theorem prmT_td (s : S) (xs : List (A × A)) : prmT (.td xs) s = .ok (.v (.ref s.st.length)) (s.new (.dct xs)) := rfl
@[simp] theorem bin_add (i j : Int) (s : S) : opBin .add (.v (.int i)) (.v (.int j)) s = .ok (.v (.int (i + j))) s := rfl
@[simp] theorem bin_sub (i j : Int) (s : S) : opBin .sub (.v (.int i)) (.v (.int j)) s = .ok (.v (.int (i - j))) s := rfl
@[simp] theorem bin_mul (i j : Int) (s : S) : opBin .mul (.v (.int i)) (.v (.int j)) s = if mulOk i j then .ok (.v (.int (i * j))) s else .stuck := rfl
@[simp] theorem bin_fdiv (i j : Int) (s : S) : opBin .fdiv (.v (.int i)) (.v (.int j)) s = if decide (j ≠ 0) && decide (j.natAbs < 1073741824) then .ok (.v (.int (i.fdiv j))) s else .stuck := rfl
@[simp] theorem bin_mod (i j : Int) (s : S) : opBin .mod (.v (.int i)) (.v (.int j)) s = if j ≠ 0 then .ok (.v (.int (i.fmod j))) s else .stuck := rfl
@[simp] theorem bin_pow (i j : Int) (s : S) : opBin .pow (.v (.int i)) (.v (.int j)) s = if decide (0 ≤ j) && (decide (j ≤ 1000000) && decide (i.natAbs < 18446744073709551616)) then .ok (.v (.int (i ^ j.toNat))) s else .stuck := rfl
@[simp] theorem bin_addS (a b : Str) (s : S) : opBin .add (.v (.str a)) (.v (.str b)) s = if a.length + b.length ≤ Lim then .ok (.v (.str (a ++ b))) s else .stuck := rfl
@[simp] theorem bin_addT (a b : List A) (s : S) : opBin .add (.v (.tup a)) (.v (.tup b)) s = if a.length + b.length ≤ Lim then .ok (.v (.tup (a ++ b))) s else .stuck := rfl
@[simp] theorem cmp_lt (i j : Int) (s : S) : opCmp .lt (.v (.int i)) (.v (.int j)) s = some (decide (i < j)) := rfl
@[simp] theorem cmp_le (i j : Int) (s : S) : opCmp .le (.v (.int i)) (.v (.int j)) s = some (decide (i ≤ j)) := rfl
@[simp] theorem cmp_gt (i j : Int) (s : S) : opCmp .gt (.v (.int i)) (.v (.int j)) s = some (decide (j < i)) := rfl
@[simp] theorem cmp_ge (i j : Int) (s : S) : opCmp .ge (.v (.int i)) (.v (.int j)) s = some (decide (j ≤ i)) := rfl
@[simp] theorem cmp_eq (x y : T) (s : S) : opCmp .eq x y s = eqT s x y := rfl
@[simp] theorem cmp_ne (x y : T) (s : S) : opCmp .ne x y s = (eqT s x y).map (!·) := rfl
@[simp] theorem cmp_in (x y : T) (s : S) : opCmp .inn x y s = inT s x y := rfl
@[simp] theorem cmp_nin (x y : T) (s : S) : opCmp .nin x y s = (inT s x y).map (!·) := rfl
@[simp] theorem cmp_is (x : T) (s : S) : opCmp .is x (.v .non) s = isNon x := rfl
@[simp] theorem cmp_isn (x : T) (s : S) : opCmp .isn x (.v .non) s = (isNon x).map (!·) := rfl
@[simp] theorem eqv_int (i j : Int) : PyData.eqv (.int i) (.int j) = decide (i = j) := by
  unfold PyData.eqv
  first | rfl | simp
@[simp] theorem eqT_int (s : S) (i j : Int) : eqT s (.v (.int i)) (.v (.int j)) = some (decide (i = j)) := by
  show (if shallow (.int i) (.int j) then some (PyData.eqv (.int i) (.int j)) else none) = _
  rw [eqv_int]
  rfl
@[simp] theorem bf_int (i : Int) (s : S) : opBf .int [.v (.int i)] s = .ok (.v (.int i)) s := rfl
@[simp] theorem bf_lenS (x : Str) (s : S) : opBf .len [.v (.str x)] s = .ok (.v (.int x.length)) s := rfl
@[simp] theorem bf_lenT (x : List A) (s : S) : opBf .len [.v (.tup x)] s = .ok (.v (.int x.length)) s := rfl
@[simp] theorem bf_lenTl (x : List A) (s : S) : opBf .len [.tl x] s = .ok (.v (.int x.length)) s := rfl
@[simp] theorem bf_lenL (x : List A) (s : S) : opBf .len [.v (.lst x)] s = .ok (.v (.int x.length)) s := rfl

@[simp] theorem asInt_lst (i : List A) : asInt (.v (.lst i)) = none := rfl
@[simp] theorem asInt_exv (c : Str) (ns : List Str) (i : List A) : asInt (.v (.exv c ns i)) = none := rfl
@[simp] theorem asStr_bl (i : Bool) : asStr (.v (.bl i)) = none := rfl
@[simp] theorem asStr_non : asStr (.v .non) = none := rfl
@[simp] theorem asBl_int (i : Int) : asBl (.v (.int i)) = none := rfl
@[simp] theorem atI0 {α : Type} (a : α) (l : List α) : L2.atI (a :: l) 0 = some a := by simp [L2.atI, L2.ixN]
@[simp] theorem atI1 {α : Type} (a b : α) (l : List α) : L2.atI (a :: b :: l) 1 = some b := by
  have h : (1 : Int) < (l.length : Int) + 1 + 1 := by omega
  simp [L2.atI, L2.ixN, List.length_cons, h]
@[simp] theorem atI2 {α : Type} (a b c : α) (l : List α) : L2.atI (a :: b :: c :: l) 2 = some c := by
  have h : (2 : Int) < (l.length : Int) + 1 + 1 + 1 := by omega
  simp [L2.atI, L2.ixN, List.length_cons, h]
@[simp] theorem atI3 {α : Type} (a b c d : α) (l : List α) : L2.atI (a :: b :: c :: d :: l) 3 = some d := by
  have h : (3 : Int) < (l.length : Int) + 1 + 1 + 1 + 1 := by omega
  simp [L2.atI, L2.ixN, List.length_cons, h]
@[simp] theorem ixN_0 (n : Nat) : L2.ixN (n + 1) 0 = some 0 := by
  have h : (0 : Int) < (n : Int) + 1 := by omega
  simp [L2.ixN, h]
@[simp] theorem ixN_4 : L2.ixN 4 0 = some 0 ∧ L2.ixN 4 1 = some 1 ∧ L2.ixN 4 2 = some 2 ∧ L2.ixN 4 3 = some 3 := by decide
@[simp] theorem toDs_ints (xs : List Int) : toDs (xs.map A.int) = some (xs.map PyData.int) := by
  induction xs with
  | nil => rfl
  | cons x xs ih =>
    show (match toD (.int x), toDs (xs.map A.int) with
      | some d, some ds => some (d :: ds)
      | _, _ => none) = _
    rw [ih]
    rfl
theorem eqT_nil {s : S} {x : T} {ds : List PyData} (h : datT s x = some (.list ds)) : eqT s x (.tl []) = some ds.isEmpty := by
  have h2 : datT s (.tl []) = some (.list []) := rfl
  unfold eqT
  rw [h, h2]
  have h3 : shallow (.list ds) (.list []) = true := by
    unfold shallow
    rw [Bool.or_eq_true]
    exact .inr (by decide)
  dsimp only
  rw [if_pos h3]
  cases ds with
  | nil => unfold PyData.eqv PyData.eqvAll; rfl
  | cons d ds => unfold PyData.eqv PyData.eqvAll; rfl
@[simp] theorem eqT_refInts (env : List (Option C)) (st : List O) (l : Nat) (xs : List Int) (h : st[l]? = some (.lst (xs.map A.int))) : eqT ⟨env, st⟩ (.v (.ref l)) (.tl []) = some (xs.isEmpty) := by
  rw [eqT_nil (ds := xs.map PyData.int)]
  · cases xs <;> rfl
  · unfold datT
    rw [lstOf_ref, h]
    simp
@[simp] theorem mulOk_r (i : Int) (j : Int) (h : -18446744073709551616 < j ∧ j < 18446744073709551616) : mulOk i j = true := by
  unfold mulOk; simp [h.1, h.2]
theorem mulOk_l (i : Int) (j : Int) (h : -18446744073709551616 < i ∧ i < 18446744073709551616) : mulOk i j = true := by
  unfold mulOk; simp [h.1, h.2]

theorem evSs_cons (c : Cfg) (x : Sm) (xs : Sms) (s : S) : evSs c (.cons x xs) s = (evS c x s).seq fun s1 => evSs c xs s1 := by rw [evSs]
theorem evSs_nil (c : Cfg) (s : S) : evSs c .nil s = .nx s := by rw [evSs]
theorem evS_for (c : Cfg) (g : Tg) (it : Wk) (b : Sms) (s : S) : evS c (.for g it b) s = (evIt c it s).stm fun src s1 => forL (fun x s2 => ((evTg c g (.v x) s2).stm fun _ s3 => .nx s3).seq fun s3 => evSs c b s3) src.1 { s1 with env := borE s1.env src.2 } := by rw [evS]
def lcB (c : Cfg) (vs : List Nat) (g : Tg) (k : OE) (e : E) : A → S → R (Option A) := fun x s2 => (evTg c g (.v x) { s2 with env := wipeE s2.env vs }).bind fun _ s3 => (evC c k s3).bind fun b s4 => if b then (evE c e s4).bind fun y s5 => match asA y with
          | some a => .ok (some a) s5
          | none => .stuck else .ok none s4
theorem evE_lc (c : Cfg) (vs : List Nat) (g : Tg) (it : Wk) (k : OE) (e : E) (s : S) : evE c (.lc vs g it k e) s = (evIt c it s).bind fun src s1 => if plainAt s1.env vs && decide (src.1.length ≤ Lim) then
      (R.nox <| comL (lcB c vs g k e) src.1 { s1 with env := borE s1.env src.2 }).bind fun r s6 => .ok (.tl r) { s6 with env := backE s1.env s6.env (vs ++ src.2) }
    else .stuck := by rw [evE]; rfl
theorem ss_nx {c : Cfg} {x : Sm} {xs : Sms} {s s1 : S} {q : Q} (h : evS c x s = .nx s1) (h2 : evSs c xs s1 = q) : evSs c (.cons x xs) s = q := by rw [evSs_cons, h]; exact h2
theorem ss_rt {c : Cfg} {x : Sm} {xs : Sms} {s s1 : S} {t : T} (h : evS c x s = .rt t s1) : evSs c (.cons x xs) s = .rt t s1 := by rw [evSs_cons, h]; rfl
theorem ss_exc {c : Cfg} {x : Sm} {xs : Sms} {s s1 : S} {k : Str} {fs : List (Str × A)} (h : evS c x s = .exc k fs s1) : evSs c (.cons x xs) s = .exc k fs s1 := by rw [evSs_cons, h]; rfl
theorem for_ok {c : Cfg} {g : Tg} {it : Wk} {b : Sms} {s s1 : S} {xs : List A} {js : List Nat} {q : Q} (hi : evIt c it s = .ok (xs, js) s1) (hf : forL (fun x s2 => ((evTg c g (.v x) s2).stm fun _ s3 => .nx s3).seq fun s3 => evSs c b s3) xs { s1 with env := borE s1.env js } = q) : evS c (.for g it b) s = q := by
  rw [evS_for, hi]; exact hf
theorem lc_ok {c : Cfg} {vs : List Nat} {g : Tg} {it : Wk} {k : OE} {e : E} {s s1 s6 : S} {xs r : List A} {js : List Nat} (hi : evIt c it s = .ok (xs, js) s1) (hp : plainAt s1.env vs = true) (hl : xs.length ≤ Lim) (hc : comL (lcB c vs g k e) xs { s1 with env := borE s1.env js } = .ok r s6) :
    evE c (.lc vs g it k e) s = .ok (.tl r) { s6 with env := backE s1.env s6.env (vs ++ js) } := by
  rw [evE_lc, hi]
  simp only [R.ok_bind, hp, hl, decide_true, Bool.and_self, if_true, hc, R.ok_nox]
theorem for_inv {f : A → S → Q} (I : Nat → S → Prop) : ∀ {xs : List A} {i : Nat} {s : S}, I i s → (∀ (j : Nat) (x : A) (s : S), xs[j]? = some x → I (i + j) s → ∃ s', f x s = .nx s' ∧ I (i + j + 1) s') → ∃ s', forL f xs s = .nx s' ∧ I (i + xs.length) s'
  | [], i, s, h, _ => ⟨s, rfl, h⟩
  | x :: xs, i, s, h, hs => by
    obtain ⟨s1, e1, h1⟩ := hs 0 x s rfl h
    obtain ⟨s2, e2, h2⟩ := for_inv I (xs := xs) (i := i + 1) h1 fun j y s hy hi => by
      obtain ⟨s', e', h'⟩ := hs (j + 1) y s (by simpa using hy) (by rw [← Nat.add_assoc, Nat.add_right_comm]; exact hi)
      exact ⟨s', e', by rw [show i + 1 + j + 1 = i + (j + 1) + 1 by omega]; exact h'⟩
    refine ⟨s2, ?_, by rw [List.length_cons, show i + (xs.length + 1) = i + 1 + xs.length by omega]; exact h2⟩
    unfold forL
    rw [e1]
    exact e2
theorem com_inv {f : A → S → R (Option A)} {g : A → Option A} (I : S → Prop) : ∀ {xs : List A} {s : S}, (∀ x ∈ xs, ∀ s, I s → ∃ s', f x s = .ok (g x) s' ∧ I s') → I s → ∃ s', comL f xs s = .ok (xs.filterMap g) s' ∧ I s'
  | [], s, _, h => ⟨s, rfl, h⟩
  | x :: xs, s, hs, h => by
    obtain ⟨s1, e1, h1⟩ := hs x (List.mem_cons_self ..) s h
    obtain ⟨s2, e2, h2⟩ := com_inv I (xs := xs) (fun y hy => hs y (List.mem_cons_of_mem _ hy)) h1
    refine ⟨s2, ?_, h2⟩
    unfold comL
    rw [e1]
    simp only [R.ok_bind, e2]
    cases e : g x <;> simp [List.filterMap_cons, e]

@[simp] theorem cfg_call (P : Prg) (a b : CallF) : (P.cfg a b).call = a := rfl
@[simp] theorem cfg_callM (P : Prg) (a b : CallF) : (P.cfg a b).callM = b := rfl
@[simp] theorem argCs_nil (s : S) : argCs s [] = some [] := rfl
@[simp] theorem argCs_v (s : S) (a : A) (ts : List T) : argCs s (.v a :: ts) = (argCs s ts).map (C.v a :: ·) := by
  show (match argC s (.v a), argCs s ts with
    | some c, some cs => some (c :: cs)
    | _, _ => none) = _
  cases argCs s ts <;> rfl
@[simp] theorem argCs_tl (s : S) (a : List A) (ts : List T) : argCs s (.tl a :: ts) = (argCs s ts).map (C.l false a :: ·) := by
  show (match argC s (.tl a), argCs s ts with
    | some c, some cs => some (c :: cs)
    | _, _ => none) = _
  cases argCs s ts <;> rfl

theorem rng_in {j : Int} (h0 : -4611686018427387904 ≤ j) (h1 : j < 4611686018427387904) : (decide (-Rng ≤ j) && decide (j < Rng)) = true := by
  rw [Bool.and_eq_true, decide_eq_true_eq, decide_eq_true_eq]
  exact ⟨h0, h1⟩
theorem it_rng1 {c : Cfg} {e : E} {s s1 : S} {j : Int} (he : evE c e s = .ok (.v (.int j)) s1) (h0 : -4611686018427387904 ≤ j) (h1 : j < 4611686018427387904) : evIt c (.rng1 e) s = .ok (rngA 0 j.toNat, []) s1 := by
  unfold evIt
  rw [he, R.ok_bind, asInt_int]
  dsimp only
  rw [if_pos (rng_in h0 h1)]

@[simp] theorem isi_int (s : S) (i : Int) (ts : List Ty) : opIsi s (.v (.int i)) ts = some (ts.any (isTy .int)) := rfl
@[simp] theorem isi_str (s : S) (i : Str) (ts : List Ty) : opIsi s (.v (.str i)) ts = some (ts.any (isTy .str)) := rfl
@[simp] theorem isi_tup (s : S) (i : List A) (ts : List Ty) : opIsi s (.v (.tup i)) ts = some (ts.any (isTy .tuple)) := rfl
@[simp] theorem isi_bl (s : S) (i : Bool) (ts : List Ty) : opIsi s (.v (.bl i)) ts = some (ts.any (isTy .bool)) := rfl
@[simp] theorem isi_non (s : S) (ts : List Ty) : opIsi s (.v .non) ts = some (ts.any (isTy .non)) := rfl
@[simp] theorem isi_lst (s : S) (i : List A) (ts : List Ty) : opIsi s (.v (.lst i)) ts = some (ts.any (isTy .list)) := rfl
@[simp] theorem isN_int (i : Int) : isNon (.v (.int i)) = some false := rfl
@[simp] theorem isN_str (i : Str) : isNon (.v (.str i)) = some false := rfl
@[simp] theorem isN_tup (i : List A) : isNon (.v (.tup i)) = some false := rfl
@[simp] theorem isN_bl (i : Bool) : isNon (.v (.bl i)) = some false := rfl
@[simp] theorem isN_non : isNon (.v .non) = some true := rfl
@[simp] theorem isN_lst (i : List A) : isNon (.v (.lst i)) = some false := rfl
end CE
end CEsim
section CEK00
set_option maxRecDepth 100000
set_option maxHeartbeats 0
namespace K00
open PySem PySem.Spec PyProof.Rows L2 CE
def top (i : Nat) : Stmt := PySem.Challenge.pw_asksanswered_k00_errors.main.body.getD i (.Pass ⟨0, 0, 0, 0⟩)
@[reducible] def F.f__law_deck : Nat := 0
@[reducible] def F.f__law_draw : Nat := 1
@[reducible] def F.f__law_same : Nat := 2
@[reducible] def F.f__law_reserved : Nat := 3
@[reducible] def F.f__law_name : Nat := 4
@[reducible] def F.f__law_low : Nat := 5
@[reducible] def F.f__law_high : Nat := 6
@[reducible] def F.f__law_classes : Nat := 7
@[reducible] def F.f__law_made_errors : Nat := 8
@[reducible] def F.f_law : Nat := 9
def gk0 : List (Str × GK) := [("_law_deck", GK.fn 0), ("_law_draw", GK.fn 1), ("_law_same", GK.fn 2), ("_law_reserved", GK.fn 3), ("_law_name", GK.fn 4), ("_law_low", GK.fn 5), ("_law_high", GK.fn 6), ("_law_classes", GK.fn 7), ("_law_made_errors", GK.fn 8), ("law", GK.fn 9), ("AskError", GK.exc "AskError"), ("BadProgram", GK.exc "BadProgram"), ("BadOther", GK.exc "BadOther"), ("BadName", GK.exc "BadName"), ("BadType", GK.exc "BadType"), ("BadFlags", GK.exc "BadFlags"), ("BadTables", GK.exc "BadTables"), ("BadFlows", GK.exc "BadFlows"), ("BadShape", GK.exc "BadShape"), ("BadGroup", GK.exc "BadGroup")]
def gk1 : List (Str × GK) := [("BadPlace", GK.exc "BadPlace"), ("BadKeep", GK.exc "BadKeep"), ("BadMarks", GK.exc "BadMarks"), ("BadArgs", GK.exc "BadArgs"), ("BadAnswers", GK.exc "BadAnswers"), ("NoAsks", GK.exc "NoAsks"), ("BadLimit", GK.exc "BadLimit"), ("TooGreat", GK.exc "TooGreat"), ("BadText", GK.exc "BadText"), ("NotChecked", GK.exc "NotChecked"), ("Untyped", GK.exc "Untyped"), ("NotTyped", GK.exc "NotTyped"), ("NotJoined", GK.exc "NotJoined"), ("len", GK.blt), ("int", GK.blt), ("str", GK.blt), ("bool", GK.blt), ("tuple", GK.blt), ("isinstance", GK.blt), ("range", GK.blt)]
def gk2 : List (Str × GK) := [("ValueError", GK.blt)]
def gkl : List (Str × GK) := gk0 ++ gk1 ++ gk2
def dfll : List (Nat × List A) := []
def xil : List (Str × (Str × Str)) := [("BadText", ("place", "place")), ("NotChecked", ("what", "what")), ("Untyped", ("group", "group")), ("NotTyped", ("what", "what")), ("NotJoined", ("what", "what"))]
def Γ : GT := ⟨fun x => gkl.lookup x, fun i => (dfll.lookup i).getD [], fun k => xil.lookup k⟩
def b__law_deck : Sms := (.cons (.asg (.nm 1) (.cst (.int 97))) (.cons (.for (.nm 2) (.seq (.slc (.var 0) .none (.some (.cst (.int 63))))) (.cons (.asg (.nm 1) (.bin .mod (.bf .int (.cons (.bin .add (.bin .add (.bin .mul (.var 1) (.cst (.int 69069))) (.bin .mod (.bf .int (.cons (.var 2) .nil)) (.cst (.int 4294967279)))) (.cst (.int 29))) .nil)) (.cst (.int 4294967291)))) .nil)) (.cons (.rt (.lst (.cons (.prm (.lc [2] (.nm 2) (.seq (.slc (.var 0) .none (.some (.cst (.int 63))))) (.some (.cmp .ge (.var 2) (.bin .pow (.cst (.int 10)) (.cst (.int 18))))) (.bf .int (.cons (.var 2) .nil)))) (.cons (.cst (.int 0)) (.cons (.frz (.var 1)) (.cons (.cst (.int 0)) .nil)))))) .nil)))
def N__law_deck : List Str := ["script", "mixed", "cell"]
theorem c__law_deck : chkSs Γ b__law_deck ⟨N__law_deck, defScope (top 25), fun _ => true, false, false⟩ (defBody (top 25)) = true := by decide +kernel
def b__law_draw : Sms := (.cons (.ife (.and (.cons (.cmp .eq (.idx (.var 0) (.cst (.int 1))) (.cst (.int 0))) (.cons (.cmp .ne (.idx (.var 0) (.cst (.int 0))) (.lst .nil)) .nil))) (.cons (.asg (.ix (.var 0) (.cst (.int 1))) (.frz (.bin .sub (.mt .popat (.idx (.var 0) (.cst (.int 0))) (.cons (.cst (.int 0)) .nil)) (.bin .pow (.cst (.int 10)) (.cst (.int 18)))))) .nil) .nil) (.cons (.ife (.cmp .gt (.idx (.var 0) (.cst (.int 1))) (.cst (.int 0))) (.cons (.asg (.nm 2) (.bin .mod (.bf .int (.cons (.idx (.var 0) (.cst (.int 1))) .nil)) (.var 1))) (.cons (.asg (.ix (.var 0) (.cst (.int 1))) (.frz (.bin .fdiv (.idx (.var 0) (.cst (.int 1))) (.var 1)))) (.cons (.rt (.var 2)) .nil))) .nil) (.cons (.asg (.ix (.var 0) (.cst (.int 3))) (.frz (.bin .add (.idx (.var 0) (.cst (.int 3))) (.cst (.int 1))))) (.cons (.asg (.ix (.var 0) (.cst (.int 2))) (.frz (.bin .mod (.bf .int (.cons (.bin .add (.bin .add (.bin .mul (.idx (.var 0) (.cst (.int 2))) (.cst (.int 48271))) (.bin .mul (.bin .mul (.idx (.var 0) (.cst (.int 3))) (.idx (.var 0) (.cst (.int 3)))) (.cst (.int 16807)))) (.cst (.int 7))) .nil)) (.cst (.int 2147483647))))) (.cons (.rt (.bin .mod (.bin .fdiv (.bin .mod (.bf .int (.cons (.bin .mul (.idx (.var 0) (.cst (.int 2))) (.bin .add (.bin .fdiv (.idx (.var 0) (.cst (.int 2))) (.cst (.int 32))) (.cst (.int 11)))) .nil)) (.cst (.int 2147483629))) (.cst (.int 8))) (.var 1))) .nil)))))
def N__law_draw : List Str := ["deck", "many", "found"]
theorem c__law_draw : chkSs Γ b__law_draw ⟨N__law_draw, defScope (top 26), fun _ => true, false, false⟩ (defBody (top 26)) = true := by decide +kernel
def b__law_same : Sms := (.cons (.ife (.isi (.var 1) [.tuple]) (.cons (.ife (.or (.cons (.not (.isi (.var 0) [.tuple])) (.cons (.cmp .ne (.bf .len (.cons (.var 0) .nil)) (.bf .len (.cons (.var 1) .nil))) .nil))) (.cons (.rt (.cst (.bl false))) .nil) .nil) (.cons (.rt (.cmp .eq (.lc [2] (.nm 2) (.rng1 (.bf .len (.cons (.var 1) .nil))) (.some (.not (.call F.f__law_same (.cons (.idx (.var 0) (.var 2)) (.cons (.idx (.var 1) (.var 2)) .nil)) []))) (.frz (.var 2))) (.lst .nil))) .nil)) .nil) (.cons (.ife (.or (.cons (.cmp .is (.var 1) (.cst .non)) (.cons (.isi (.var 1) [.bool]) .nil))) (.cons (.rt (.or (.cons (.and (.cons (.cmp .is (.var 0) (.cst .non)) (.cons (.cmp .is (.var 1) (.cst .non)) .nil))) (.cons (.and (.cons (.isi (.var 0) [.bool]) (.cons (.cmp .eq (.var 0) (.var 1)) .nil))) .nil)))) .nil) .nil) (.cons (.ife (.isi (.var 1) [.str]) (.cons (.rt (.and (.cons (.isi (.var 0) [.str]) (.cons (.cmp .eq (.var 0) (.var 1)) .nil)))) .nil) .nil) (.cons (.rt (.and (.cons (.isi (.var 0) [.int]) (.cons (.not (.isi (.var 0) [.bool])) (.cons (.cmp .eq (.var 0) (.var 1)) .nil))))) .nil))))
def N__law_same : List Str := ["found", "owed", "k"]
theorem c__law_same : chkSs Γ b__law_same ⟨N__law_same, defScope (top 27), fun _ => true, false, false⟩ (defBody (top 27)) = true := by decide +kernel
def b__law_reserved : Sms := (.cons (.rt (.tup (.cons (.cst (.str "ask")) (.cons (.cst (.str "calm")) (.cons (.cst (.str "def")) (.cons (.cst (.str "else")) (.cons (.cst (.str "end")) (.cons (.cst (.str "fn")) (.cons (.cst (.str "give")) (.cons (.cst (.str "if")) (.cons (.cst (.str "keep")) (.cons (.cst (.str "kind")) (.cons (.cst (.str "let")) (.cons (.cst (.str "match")) (.cons (.cst (.str "whole")) .nil))))))))))))))) .nil)
def N__law_reserved : List Str := []
theorem c__law_reserved : chkSs Γ b__law_reserved ⟨N__law_reserved, defScope (top 28), fun _ => true, false, false⟩ (defBody (top 28)) = true := by decide +kernel
def b__law_name : Sms := (.cons (.asg (.nm 3) (.cst (.str "abcdefghijklmnopqrstuvwxyzABCDEFGHIJKLMNOPQRSTUVWXYZ0123456789"))) (.cons (.asg (.nm 4) (.idx (.var 1) (.call F.f__law_draw (.cons (.var 0) (.cons (.bf .len (.cons (.var 1) .nil)) .nil)) []))) (.cons (.for (.nm 5) (.rng1 (.idx (.lst (.cons (.cst (.int 0)) (.cons (.cst (.int 1)) (.cons (.cst (.int 2)) (.cons (.cst (.int 9)) .nil))))) (.call F.f__law_draw (.cons (.var 0) (.cons (.cst (.int 4)) .nil)) []))) (.cons (.asg (.nm 4) (.bin .add (.var 4) (.idx (.var 3) (.call F.f__law_draw (.cons (.var 0) (.cons (.cst (.int 62)) .nil)) [])))) .nil)) (.cons (.ife (.or (.cons (.cmp .inn (.var 4) (.var 2)) (.cons (.cmp .inn (.slc (.var 4) .none (.some (.cst (.int 2)))) (.tup (.cons (.cst (.str "zz")) (.cons (.cst (.str "Zz")) .nil)))) (.cons (.cmp .inn (.var 4) (.call F.f__law_reserved .nil [])) .nil)))) (.cons (.asg (.nm 4) (.idx (.lc [5] (.nm 5) (.rng1 (.bin .add (.bf .len (.cons (.var 2) .nil)) (.cst (.int 1)))) (.some (.cmp .nin (.bin .add (.slc (.var 4) .none (.some (.cst (.int 1)))) (.bf .str (.cons (.var 5) .nil))) (.var 2))) (.frz (.bin .add (.slc (.var 4) .none (.some (.cst (.int 1)))) (.bf .str (.cons (.var 5) .nil))))) (.cst (.int 0)))) .nil) .nil) (.cons (.ex (.mt .append (.var 2) (.cons (.frz (.var 4)) .nil))) (.cons (.rt (.var 4)) .nil))))))
def N__law_name : List Str := ["deck", "first", "used", "tail", "name", "k"]
theorem c__law_name : chkSs Γ b__law_name ⟨N__law_name, defScope (top 29), fun _ => true, false, false⟩ (defBody (top 29)) = true := by decide +kernel
def b__law_low : Sms := (.cons (.ife (.cmp .eq (.call F.f__law_draw (.cons (.var 0) (.cons (.cst (.int 9)) .nil)) []) (.cst (.int 0))) (.cons (.asg (.nm 2) (.lst (.cons (.cst (.str "op")) (.cons (.cst (.str "num")) (.cons (.cst (.str "name")) (.cons (.cst (.str "times")) (.cons (.cst (.str "make")) (.cons (.cst (.str "app")) (.cons (.cst (.str "call")) (.cons (.cst (.str "of")) (.cons (.cst (.str "to")) (.cons (.cst (.str "var")) (.cons (.cst (.str "a")) (.cons (.cst (.str "b")) (.cons (.cst (.str "rest")) .nil))))))))))))))) (.cons (.asg (.nm 3) (.idx (.var 2) (.call F.f__law_draw (.cons (.var 0) (.cons (.cst (.int 13)) .nil)) []))) (.cons (.ife (.cmp .nin (.var 3) (.var 1)) (.cons (.ex (.mt .append (.var 1) (.cons (.frz (.var 3)) .nil))) (.cons (.rt (.var 3)) .nil)) .nil) .nil))) .nil) (.cons (.rt (.call F.f__law_name (.cons (.var 0) (.cons (.cst (.str "abcdefghijklmnopqrstuvwxyz")) (.cons (.var 1) .nil))) [])) .nil))
def N__law_low : List Str := ["deck", "used", "some", "word"]
theorem c__law_low : chkSs Γ b__law_low ⟨N__law_low, defScope (top 30), fun _ => true, false, false⟩ (defBody (top 30)) = true := by decide +kernel
def b__law_high : Sms := (.cons (.rt (.call F.f__law_name (.cons (.var 0) (.cons (.cst (.str "ABCDEFGHIJKLMNOPQRSTUVWXYZ")) (.cons (.var 1) .nil))) [])) .nil)
def N__law_high : List Str := ["deck", "used"]
theorem c__law_high : chkSs Γ b__law_high ⟨N__law_high, defScope (top 31), fun _ => true, false, false⟩ (defBody (top 31)) = true := by decide +kernel
def b__law_classes : Sms := (.cons (.asg (.nm 1) (.lst (.cons (.isx (.var 0) "BadText") (.cons (.isx (.var 0) "NotChecked") (.cons (.isx (.var 0) "NotTyped") (.cons (.isx (.var 0) "NotJoined") .nil)))))) (.cons (.asg (.nm 1) (.bin .add (.var 1) (.lst (.cons (.isx (.var 0) "Untyped") (.cons (.isx (.var 0) "BadProgram") (.cons (.isx (.var 0) "BadName") .nil)))))) (.cons (.asg (.nm 1) (.bin .add (.var 1) (.lst (.cons (.isx (.var 0) "BadOther") (.cons (.isx (.var 0) "BadType") (.cons (.isx (.var 0) "BadFlags") .nil)))))) (.cons (.asg (.nm 1) (.bin .add (.var 1) (.lst (.cons (.isx (.var 0) "BadTables") (.cons (.isx (.var 0) "BadFlows") (.cons (.isx (.var 0) "BadShape") .nil)))))) (.cons (.asg (.nm 1) (.bin .add (.var 1) (.lst (.cons (.isx (.var 0) "BadGroup") (.cons (.isx (.var 0) "BadPlace") (.cons (.isx (.var 0) "BadMarks") (.cons (.isx (.var 0) "BadKeep") .nil))))))) (.cons (.asg (.nm 1) (.bin .add (.var 1) (.lst (.cons (.isx (.var 0) "BadArgs") (.cons (.isx (.var 0) "BadAnswers") (.cons (.isx (.var 0) "NoAsks") .nil)))))) (.cons (.rt (.bin .add (.var 1) (.lst (.cons (.isx (.var 0) "BadLimit") (.cons (.isx (.var 0) "TooGreat") .nil))))) .nil)))))))
def N__law_classes : List Str := ["e", "found"]
theorem c__law_classes : chkSs Γ b__law_classes ⟨N__law_classes, defScope (top 32), fun _ => true, false, false⟩ (defBody (top 32)) = true := by decide +kernel
def b__law_made_errors : Sms := (.cons (.asg (.nm 4) (.lst (.cons (.frz (.mkx "BadText" (some "place") (.frz (.var 1)))) (.cons (.frz (.mkx "NotChecked" (some "what") (.frz (.var 2)))) (.cons (.frz (.mkx "NotTyped" (some "what") (.frz (.var 2)))) (.cons (.frz (.mkx "NotJoined" (some "what") (.frz (.var 2)))) (.cons (.frz (.mkx "Untyped" (some "group") (.frz (.var 3)))) .nil))))))) (.cons (.asg (.nm 4) (.bin .add (.var 4) (.lst (.cons (.frz (.mkx "BadProgram" none (.var 0))) (.cons (.frz (.mkx "BadName" none (.var 0))) (.cons (.frz (.mkx "BadOther" none (.var 0))) (.cons (.frz (.mkx "BadType" none (.var 0))) (.cons (.frz (.mkx "BadFlags" none (.var 0))) .nil)))))))) (.cons (.asg (.nm 4) (.bin .add (.var 4) (.lst (.cons (.frz (.mkx "BadTables" none (.var 0))) (.cons (.frz (.mkx "BadFlows" none (.var 0))) (.cons (.frz (.mkx "BadShape" none (.var 0))) (.cons (.frz (.mkx "BadGroup" none (.var 0))) (.cons (.frz (.mkx "BadPlace" none (.var 0))) .nil)))))))) (.cons (.asg (.nm 4) (.bin .add (.var 4) (.lst (.cons (.frz (.mkx "BadMarks" none (.var 0))) (.cons (.frz (.mkx "BadKeep" none (.var 0))) (.cons (.frz (.mkx "BadArgs" none (.var 0))) (.cons (.frz (.mkx "BadAnswers" none (.var 0))) (.cons (.frz (.mkx "NoAsks" none (.var 0))) (.cons (.frz (.mkx "BadLimit" none (.var 0))) .nil))))))))) (.cons (.rt (.bin .add (.var 4) (.lst (.cons (.frz (.mkx "TooGreat" none (.var 0))) .nil)))) .nil)))))
def N__law_made_errors : List Str := ["words", "place", "what", "index", "found"]
theorem c__law_made_errors : chkSs Γ b__law_made_errors ⟨N__law_made_errors, defScope (top 33), fun _ => true, false, false⟩ (defBody (top 33)) = true := by decide +kernel
def b_law : Sms := (.cons (.asg (.nm 1) (.prm (.call F.f__law_deck (.cons (.var 0) .nil) []))) (.cons (.asg (.nm 2) (.bin .add (.bin .add (.call F.f__law_low (.cons (.var 1) (.cons (.prm (.lst .nil)) .nil)) []) (.cst (.str " "))) (.call F.f__law_high (.cons (.var 1) (.cons (.prm (.lst .nil)) .nil)) []))) (.cons (.par 3 4 (.call F.f__law_draw (.cons (.var 1) (.cons (.bin .pow (.cst (.int 10)) (.cst (.int 6))) .nil)) []) (.call F.f__law_draw (.cons (.var 1) (.cons (.cst (.int 400)) .nil)) [])) (.cons (.asg (.nm 5) (.idx (.tup (.cons (.tup (.cons (.frz (.var 2)) (.cons (.cst .non) .nil))) (.cons (.tup (.cons (.frz (.var 2)) (.cons (.frz (.var 3)) (.cons (.tup (.cons (.cst (.str "use")) (.cons (.frz (.var 4)) .nil))) .nil)))) (.cons (.tup (.cons (.frz (.slc (.var 2) .none (.some (.cst (.int 3))))) (.cons (.frz (.var 2)) .nil))) .nil)))) (.call F.f__law_draw (.cons (.var 1) (.cons (.cst (.int 3)) .nil)) []))) (.cons (.asg (.nm 6) (.call F.f__law_made_errors (.cons (.var 2) (.cons (.var 3) (.cons (.var 5) (.cons (.var 4) .nil)))) [])) (.cons (.for (.nm 7) (.rng1 (.bf .len (.cons (.var 6) .nil))) (.cons (.ife (.or (.cons (.not (.isx (.idx (.var 6) (.var 7)) "AskError")) (.cons (.not (.isx (.idx (.var 6) (.var 7)) "ValueError")) .nil))) (.cons (.rt (.cst (.bl false))) .nil) .nil) (.cons (.ife (.cmp .ne (.call F.f__law_classes (.cons (.idx (.var 6) (.var 7)) .nil) []) (.lc [8] (.nm 8) (.rng1 (.bf .len (.cons (.var 6) .nil))) .none (.cmp .eq (.var 8) (.var 7)))) (.cons (.rt (.cst (.bl false))) .nil) .nil) .nil))) (.cons (.asg (.nm 9) (.mkx "AskError" none (.var 2))) (.cons (.ife (.or (.cons (.not (.isx (.var 9) "ValueError")) (.cons (.cmp .ne (.call F.f__law_classes (.cons (.var 9) .nil) []) (.bin .mul (.lst (.cons (.cst (.bl false)) .nil)) (.bf .len (.cons (.var 6) .nil)))) .nil))) (.cons (.rt (.cst (.bl false))) .nil) .nil) (.cons (.asg (.nm 10) (.tup (.cons (.xfl (.idx (.var 6) (.cst (.int 0))) "place") (.cons (.xfl (.idx (.var 6) (.cst (.int 1))) "what") (.cons (.xfl (.idx (.var 6) (.cst (.int 2))) "what") (.cons (.xfl (.idx (.var 6) (.cst (.int 3))) "what") (.cons (.xfl (.idx (.var 6) (.cst (.int 4))) "group") .nil))))))) (.cons (.ife (.not (.call F.f__law_same (.cons (.var 10) (.cons (.tup (.cons (.frz (.var 3)) (.cons (.frz (.var 5)) (.cons (.frz (.var 5)) (.cons (.frz (.var 5)) (.cons (.frz (.var 4)) .nil)))))) .nil)) [])) (.cons (.rt (.cst (.bl false))) .nil) .nil) (.cons (.asg (.nm 10) (.tup (.cons (.xfl (.mkk "BadText" "place" "place" (.frz (.var 4))) "place") (.cons (.xfl (.mkk "NotChecked" "what" "what" (.frz (.var 5))) "what") (.cons (.xfl (.mkk "Untyped" "group" "group" (.frz (.var 3))) "group") .nil))))) (.cons (.ife (.not (.call F.f__law_same (.cons (.var 10) (.cons (.tup (.cons (.frz (.var 4)) (.cons (.frz (.var 5)) (.cons (.frz (.var 3)) .nil)))) .nil)) [])) (.cons (.rt (.cst (.bl false))) .nil) .nil) (.cons (.rt (.call F.f__law_same (.cons (.tup (.cons (.xfl (.mkk "NotTyped" "what" "what" (.frz (.var 5))) "what") (.cons (.xfl (.mkk "NotJoined" "what" "what" (.frz (.var 5))) "what") .nil))) (.cons (.bin .mul (.tup (.cons (.frz (.var 5)) .nil)) (.cst (.int 2))) .nil)) [])) .nil)))))))))))))
def N_law : List Str := ["script", "deck", "words", "place", "index", "what", "made", "k", "at", "base", "fields"]
theorem c_law : chkSs Γ b_law ⟨N_law, defScope (top 34), fun _ => true, false, false⟩ (defBody (top 34)) = true := by decide +kernel
def fns : List Fn := [⟨1, 3, b__law_deck⟩, ⟨2, 3, b__law_draw⟩, ⟨2, 3, b__law_same⟩, ⟨0, 0, b__law_reserved⟩, ⟨3, 6, b__law_name⟩, ⟨2, 4, b__law_low⟩, ⟨2, 2, b__law_high⟩, ⟨1, 2, b__law_classes⟩, ⟨4, 5, b__law_made_errors⟩, ⟨1, 11, b_law⟩]
def subl : List (Str × List Str) := [("AskError", ["AskError", "ValueError"]), ("BadProgram", ["BadProgram", "AskError", "ValueError"]), ("BadOther", ["BadOther", "AskError", "ValueError"]), ("BadName", ["BadName", "AskError", "ValueError"]), ("BadType", ["BadType", "AskError", "ValueError"]), ("BadFlags", ["BadFlags", "AskError", "ValueError"]), ("BadTables", ["BadTables", "AskError", "ValueError"]), ("BadFlows", ["BadFlows", "AskError", "ValueError"]), ("BadShape", ["BadShape", "AskError", "ValueError"]), ("BadGroup", ["BadGroup", "AskError", "ValueError"]), ("BadPlace", ["BadPlace", "AskError", "ValueError"]), ("BadKeep", ["BadKeep", "AskError", "ValueError"]), ("BadMarks", ["BadMarks", "AskError", "ValueError"]), ("BadArgs", ["BadArgs", "AskError", "ValueError"]), ("BadAnswers", ["BadAnswers", "AskError", "ValueError"]), ("NoAsks", ["NoAsks", "AskError", "ValueError"]), ("BadLimit", ["BadLimit", "AskError", "ValueError"]), ("TooGreat", ["TooGreat", "AskError", "ValueError"]), ("BadText", ["BadText", "AskError", "ValueError"]), ("NotChecked", ["NotChecked", "AskError", "ValueError"]), ("Untyped", ["Untyped", "AskError", "ValueError"]), ("NotTyped", ["NotTyped", "AskError", "ValueError"]), ("NotJoined", ["NotJoined", "AskError", "ValueError"])]
def xfl : List (Str × Str) := [("BadText", "place"), ("NotChecked", "what"), ("Untyped", "group"), ("NotTyped", "what"), ("NotJoined", "what")]
def xcl : List Str := ["AskError", "BadProgram", "BadOther", "BadName", "BadType", "BadFlags", "BadTables", "BadFlows", "BadShape", "BadGroup", "BadPlace", "BadKeep", "BadMarks", "BadArgs", "BadAnswers", "NoAsks", "BadLimit", "TooGreat", "BadText", "NotChecked", "Untyped", "NotTyped", "NotJoined"]
def mthl : List ((Str × Str) × Nat) := []
def fldl : List (Str × Str) := []
def cls : List Str := ["AskError", "BadProgram", "BadOther", "BadName", "BadType", "BadFlags", "BadTables", "BadFlows", "BadShape", "BadGroup", "BadPlace", "BadKeep", "BadMarks", "BadArgs", "BadAnswers", "NoAsks", "BadLimit", "TooGreat", "BadText", "NotChecked", "Untyped", "NotTyped", "NotJoined"]
def d__law_deck : He.DefD := ⟨("_law_deck", none), "_law_deck", "_law_deck", defArgs (top 25), defBody (top 25), defScope (top 25), [], []⟩
def d__law_draw : He.DefD := ⟨("_law_draw", none), "_law_draw", "_law_draw", defArgs (top 26), defBody (top 26), defScope (top 26), [], []⟩
def d__law_same : He.DefD := ⟨("_law_same", none), "_law_same", "_law_same", defArgs (top 27), defBody (top 27), defScope (top 27), [], []⟩
def d__law_reserved : He.DefD := ⟨("_law_reserved", none), "_law_reserved", "_law_reserved", defArgs (top 28), defBody (top 28), defScope (top 28), [], []⟩
def d__law_name : He.DefD := ⟨("_law_name", none), "_law_name", "_law_name", defArgs (top 29), defBody (top 29), defScope (top 29), [], []⟩
def d__law_low : He.DefD := ⟨("_law_low", none), "_law_low", "_law_low", defArgs (top 30), defBody (top 30), defScope (top 30), [], []⟩
def d__law_high : He.DefD := ⟨("_law_high", none), "_law_high", "_law_high", defArgs (top 31), defBody (top 31), defScope (top 31), [], []⟩
def d__law_classes : He.DefD := ⟨("_law_classes", none), "_law_classes", "_law_classes", defArgs (top 32), defBody (top 32), defScope (top 32), [], []⟩
def d__law_made_errors : He.DefD := ⟨("_law_made_errors", none), "_law_made_errors", "_law_made_errors", defArgs (top 33), defBody (top 33), defScope (top 33), [], []⟩
def d_law : He.DefD := ⟨("law", none), "law", "law", defArgs (top 34), defBody (top 34), defScope (top 34), [], []⟩
def dfn0 : List He.DefD := [d__law_deck, d__law_draw, d__law_same, d__law_reserved, d__law_name, d__law_low, d__law_high, d__law_classes, d__law_made_errors, d_law]
def dfn : List He.DefD := dfn0
def x_BadText : XD := ⟨"BadText", "place", "self", "place", defArgs (inClass (top 19) 0), defBody (inClass (top 19) 0), defScope (inClass (top 19) 0)⟩
theorem xt_BadText : x_BadText.okT PySem.Challenge.pw_asksanswered_k00_errors = true := by decide +kernel
theorem xb_BadText : x_BadText.binds := fun _ _ _ _ _ _ _ _ _ _ => ⟨rfl, rfl⟩
def x_NotChecked : XD := ⟨"NotChecked", "what", "self", "what", defArgs (inClass (top 20) 0), defBody (inClass (top 20) 0), defScope (inClass (top 20) 0)⟩
theorem xt_NotChecked : x_NotChecked.okT PySem.Challenge.pw_asksanswered_k00_errors = true := by decide +kernel
theorem xb_NotChecked : x_NotChecked.binds := fun _ _ _ _ _ _ _ _ _ _ => ⟨rfl, rfl⟩
def x_Untyped : XD := ⟨"Untyped", "group", "self", "group", defArgs (inClass (top 21) 0), defBody (inClass (top 21) 0), defScope (inClass (top 21) 0)⟩
theorem xt_Untyped : x_Untyped.okT PySem.Challenge.pw_asksanswered_k00_errors = true := by decide +kernel
theorem xb_Untyped : x_Untyped.binds := fun _ _ _ _ _ _ _ _ _ _ => ⟨rfl, rfl⟩
def x_NotTyped : XD := ⟨"NotTyped", "what", "self", "what", defArgs (inClass (top 22) 0), defBody (inClass (top 22) 0), defScope (inClass (top 22) 0)⟩
theorem xt_NotTyped : x_NotTyped.okT PySem.Challenge.pw_asksanswered_k00_errors = true := by decide +kernel
theorem xb_NotTyped : x_NotTyped.binds := fun _ _ _ _ _ _ _ _ _ _ => ⟨rfl, rfl⟩
def x_NotJoined : XD := ⟨"NotJoined", "what", "self", "what", defArgs (inClass (top 23) 0), defBody (inClass (top 23) 0), defScope (inClass (top 23) 0)⟩
theorem xt_NotJoined : x_NotJoined.okT PySem.Challenge.pw_asksanswered_k00_errors = true := by decide +kernel
theorem xb_NotJoined : x_NotJoined.binds := fun _ _ _ _ _ _ _ _ _ _ => ⟨rfl, rfl⟩
def xs : List XD := [x_BadText, x_NotChecked, x_Untyped, x_NotTyped, x_NotJoined]
theorem xs_ok : ∀ d ∈ xs, d.okT PySem.Challenge.pw_asksanswered_k00_errors = true ∧ d.binds := by
  intro d hd
  simp only [xs, List.mem_cons, List.not_mem_nil, or_false] at hd
  rcases hd with rfl | rfl | rfl | rfl | rfl
  · exact ⟨xt_BadText, xb_BadText⟩
  · exact ⟨xt_NotChecked, xb_NotChecked⟩
  · exact ⟨xt_Untyped, xb_Untyped⟩
  · exact ⟨xt_NotTyped, xb_NotTyped⟩
  · exact ⟨xt_NotJoined, xb_NotJoined⟩
def L : LD := ⟨dfn, fns, xs, gkl, dfll, xil, subl, fldl, mthl, cls, xcl, xfl, 1000000⟩
abbrev P : Prg := L.P
end K00
end CEK00
section CEK00h
set_option maxRecDepth 100000
set_option maxHeartbeats 0
namespace K00
open PySem PySem.Spec PyProof.Rows L2 CE
theorem s__law_deck : FnScope N__law_deck ["script"] d__law_deck.scope := ⟨rfl, rfl, rfl, by decide +kernel, rfl, by decide +kernel, by decide +kernel⟩
theorem f__law_deck {K : PySem.W.Frag} (c : SaysC L PySem.Challenge.pw_asksanswered_k00_errors K) : FI K (L.wd K) L.Γ L.P (He.fAd K d__law_deck.at_) 0 := fi0 c (d := d__law_deck) rfl (F := ⟨1, 3, b__law_deck⟩) rfl rfl rfl s__law_deck rfl rfl c__law_deck (fun _ _ _ _ _ _ us hl => match us, hl with | [_], _ => rfl) rfl
theorem s__law_draw : FnScope N__law_draw ["deck", "many"] d__law_draw.scope := ⟨rfl, rfl, rfl, by decide +kernel, rfl, by decide +kernel, by decide +kernel⟩
theorem f__law_draw {K : PySem.W.Frag} (c : SaysC L PySem.Challenge.pw_asksanswered_k00_errors K) : FI K (L.wd K) L.Γ L.P (He.fAd K d__law_draw.at_) 1 := fi0 c (d := d__law_draw) rfl (F := ⟨2, 3, b__law_draw⟩) rfl rfl rfl s__law_draw rfl rfl c__law_draw (fun _ _ _ _ _ _ us hl => match us, hl with | [_, _], _ => rfl) rfl
theorem s__law_same : FnScope N__law_same ["found", "owed"] d__law_same.scope := ⟨rfl, rfl, rfl, by decide +kernel, rfl, by decide +kernel, by decide +kernel⟩
theorem f__law_same {K : PySem.W.Frag} (c : SaysC L PySem.Challenge.pw_asksanswered_k00_errors K) : FI K (L.wd K) L.Γ L.P (He.fAd K d__law_same.at_) 2 := fi0 c (d := d__law_same) rfl (F := ⟨2, 3, b__law_same⟩) rfl rfl rfl s__law_same rfl rfl c__law_same (fun _ _ _ _ _ _ us hl => match us, hl with | [_, _], _ => rfl) rfl
theorem s__law_reserved : FnScope N__law_reserved [] d__law_reserved.scope := ⟨rfl, rfl, rfl, by decide +kernel, rfl, by decide +kernel, by decide +kernel⟩
theorem f__law_reserved {K : PySem.W.Frag} (c : SaysC L PySem.Challenge.pw_asksanswered_k00_errors K) : FI K (L.wd K) L.Γ L.P (He.fAd K d__law_reserved.at_) 3 := fi0 c (d := d__law_reserved) rfl (F := ⟨0, 0, b__law_reserved⟩) rfl rfl rfl s__law_reserved rfl rfl c__law_reserved (fun _ _ _ _ _ _ us hl => match us, hl with | [], _ => rfl) rfl
theorem s__law_name : FnScope N__law_name ["deck", "first", "used"] d__law_name.scope := ⟨rfl, rfl, rfl, by decide +kernel, rfl, by decide +kernel, by decide +kernel⟩
theorem f__law_name {K : PySem.W.Frag} (c : SaysC L PySem.Challenge.pw_asksanswered_k00_errors K) : FI K (L.wd K) L.Γ L.P (He.fAd K d__law_name.at_) 4 := fi0 c (d := d__law_name) rfl (F := ⟨3, 6, b__law_name⟩) rfl rfl rfl s__law_name rfl rfl c__law_name (fun _ _ _ _ _ _ us hl => match us, hl with | [_, _, _], _ => rfl) rfl
theorem s__law_low : FnScope N__law_low ["deck", "used"] d__law_low.scope := ⟨rfl, rfl, rfl, by decide +kernel, rfl, by decide +kernel, by decide +kernel⟩
theorem f__law_low {K : PySem.W.Frag} (c : SaysC L PySem.Challenge.pw_asksanswered_k00_errors K) : FI K (L.wd K) L.Γ L.P (He.fAd K d__law_low.at_) 5 := fi0 c (d := d__law_low) rfl (F := ⟨2, 4, b__law_low⟩) rfl rfl rfl s__law_low rfl rfl c__law_low (fun _ _ _ _ _ _ us hl => match us, hl with | [_, _], _ => rfl) rfl
theorem s__law_high : FnScope N__law_high ["deck", "used"] d__law_high.scope := ⟨rfl, rfl, rfl, by decide +kernel, rfl, by decide +kernel, by decide +kernel⟩
theorem f__law_high {K : PySem.W.Frag} (c : SaysC L PySem.Challenge.pw_asksanswered_k00_errors K) : FI K (L.wd K) L.Γ L.P (He.fAd K d__law_high.at_) 6 := fi0 c (d := d__law_high) rfl (F := ⟨2, 2, b__law_high⟩) rfl rfl rfl s__law_high rfl rfl c__law_high (fun _ _ _ _ _ _ us hl => match us, hl with | [_, _], _ => rfl) rfl
theorem s__law_classes : FnScope N__law_classes ["e"] d__law_classes.scope := ⟨rfl, rfl, rfl, by decide +kernel, rfl, by decide +kernel, by decide +kernel⟩
theorem f__law_classes {K : PySem.W.Frag} (c : SaysC L PySem.Challenge.pw_asksanswered_k00_errors K) : FI K (L.wd K) L.Γ L.P (He.fAd K d__law_classes.at_) 7 := fi0 c (d := d__law_classes) rfl (F := ⟨1, 2, b__law_classes⟩) rfl rfl rfl s__law_classes rfl rfl c__law_classes (fun _ _ _ _ _ _ us hl => match us, hl with | [_], _ => rfl) rfl
theorem s__law_made_errors : FnScope N__law_made_errors ["words", "place", "what", "index"] d__law_made_errors.scope := ⟨rfl, rfl, rfl, by decide +kernel, rfl, by decide +kernel, by decide +kernel⟩
theorem f__law_made_errors {K : PySem.W.Frag} (c : SaysC L PySem.Challenge.pw_asksanswered_k00_errors K) : FI K (L.wd K) L.Γ L.P (He.fAd K d__law_made_errors.at_) 8 := fi0 c (d := d__law_made_errors) rfl (F := ⟨4, 5, b__law_made_errors⟩) rfl rfl rfl s__law_made_errors rfl rfl c__law_made_errors (fun _ _ _ _ _ _ us hl => match us, hl with | [_, _, _, _], _ => rfl) rfl
theorem s_law : FnScope N_law ["script"] d_law.scope := ⟨rfl, rfl, rfl, by decide +kernel, rfl, by decide +kernel, by decide +kernel⟩
theorem f_law {K : PySem.W.Frag} (c : SaysC L PySem.Challenge.pw_asksanswered_k00_errors K) : FI K (L.wd K) L.Γ L.P (He.fAd K d_law.at_) 9 := fi0 c (d := d_law) rfl (F := ⟨1, 11, b_law⟩) rfl rfl rfl s_law rfl rfl c_law (fun _ _ _ _ _ _ us hl => match us, hl with | [_], _ => rfl) rfl
theorem fx_law {K : PySem.W.Frag} (c : SaysC L PySem.Challenge.pw_asksanswered_k00_errors K) : ∃ fd, FIx K (L.wd K) L.Γ L.P (He.fAd K d_law.at_) 9 fd ["script"] ∧ ∀ (s : Shared) (us : List Value), us.length = (["script"] : List Str).length → BindsTo s fd ⟨us, []⟩ ((["script"] : List Str).zip us) := fi0x c (d := d_law) rfl (F := ⟨1, 11, b_law⟩) rfl rfl rfl s_law rfl rfl c_law (fun _ _ _ _ _ _ us hl => match us, hl with | [_], _ => rfl) rfl
theorem fis {K : PySem.W.Frag} (c : SaysC L PySem.Challenge.pw_asksanswered_k00_errors K) : ∀ i d, L.fn[i]? = some d → FI K (L.wd K) L.Γ L.P (He.fAd K d.at_) i
  | 0, _, h => by cases h; exact f__law_deck c
  | 1, _, h => by cases h; exact f__law_draw c
  | 2, _, h => by cases h; exact f__law_same c
  | 3, _, h => by cases h; exact f__law_reserved c
  | 4, _, h => by cases h; exact f__law_name c
  | 5, _, h => by cases h; exact f__law_low c
  | 6, _, h => by cases h; exact f__law_high c
  | 7, _, h => by cases h; exact f__law_classes c
  | 8, _, h => by cases h; exact f__law_made_errors c
  | 9, _, h => by cases h; exact f_law c
  | n + 10, _, h => by cases h
abbrev R : PySem.W.OpenRow := PySem.W.OpenLaw.row PySem.Challenge.rw_asksanswered_k00_errors
abbrev hk : PySem.W.Hook := hookC 5 L PySem.Challenge.pw_asksanswered_k00_errors
def ob (s : PySem.W.SharedT) : AlC := obsCG 5 L PySem.Challenge.pw_asksanswered_k00_errors (HandSHeadRun.getT s)
theorem ob_eq (s : PySem.W.SharedT) : ob s = hk.obs s.abs := obsCG_eq (HandSHeadRun.getT_eq s)
def names : List PySem.Str := ["AskError", "BadAnswers", "BadArgs", "BadFlags", "BadFlows", "BadGroup", "BadKeep", "BadLimit", "BadMarks", "BadName", "BadOther", "BadPlace", "BadProgram", "BadShape", "BadTables", "BadText", "BadType", "NoAsks", "NotChecked", "NotJoined", "NotTyped", "TooGreat", "Untyped", "_law_classes", "_law_deck", "_law_draw", "_law_high", "_law_low", "_law_made_errors", "_law_name", "_law_reserved", "_law_same"]
theorem run (w : World) : HandSHeadRun.RunEq R (PySem.W.view R.prog [34]) hk ob 40000 names w := by
  intro os
  kernel_rfl
end K00
end CEK00h
section CEK00p
set_option maxRecDepth 100000
set_option maxHeartbeats 4000000
namespace K00
open PySem PySem.Spec PyProof.Rows L2 CE
/-- a call of a def -/
theorem call_eq {n i : Nat} {F : Fn} {cs : List C} {st : List O} (h : L.P.fns[i]? = some F) (hl : cs.length = F.np) : evCall L.P (n + 3) i cs st = endC (evSs (L.P.cfg (evCall L.P (n + 2)) (evCall L.P (n + 1))) F.body ⟨cs.map some ++ List.replicate (F.ns - F.np) none, st⟩) := by
  show (match L.P.fns[i]? with
    | some F => if cs.length = F.np then endC (evSs (L.P.cfg (evCall L.P (n + 2)) (evCall L.P (n + 1))) F.body ⟨cs.map some ++ List.replicate (F.ns - F.np) none, st⟩) else .stuck
    | none => .stuck) = _
  rw [h]
  exact if_pos hl
def urn (xs : List Int) (a m c : Int) (rest : List O) : List O := .lst (xs.map .int) :: .lst [.ref 0, .int a, .int m, .int c] :: rest
structure Uok (xs : List Int) (a c : Int) (C : Nat) : Prop where
  a0 : 0 ≤ a
  xs0 : ∀ x ∈ xs, 1000000000000000000 ≤ x
  c0 : 0 ≤ c
  c1 : c ≤ C
def mix (m c : Int) : Int := (m * 48271 + (c + 1) * (c + 1) * 16807 + 7).fmod 2147483647
def out (m k : Int) : Int := (((m * (m.fdiv 32 + 11)).fmod 2147483629).fdiv 8).fmod k
section
variable (cfg : Cfg) (m c k a : Int) (xs : List Int) (rest : List O) (E : List (Option C))
def dr1 : Sm := match b__law_draw with | .cons a _ => a | _ => .pass
def dr2 : Sm := match b__law_draw with | .cons _ (.cons a _) => a | _ => .pass
def dr3 : Sms := match b__law_draw with | .cons _ (.cons _ a) => a | _ => .nil
def e0 (k : Int) : List (Option C) := [some (.v (.ref 1)), some (.v (.int k)), none]
theorem d1a (h : a ≠ 0) : evS cfg dr1 ⟨e0 k, urn xs a m c rest⟩ = .nx ⟨e0 k, urn xs a m c rest⟩ := by
  simp [dr1, b__law_draw, e0, urn, evSs, evS, evE, evEs, evAnd, opIdx, seqOf, h]
theorem d1b : evS cfg dr1 ⟨e0 k, urn [] a m c rest⟩ = .nx ⟨e0 k, urn [] a m c rest⟩ := by
  by_cases h : a = 0
  · subst h
    simp [dr1, b__law_draw, e0, urn, evSs, evS, evE, evEs, evAnd, opIdx, seqOf]
  · exact d1a cfg m c k a [] rest h
theorem d1c (x : Int) : evS cfg dr1 ⟨e0 k, urn (x :: xs) 0 m c rest⟩ = .nx ⟨e0 k, urn xs (x - 1000000000000000000) m c rest⟩ := by
  have h : eqT ⟨e0 k, urn (x :: xs) 0 m c rest⟩ (.v (.ref 0)) (.tl []) = some false := eqT_refInts _ _ _ (x :: xs) rfl
  unfold e0 urn at h
  simp only [List.map_cons] at h
  simp [dr1, b__law_draw, e0, urn, evSs, evS, evE, evEs, evAnd, opIdx, seqOf, evTg, setIx, setL, opMt, rcvOk, Q.nx_seq, h]
theorem d2a (h : ¬ 0 < a) : evS cfg dr2 ⟨e0 k, urn xs a m c rest⟩ = .nx ⟨e0 k, urn xs a m c rest⟩ := by
  simp [dr2, b__law_draw, e0, urn, evSs, evS, evE, evEs, evAnd, opIdx, seqOf, h]
theorem d2b (h : 0 < a) (hk : 0 < k) (hk2 : k < 1073741824) : evS cfg dr2 ⟨e0 k, urn xs a m c rest⟩ = .rt (.v (.int (a.fmod k))) ⟨[some (.v (.ref 1)), some (.v (.int k)), some (.v (.int (a.fmod k)))], urn xs (a.fdiv k) m c rest⟩ := by
  have h2 : k.natAbs < 1073741824 := by omega
  have h3 : k ≠ 0 := by omega
  simp [dr2, b__law_draw, e0, urn, evSs, evS, evE, evEs, evAnd, opIdx, seqOf, h, h2, h3, evTg, setIx, setL, Q.nx_seq, Q.rt_seq]
theorem d3 (hk : 0 < k) (hk2 : k < 1073741824) (hc : 0 ≤ c ∧ c < 1000000) : evSs cfg dr3 ⟨e0 k, urn xs a m c rest⟩ = .rt (.v (.int (out (mix m c) k))) ⟨e0 k, urn xs a (mix m c) (c + 1) rest⟩ := by
  have h1 : mulOk (c + 1) (c + 1) = true := mulOk_l _ _ (by omega)
  have h0 : 0 ≤ mix m c ∧ mix m c < 2147483647 := ⟨Int.fmod_nonneg_of_pos _ (by omega), Int.fmod_lt_of_pos _ (by omega)⟩
  have h4 : mulOk (mix m c) ((mix m c).fdiv 32 + 11) = true := mulOk_l _ _ (by omega)
  have h2 : k.natAbs < 1073741824 := by omega
  have h3 : k ≠ 0 := by omega
  unfold mix at h4
  simp [dr3, b__law_draw, e0, urn, evSs, evS, evE, evEs, evAnd, evTg, opIdx, seqOf, opBf, setIx, setL, putT, Q.nx_seq, h1, h2, h3, h4]
  first | exact ⟨rfl, rfl⟩ | rfl
end
theorem seq_nx {q : Q} {s : S} {k : S → Q} (h : q = .nx s) : q.seq k = k s := by rw [h]; rfl
theorem seq_rt {q : Q} {t : T} {s : S} {k : S → Q} (h : q = .rt t s) : q.seq k = .rt t s := by rw [h]; rfl
/-- a draw -/
theorem draw {xs : List Int} {a c : Int} {C : Nat} (U : Uok xs a c C) (hC : C < 1000000) (m k : Int) (hk : 0 < k) (hk2 : k < 1073741824) (rest : List O) (n : Nat) :
    ∃ r xs' a' m' c', Uok xs' a' c' (C + 1) ∧ 0 ≤ r ∧ r < k ∧ evCall L.P (n + 3) 1 [.v (.ref 1), .v (.int k)] (urn xs a m c rest) = .ok (.v (.int r)) (urn xs' a' m' c' rest) := by
  have main : ∀ (xs : List Int) (a : Int), Uok xs a c C → ∀ s0, evS (L.P.cfg (evCall L.P (n + 2)) (evCall L.P (n + 1))) dr1 s0 = .nx ⟨e0 k, urn xs a m c rest⟩ → s0.st = s0.st → ∃ r xs' a' m' c', Uok xs' a' c' (C + 1) ∧ 0 ≤ r ∧ r < k ∧ endC (evSs (L.P.cfg (evCall L.P (n + 2)) (evCall L.P (n + 1))) b__law_draw s0) = .ok (.v (.int r)) (urn xs' a' m' c' rest) := by
    intro xs a U s0 h0 _
    have hc : 0 ≤ c ∧ c < 1000000 := ⟨U.c0, by have := U.c1; omega⟩
    have eb : b__law_draw = .cons dr1 (.cons dr2 dr3) := rfl
    by_cases ha : 0 < a
    · refine ⟨a.fmod k, xs, a.fdiv k, m, c, ⟨Int.fdiv_nonneg U.a0 (by omega), U.xs0, U.c0, by have := U.c1; omega⟩, Int.fmod_nonneg_of_pos _ hk, Int.fmod_lt_of_pos _ hk, ?_⟩
      rw [eb]
      show endC ((evS _ dr1 s0).seq fun s1 => (evS _ dr2 s1).seq fun s2 => evSs _ dr3 s2) = _
      rw [seq_nx h0, seq_rt (d2b _ m c k a xs rest ha hk hk2)]
      rfl
    · refine ⟨out (mix m c) k, xs, a, mix m c, c + 1, ⟨U.a0, U.xs0, by omega, by have := U.c1; omega⟩, Int.fmod_nonneg_of_pos _ hk, Int.fmod_lt_of_pos _ hk, ?_⟩
      rw [eb]
      show endC ((evS _ dr1 s0).seq fun s1 => (evS _ dr2 s1).seq fun s2 => evSs _ dr3 s2) = _
      rw [seq_nx h0, seq_nx (d2a _ m c k a xs rest ha), d3 _ m c k a xs rest hk hk2 hc]
      rfl
  rw [call_eq (F := ⟨2, 3, b__law_draw⟩) rfl rfl]
  by_cases h : a = 0
  · subst h
    cases xs with
    | nil => exact main [] 0 U _ (d1b _ m c k 0 rest) rfl
    | cons x xs => exact main xs _ ⟨by have := U.xs0 x (List.mem_cons_self ..); omega, fun y hy => U.xs0 y (List.mem_cons_of_mem _ hy), U.c0, U.c1⟩ _ (d1c _ m c k xs rest x) rfl
  · exact main xs a U _ (d1a _ m c k a xs rest h) rfl

def dk2 : Sms := match b__law_deck with | .cons _ (.cons (.for _ _ b) _) => b | _ => .nil
def dkw : Wk := .seq (.slc (.var 0) .none (.some (.cst (.int 63))))
def dkk : OE := .some (.cmp .ge (.var 2) (.bin .pow (.cst (.int 10)) (.cst (.int 18))))
def dke : E := .bf .int (.cons (.var 2) .nil)
theorem dk_eq : b__law_deck = .cons (.asg (.nm 1) (.cst (.int 97))) (.cons (.for (.nm 2) dkw dk2) (.cons (.rt (.lst (.cons (.prm (.lc [2] (.nm 2) dkw dkk dke)) (.cons (.cst (.int 0)) (.cons (.frz (.var 1)) (.cons (.cst (.int 0)) .nil)))))) .nil)) := rfl
theorem dk_step (cfg : Cfg) (ns : List A) (c m : Int) (o : Option C) : ((evTg cfg (.nm 2) (.v (.int c)) ⟨[some (.v (.lst ns)), some (.v (.int m)), o], []⟩).stm fun _ s3 => .nx s3).seq (fun s3 => evSs cfg dk2 s3) = .nx ⟨[some (.v (.lst ns)), some (.v (.int ((m * 69069 + c.fmod 4294967279 + 29).fmod 4294967291))), some (.v (.int c))], []⟩ := by
  simp [dk2, b__law_deck, evSs, evS, evE, evEs, evTg, opBf, Q.nx_seq]
theorem dk_it (cfg : Cfg) (ns : List Int) (hl : ns.length ≤ 63) (E : List (Option C)) : evIt cfg dkw ⟨some (.v (.lst (ns.map A.int))) :: E, []⟩ = .ok (ns.map A.int, []) ⟨some (.v (.lst (ns.map A.int))) :: E, []⟩ := by
  have e : cutA (ns.map A.int) none (some 63) = ns.map A.int := by
    show ((ns.map A.int).drop 0).take (min 63 (ns.map A.int).length - 0) = _
    rw [List.drop_zero, List.take_of_length_le (by rw [List.length_map]; omega)]
  simp [dkw, evIt, evE, evO, opSlc, e, fixed, seqOf, slotsOf]
theorem deck (ns : List Int) (hl : ns.length ≤ 63) (n : Nat) : ∃ m, evCall L.P (n + 3) 0 [.v (.lst (ns.map A.int))] [] = .ok (.tl [.ref 0, .int 0, .int m, .int 0]) [.lst ((ns.filter fun x => decide (1000000000000000000 ≤ x)).map A.int)] := by
  rw [call_eq (F := ⟨1, 3, b__law_deck⟩) rfl rfl]
  generalize L.P.cfg _ _ = cfg
  obtain ⟨s1, h1, m', o', ho, e1⟩ := for_inv (f := fun x s2 => ((evTg cfg (.nm 2) (.v x) s2).stm fun _ s3 => .nx s3).seq fun s3 => evSs cfg dk2 s3) (xs := ns.map A.int) (i := 0) (s := ⟨[some (.v (.lst (ns.map A.int))), some (.v (.int 97)), none], []⟩)
    (fun _ s => ∃ m o, (o = none ∨ ∃ a, o = some (.v a)) ∧ s = ⟨[some (.v (.lst (ns.map A.int))), some (.v (.int m)), o], []⟩) ⟨97, none, .inl rfl, rfl⟩ (by
      rintro j x s hx ⟨m, o, _, rfl⟩
      obtain ⟨i, _, rfl⟩ := List.mem_map.mp (List.mem_of_getElem? hx)
      exact ⟨_, dk_step cfg _ i m o, _, _, .inr ⟨_, rfl⟩, rfl⟩)
  subst e1
  obtain ⟨s2, h2, o2, e2⟩ := com_inv (f := lcB cfg [2] (.nm 2) dkk dke) (g := fun a => match a with
      | .int x => if 1000000000000000000 ≤ x then some (.int x) else none
      | _ => none) (fun s => ∃ o, s = ⟨[some (.v (.lst (ns.map A.int))), some (.v (.int m')), o], []⟩) (xs := ns.map A.int) (s := ⟨[some (.v (.lst (ns.map A.int))), some (.v (.int m')), o'], []⟩) (by
      rintro x hx s ⟨o, rfl⟩
      obtain ⟨i, _, rfl⟩ := List.mem_map.mp hx
      refine ⟨⟨[some (.v (.lst (ns.map A.int))), some (.v (.int m')), some (.v (.int i))], []⟩, ?_, _, rfl⟩
      by_cases hi : 1000000000000000000 ≤ i
      · simp [lcB, dkk, dke, evTg, evC, evE, evEs, wipeE, opBf, hi]
      · simp [lcB, dkk, dke, evTg, evC, evE, evEs, wipeE, opBf, hi]) ⟨_, rfl⟩
  subst e2
  have hl2 : (ns.map A.int).length ≤ Lim := by
    rw [List.length_map]
    show _ ≤ 16777216
    omega
  have e3 : (ns.map A.int).filterMap (fun a => match a with
      | .int x => if 1000000000000000000 ≤ x then some (A.int x) else none
      | _ => none) = (ns.filter fun x => decide (1000000000000000000 ≤ x)).map A.int := by
    clear h1 h2 hl2 hl
    induction ns with
    | nil => rfl
    | cons x xs ih =>
      by_cases hx : 1000000000000000000 ≤ x
      · simp [List.filter_cons, hx, ih]
      · simp [List.filter_cons, hx, ih]
  rw [e3] at h2
  have h3 := lc_ok (e := dke) (dk_it cfg ns hl [some (.v (.int m')), o']) (by
    rcases ho with rfl | ⟨a, rfl⟩ <;> rfl) hl2 h2
  refine ⟨m', ?_⟩
  show endC (evSs cfg b__law_deck _) = _
  rw [dk_eq, ss_nx (s1 := ⟨[some (.v (.lst (ns.map A.int))), some (.v (.int 97)), none], []⟩) rfl (ss_nx (for_ok (dk_it cfg ns hl _) h1) (q := .rt (.tl [.ref 0, .int 0, .int m', .int 0]) ⟨[some (.v (.lst (ns.map A.int))), some (.v (.int m')), o'], [.lst ((ns.filter fun x => decide (1000000000000000000 ≤ x)).map A.int)]⟩) (ss_rt ?_))]
  · rfl
  · have e4 : backE [some (C.v (.lst (ns.map A.int))), some (.v (.int m')), o'] [some (C.v (.lst (ns.map A.int))), some (.v (.int m')), o2] ([2] ++ []) = [some (.v (.lst (ns.map A.int))), some (.v (.int m')), o'] := by
      rcases ho with rfl | ⟨a, rfl⟩ <;> rfl
    dsimp only at h3
    rw [e4] at h3
    generalize E.lc [2] (Tg.nm 2) dkw dkk dke = q at h3 ⊢
    simp [evS, evE, evEs, h3, Lim]

theorem inT_nil (env : List (Option C)) (st : List O) (x : Str) (l : Nat) (h : st[l]? = some (.lst [])) : inT ⟨env, st⟩ (.v (.str x)) (.v (.ref l)) = some false := by
  unfold inT
  rw [dctOf_ref]
  dsimp only
  rw [h]
  dsimp only
  unfold seqOf
  rw [tupOf_ref, lstOf_ref]
  dsimp only
  rw [h]
  rfl
theorem toDs_strs (xs : List Str) : toDs (xs.map A.str) = some (xs.map PyData.str) := by
  induction xs with
  | nil => rfl
  | cons x xs ih =>
    show (match toD (.str x), toDs (xs.map A.str) with
      | some d, some ds => some (d :: ds)
      | _, _ => none) = _
    rw [ih]
    rfl
theorem inT_strs (s : S) (x : Str) (ys : List Str) : inT s (.v (.str x)) (.v (.tup (ys.map A.str))) = some ((ys.map PyData.str).any fun z => PyData.eqv z (.str x)) := by
  unfold inT
  dsimp only [dctOf, asStr, seqOf, tupOf]
  rw [toDs_strs]
  have h : datT s (.v (.str x)) = some (.str x) := rfl
  rw [h]
  dsimp only
  rw [if_pos]
  rw [Bool.or_eq_true]
  exact .inr (decide_eq_true (Nat.zero_le _))
theorem slen (a b : Str) : (a ++ b).length = a.length + b.length := Str.length_append a b

def tl62 : Str := "abcdefghijklmnopqrstuvwxyzABCDEFGHIJKLMNOPQRSTUVWXYZ0123456789"
def nm1 : Sm := .asg (.nm 3) (.cst (.str tl62))
def nm2 : Sm := match b__law_name with | .cons _ (.cons a _) => a | _ => .pass
def nm3w : Wk := match b__law_name with | .cons _ (.cons _ (.cons (.for _ a _) _)) => a | _ => .seq (.cst .non)
def nm3b : Sms := match b__law_name with | .cons _ (.cons _ (.cons (.for _ _ a) _)) => a | _ => .nil
def nm4 : Sm := match b__law_name with | .cons _ (.cons _ (.cons _ (.cons a _))) => a | _ => .pass
def nm5 : Sms := match b__law_name with | .cons _ (.cons _ (.cons _ (.cons _ a))) => a | _ => .nil
theorem nm_eq : b__law_name = .cons nm1 (.cons nm2 (.cons (.for (.nm 5) nm3w nm3b) (.cons nm4 nm5))) := rfl
theorem atI_some {α : Type} {xs : List α} {r : Int} (h0 : 0 ≤ r) (h1 : r < xs.length) : ∃ a ∈ xs, L2.atI xs r = some a := by
  have h2 : r.toNat < xs.length := by omega
  refine ⟨xs[r.toNat], List.getElem_mem h2, ?_⟩
  unfold L2.atI L2.ixN
  rw [if_pos h0, if_pos h1]
  exact List.getElem?_eq_getElem h2
theorem idx_str {env : List (Option C)} {st : List O} {x : Str} {r : Int} (h0 : 0 ≤ r) (h1 : r < x.length) : ∃ ch : Nat, opIdx (.v (.str x)) (.v (.int r)) ⟨env, st⟩ = .ok (.v (.str ⟨#[ch]⟩)) ⟨env, st⟩ := by
  obtain ⟨ch, _, e⟩ := atI_some (xs := x.cps.toList) h0 (by simpa [Str.length] using h1)
  refine ⟨ch, ?_⟩
  simp [opIdx, e]
section
variable {xs : List Int} {a c : Int} {C : Nat} (U : Uok xs a c C) (m : Int) (rest : List O) (n : Nat)
include U
theorem nm_2 (hC : C < 1000000) (first : Str) (h0 : 0 < first.length) (h1 : first.length < 1000) (u : Nat) : ∃ (ch : Nat) (xs' : List Int) (a' m' c' : Int), Uok xs' a' c' (C + 1) ∧
    evS (L.P.cfg (evCall L.P (n + 3)) (evCall L.P (n + 2))) nm2 ⟨[some (.v (.ref 1)), some (.v (.str first)), some (.v (.ref u)), some (.v (.str tl62)), none, none], urn xs a m c rest⟩ = .nx ⟨[some (.v (.ref 1)), some (.v (.str first)), some (.v (.ref u)), some (.v (.str tl62)), some (.v (.str ⟨#[ch]⟩)), none], urn xs' a' m' c' rest⟩ := by
  obtain ⟨r, xs', a', m', c', U', r0, r1, e⟩ := draw U hC m first.length (by omega) (by omega) rest n
  obtain ⟨ch, e2⟩ := idx_str (env := [some (.v (.ref 1)), some (.v (.str first)), some (.v (.ref u)), some (.v (.str tl62)), none, none]) (st := urn xs' a' m' c' rest) r0 r1
  refine ⟨ch, xs', a', m', c', U', ?_⟩
  simp [nm2, b__law_name, evS, evE, evEs, F.f__law_draw, e, e2, evTg]
theorem nm_3b (hC : C < 1000000) (first name : Str) (hn : name.length ≤ 100) (u : Nat) (k : Int) (o : Option CE.C) : ∃ (ch : Nat) (xs' : List Int) (a' m' c' : Int), Uok xs' a' c' (C + 1) ∧
    ((evTg (L.P.cfg (evCall L.P (n + 3)) (evCall L.P (n + 2))) (.nm 5) (.v (.int k)) ⟨[some (.v (.ref 1)), some (.v (.str first)), some (.v (.ref u)), some (.v (.str tl62)), some (.v (.str name)), o], urn xs a m c rest⟩).stm fun _ s3 => .nx s3).seq (fun s3 => evSs (L.P.cfg (evCall L.P (n + 3)) (evCall L.P (n + 2))) nm3b s3) = .nx ⟨[some (.v (.ref 1)), some (.v (.str first)), some (.v (.ref u)), some (.v (.str tl62)), some (.v (.str (name ++ ⟨#[ch]⟩))), some (.v (.int k))], urn xs' a' m' c' rest⟩ := by
  obtain ⟨r, xs', a', m', c', U', r0, r1, e⟩ := draw U hC m 62 (by omega) (by omega) rest n
  obtain ⟨ch, e2⟩ := idx_str (env := [some (.v (.ref 1)), some (.v (.str first)), some (.v (.ref u)), some (.v (.str tl62)), some (.v (.str name)), some (.v (.int k))]) (st := urn xs' a' m' c' rest) (x := tl62) r0 (by rw [show tl62.length = 62 by decide +kernel]; exact r1)
  refine ⟨ch, xs', a', m', c', U', ?_⟩
  have hl : name.length + Str.length ⟨#[ch]⟩ ≤ Lim := by
    show name.length + 1 ≤ 16777216
    omega
  simp [nm3b, b__law_name, evSs, evS, evE, evEs, F.f__law_draw, e, e2, evTg, Q.nx_seq, hl]
theorem nm_it (hC : C < 1000000) (E : List (Option CE.C)) : ∃ (k : Nat) (xs' : List Int) (a' m' c' : Int), Uok xs' a' c' (C + 1) ∧ k ≤ 9 ∧
    evIt (L.P.cfg (evCall L.P (n + 3)) (evCall L.P (n + 2))) nm3w ⟨some (.v (.ref 1)) :: E, urn xs a m c rest⟩ = .ok (rngA 0 k, []) ⟨some (.v (.ref 1)) :: E, urn xs' a' m' c' rest⟩ := by
  obtain ⟨r, xs', a', m', c', U', r0, r1, e⟩ := draw U hC m 4 (by omega) (by omega) rest n
  have h : ∃ k : Nat, k ≤ 9 ∧ L2.atI [A.int 0, A.int 1, A.int 2, A.int 9] r = some (.int k) := by
    have : r = 0 ∨ r = 1 ∨ r = 2 ∨ r = 3 := by omega
    rcases this with rfl | rfl | rfl | rfl
    · exact ⟨0, by omega, by simp⟩
    · exact ⟨1, by omega, by simp⟩
    · exact ⟨2, by omega, by simp⟩
    · exact ⟨9, by omega, by simp⟩
  obtain ⟨k, hk, ek⟩ := h
  refine ⟨k, xs', a', m', c', U', hk, ?_⟩
  refine it_rng1 (j := k) ?_ (by omega) (by omega)
  simp [evE, evEs, F.f__law_draw, e, opIdx, seqOf, ek, Lim]
end
theorem rng_get {lo : Int} {k j : Nat} {x : A} (h : (rngA lo k)[j]? = some x) : x = .int (lo + j) ∧ j < k := by
  unfold rngA at h
  rw [List.getElem?_map] at h
  obtain ⟨y, h1, h2⟩ := Option.map_eq_some_iff.mp h
  obtain ⟨h3, h4⟩ := List.getElem?_eq_some_iff.mp h1
  rw [List.length_range] at h3
  rw [List.getElem_range] at h4
  subst h4
  exact ⟨h2.symm, h3⟩
theorem rng_len (lo : Int) (k : Nat) : (rngA lo k).length = k := by simp [rngA]
section
variable {xs : List Int} {a c : Int} {C : Nat} (U : Uok xs a c C) (m : Int) (rest : List O) (n : Nat)
include U
theorem nm_3 (hC : C + 20 < 1000000) (first name : Str) (hn : name.length ≤ 1) (u : Nat) : ∃ (name' : Str) (o : Option CE.C) (xs' : List Int) (a' m' c' : Int), Uok xs' a' c' (C + 10) ∧ name'.length ≤ 10 ∧ (o = none ∨ ∃ a, o = some (.v a)) ∧
    evS (L.P.cfg (evCall L.P (n + 3)) (evCall L.P (n + 2))) (.for (.nm 5) nm3w nm3b) ⟨[some (.v (.ref 1)), some (.v (.str first)), some (.v (.ref u)), some (.v (.str tl62)), some (.v (.str name)), none], urn xs a m c rest⟩ = .nx ⟨[some (.v (.ref 1)), some (.v (.str first)), some (.v (.ref u)), some (.v (.str tl62)), some (.v (.str name')), o], urn xs' a' m' c' rest⟩ := by
  obtain ⟨k, xs1, a1, m1, c1, U1, hk, hi⟩ := nm_it U m rest n (by omega) [some (.v (.str first)), some (.v (.ref u)), some (.v (.str tl62)), some (.v (.str name)), none]
  obtain ⟨s2, h2, name', o', xs2, a2, m2, c2, U2, hn2, ho2, e2⟩ := for_inv (f := fun x s2 => ((evTg (L.P.cfg (evCall L.P (n + 3)) (evCall L.P (n + 2))) (.nm 5) (.v x) s2).stm fun _ s3 => .nx s3).seq fun s3 => evSs (L.P.cfg (evCall L.P (n + 3)) (evCall L.P (n + 2))) nm3b s3) (xs := rngA 0 k) (i := 0)
    (fun i s => ∃ (name' : Str) (o : Option CE.C) (xs' : List Int) (a' m' c' : Int), Uok xs' a' c' (C + 1 + i) ∧ name'.length ≤ 1 + i ∧ (o = none ∨ ∃ a, o = some (.v a)) ∧ s = ⟨[some (.v (.ref 1)), some (.v (.str first)), some (.v (.ref u)), some (.v (.str tl62)), some (.v (.str name')), o], urn xs' a' m' c' rest⟩)
    ⟨name, none, xs1, a1, m1, c1, U1, hn, .inl rfl, rfl⟩ (by
      rintro j x s hx ⟨nm', o, xs', a', m', c', U', hn', ho, rfl⟩
      obtain ⟨rfl, hj⟩ := rng_get hx
      obtain ⟨ch, xs3, a3, m3, c3, U3, e3⟩ := nm_3b U' m' rest n (by omega) first nm' (by omega) u _ o
      refine ⟨_, e3, _, _, _, _, _, _, U3, ?_, .inr ⟨_, rfl⟩, rfl⟩
      rw [slen]
      show nm'.length + 1 ≤ _
      omega)
  subst e2
  rw [rng_len] at U2 hn2
  refine ⟨name', o', xs2, a2, m2, c2, ⟨U2.a0, U2.xs0, U2.c0, by have := U2.c1; omega⟩, by omega, ho2, ?_⟩
  exact for_ok hi h2
theorem nm_4 (first name : Str) (hn : name.length ≤ 10) (u : Nat) (hu : (urn xs a m c rest)[u]? = some (.lst [])) (o : Option CE.C) (ho : o = none ∨ ∃ a, o = some (.v a)) : ∃ (name' : Str), name'.length ≤ 10 ∧
    evS (L.P.cfg (evCall L.P (n + 3)) (evCall L.P (n + 2))) nm4 ⟨[some (.v (.ref 1)), some (.v (.str first)), some (.v (.ref u)), some (.v (.str tl62)), some (.v (.str name)), o], urn xs a m c rest⟩ = .nx ⟨[some (.v (.ref 1)), some (.v (.str first)), some (.v (.ref u)), some (.v (.str tl62)), some (.v (.str name')), o], urn xs a m c rest⟩ := by
  have h1 : ∀ o x, inT ⟨[some (.v (.ref 1)), some (.v (.str first)), some (.v (.ref u)), some (.v (.str tl62)), some (.v (.str name)), o], urn xs a m c rest⟩ (.v (.str x)) (.v (.ref u)) = some false := fun o x => inT_nil _ _ x u hu
  obtain ⟨b1, e1⟩ : ∃ b1, inT ⟨[some (.v (.ref 1)), some (.v (.str first)), some (.v (.ref u)), some (.v (.str tl62)), some (.v (.str name)), o], urn xs a m c rest⟩ (.v (.str (L2.cutS name none (some 2)))) (.v (.tup [A.str "zz", A.str "Zz"])) = some b1 := ⟨_, inT_strs _ _ ["zz", "Zz"]⟩
  obtain ⟨ws, ew⟩ : ∃ ws : List Str, ∀ st, evCall L.P (n + 3) 3 [] st = .ok (.v (.tup (ws.map A.str))) st := ⟨["ask", "calm", "def", "else", "end", "fn", "give", "if", "keep", "kind", "let", "match", "whole"], fun st => rfl⟩
  obtain ⟨b2, e2⟩ : ∃ b2, inT ⟨[some (.v (.ref 1)), some (.v (.str first)), some (.v (.ref u)), some (.v (.str tl62)), some (.v (.str name)), o], urn xs a m c rest⟩ (.v (.str name)) (.v (.tup (ws.map A.str))) = some b2 := ⟨_, inT_strs _ _ ws⟩
  have hc : evE (L.P.cfg (evCall L.P (n + 3)) (evCall L.P (n + 2))) (match nm4 with | .ife k _ _ => k | _ => .dic0) ⟨[some (.v (.ref 1)), some (.v (.str first)), some (.v (.ref u)), some (.v (.str tl62)), some (.v (.str name)), o], urn xs a m c rest⟩ = .ok (.v (.bl (b1 || b2))) ⟨[some (.v (.ref 1)), some (.v (.str first)), some (.v (.ref u)), some (.v (.str tl62)), some (.v (.str name)), o], urn xs a m c rest⟩ := by
    simp only [nm4, b__law_name]
    cases b1
    · simp [evE, evEs, evO, evOr, opSlc, h1, e1, F.f__law_reserved, ew, e2, Lim]
    · simp [evE, evEs, evO, evOr, opSlc, h1, e1, F.f__law_reserved, ew, e2, Lim]
  cases hb : (b1 || b2)
  · refine ⟨name, hn, ?_⟩
    rw [hb] at hc
    have e : nm4 = .ife (match nm4 with | .ife k _ _ => k | _ => .dic0) (match nm4 with | .ife _ k _ => k | _ => .nil) .nil := rfl
    rw [e]
    unfold evS
    rw [hc]
    rfl
  · rw [hb] at hc
    have e : nm4 = .ife (match nm4 with | .ife k _ _ => k | _ => .dic0) (.cons (.asg (.nm 4) (.idx (match nm4 with | .ife _ (.cons (.asg _ (.idx k _)) _) _ => k | _ => .dic0) (.cst (.int 0)))) .nil) .nil := rfl
    have hl : (L2.cutS name none (some 1)).length ≤ 1 := by
      unfold L2.cutS Str.length
      simp [HT.sIx]
      omega
    have hs : Str.ofString (toString (0 : Int)) = ⟨#[48]⟩ := by decide +kernel
    have hz : evE (L.P.cfg (evCall L.P (n + 3)) (evCall L.P (n + 2))) (match nm4 with | .ife _ (.cons (.asg _ (.idx k _)) _) _ => k | _ => .dic0) ⟨[some (.v (.ref 1)), some (.v (.str first)), some (.v (.ref u)), some (.v (.str tl62)), some (.v (.str name)), o], urn xs a m c rest⟩ = .ok (.tl [A.str (L2.cutS name none (some 1) ++ ⟨#[48]⟩)]) ⟨[some (.v (.ref 1)), some (.v (.str first)), some (.v (.ref u)), some (.v (.str tl62)), some (.v (.str name)), o], urn xs a m c rest⟩ := by
      have hr : rngA 0 (Int.toNat 1) = [A.int 0] := rfl
      have hlen : (urn xs a m c rest)[u]? = some (.lst []) := hu
      have hi : evIt (L.P.cfg (evCall L.P (n + 3)) (evCall L.P (n + 2))) (.rng1 (.bin .add (.bf .len (.cons (.var 2) .nil)) (.cst (.int 1)))) ⟨[some (.v (.ref 1)), some (.v (.str first)), some (.v (.ref u)), some (.v (.str tl62)), some (.v (.str name)), o], urn xs a m c rest⟩ = .ok (rngA 0 (Int.toNat 1), []) ⟨[some (.v (.ref 1)), some (.v (.str first)), some (.v (.ref u)), some (.v (.str tl62)), some (.v (.str name)), o], urn xs a m c rest⟩ := by
        refine it_rng1 ?_ (by omega) (by omega)
        simp [evE, evEs, opBf, seqOf, hlen]
      have hk : (L2.cutS name none (some 1)).length + Str.length ⟨#[48]⟩ ≤ Lim := by
        show _ + 1 ≤ 16777216
        omega
      have hd : (decide ((0 : Int).natAbs.log2 < 1920) && decide ((⟨#[48]⟩ : Str).length ≤ Lim)) = true := by decide +kernel
      have hco : comL (lcB (L.P.cfg (evCall L.P (n + 3)) (evCall L.P (n + 2))) [5] (.nm 5) (.some (.cmp .nin (.bin .add (.slc (.var 4) .none (.some (.cst (.int 1)))) (.bf .str (.cons (.var 5) .nil))) (.var 2))) (.frz (.bin .add (.slc (.var 4) .none (.some (.cst (.int 1)))) (.bf .str (.cons (.var 5) .nil)))))
          (rngA 0 (Int.toNat 1)) ⟨borE [some (.v (.ref 1)), some (.v (.str first)), some (.v (.ref u)), some (.v (.str tl62)), some (.v (.str name)), o] [], urn xs a m c rest⟩ = .ok [A.str (L2.cutS name none (some 1) ++ ⟨#[48]⟩)] ⟨[some (.v (.ref 1)), some (.v (.str first)), some (.v (.ref u)), some (.v (.str tl62)), some (.v (.str name)), some (.v (.int 0))], urn xs a m c rest⟩ := by
        rw [hr]
        unfold comL
        have h1' := h1 (some (.v (.int 0)))
        have hob : opBf .str [.v (.int 0)] ⟨[some (.v (.ref 1)), some (.v (.str first)), some (.v (.ref u)), some (.v (.str tl62)), some (.v (.str name)), some (.v (.int 0))], urn xs a m c rest⟩ = .ok (.v (.str ⟨#[48]⟩)) ⟨[some (.v (.ref 1)), some (.v (.str first)), some (.v (.ref u)), some (.v (.str tl62)), some (.v (.str name)), some (.v (.int 0))], urn xs a m c rest⟩ := by
          show (if decide ((0 : Int).natAbs.log2 < 1920) && decide ((Str.ofString (toString (0 : Int))).length ≤ Lim) then R.ok (T.v (.str (Str.ofString (toString (0 : Int))))) _ else .stuck) = _
          rw [hs, if_pos hd]
        simp [lcB, evTg, wipeE, borE, evC, evE, evEs, evO, opSlc, hob, h1', hk, comL]
      have hp : plainAt [some (.v (.ref 1)), some (.v (.str first)), some (.v (.ref u)), some (.v (.str tl62)), some (.v (.str name)), o] [5] = true := by
        rcases ho with rfl | ⟨a, rfl⟩ <;> rfl
      have z := lc_ok hi hp (by decide) hco
      have eb : backE [some (.v (.ref 1)), some (.v (.str first)), some (.v (.ref u)), some (.v (.str tl62)), some (.v (.str name)), o] [some (.v (.ref 1)), some (.v (.str first)), some (.v (.ref u)), some (.v (.str tl62)), some (.v (.str name)), some (.v (.int 0))] ([5] ++ []) = [some (.v (.ref 1)), some (.v (.str first)), some (.v (.ref u)), some (.v (.str tl62)), some (.v (.str name)), o] := by
        rcases ho with rfl | ⟨a, rfl⟩ <;> rfl
      dsimp only at z
      rw [eb] at z
      exact z
    refine ⟨L2.cutS name none (some 1) ++ ⟨#[48]⟩, ?_, ?_⟩
    · rw [slen]
      show _ + 1 ≤ 10
      omega
    · rw [e]
      unfold evS
      rw [hc]
      simp only [R.ok_stm, asBl_bl]
      generalize (match nm4 with | .ife _ (.cons (.asg _ (.idx k _)) _) _ => k | _ => .dic0) = q at hz ⊢
      simp [evSs, evS, evE, hz, opIdx, seqOf, evTg, Q.nx_seq]
theorem name_ok (hC : C + 40 < 1000000) (first : Str) (h0 : 0 < first.length) (h1 : first.length < 1000) (u : Nat) (hu : rest[u]? = some (.lst [])) : ∃ (name : Str) (xs' : List Int) (a' m' c' : Int), Uok xs' a' c' (C + 20) ∧ name.length ≤ 10 ∧
    evCall L.P (n + 4) 4 [.v (.ref 1), .v (.str first), .v (.ref (u + 2))] (urn xs a m c rest) = .ok (.v (.str name)) (urn xs' a' m' c' (rest.set u (.lst [.str name]))) := by
  obtain ⟨ch, xs1, a1, m1, c1, U1, e1⟩ := nm_2 U m rest n (by omega) first h0 h1 (u + 2)
  obtain ⟨name, o, xs2, a2, m2, c2, U2, hn, ho, e2⟩ := nm_3 U1 m1 rest n (by omega) first ⟨#[ch]⟩ (Nat.le_refl _) (u + 2)
  obtain ⟨name', hn', e3⟩ := nm_4 U2 m2 rest n first name hn (u + 2) hu o ho
  refine ⟨name', xs2, a2, m2, c2, ⟨U2.a0, U2.xs0, U2.c0, by have := U2.c1; omega⟩, hn', ?_⟩
  rw [call_eq (F := ⟨3, 6, b__law_name⟩) rfl rfl]
  have hlen : (urn xs2 a2 m2 c2 rest)[u + 2]? = some (.lst []) := hu
  have e4 : evSs (L.P.cfg (evCall L.P (n + 3)) (evCall L.P (n + 2))) nm5 ⟨[some (.v (.ref 1)), some (.v (.str first)), some (.v (.ref (u + 2))), some (.v (.str tl62)), some (.v (.str name')), o], urn xs2 a2 m2 c2 rest⟩ = .rt (.v (.str name')) ⟨[some (.v (.ref 1)), some (.v (.str first)), some (.v (.ref (u + 2))), some (.v (.str tl62)), some (.v (.str name')), o], urn xs2 a2 m2 c2 (rest.set u (.lst [.str name']))⟩ := by
    have hset : (urn xs2 a2 m2 c2 rest).set (u + 2) (.lst [.str name']) = urn xs2 a2 m2 c2 (rest.set u (.lst [.str name'])) := rfl
    have hl : (0 : Nat) < Lim := by decide
    simp [nm5, b__law_name, evSs, evS, evE, evEs, rcvOk, hlen, opMt, setL, Q.nx_seq, Q.rt_seq, hset, hl]
  show endC (evSs _ b__law_name ⟨[some (.v (.ref 1)), some (.v (.str first)), some (.v (.ref (u + 2))), none, none, none], _⟩) = _
  rw [nm_eq, ss_nx (s1 := ⟨[some (.v (.ref 1)), some (.v (.str first)), some (.v (.ref (u + 2))), some (.v (.str tl62)), none, none], _⟩) rfl (ss_nx e1 (ss_nx e2 (ss_nx e3 e4)))]
  rfl
theorem low_ok (hC : C + 60 < 1000000) (u : Nat) (hu : rest[u]? = some (.lst [])) : ∃ (name : Str) (xs' : List Int) (a' m' c' : Int), Uok xs' a' c' (C + 30) ∧ name.length ≤ 10 ∧
    evCall L.P (n + 5) 5 [.v (.ref 1), .v (.ref (u + 2))] (urn xs a m c rest) = .ok (.v (.str name)) (urn xs' a' m' c' (rest.set u (.lst [.str name]))) := by
  rw [call_eq (F := ⟨2, 4, b__law_low⟩) rfl rfl]
  obtain ⟨r, xs1, a1, m1, c1, U1, r0, r1, e1⟩ := draw U (by omega) m 9 (by omega) (by omega) rest (n + 1)
  by_cases hr : r = 0
  · subst hr
    obtain ⟨r2, xs2, a2, m2, c2, U2, q0, q1, e2⟩ := draw U1 (by omega) m1 13 (by omega) (by omega) rest (n + 1)
    obtain ⟨w, hw, ew⟩ := atI_some (xs := [A.str "op", A.str "num", A.str "name", A.str "times", A.str "make", A.str "app", A.str "call", A.str "of", A.str "to", A.str "var", A.str "a", A.str "b", A.str "rest"]) q0 q1
    obtain ⟨name, rfl, hn⟩ : ∃ name, w = .str name ∧ name.length ≤ 10 := by
      simp only [List.mem_cons, List.not_mem_nil, or_false] at hw
      rcases hw with rfl | rfl | rfl | rfl | rfl | rfl | rfl | rfl | rfl | rfl | rfl | rfl | rfl <;> exact ⟨_, rfl, by decide +kernel⟩
    refine ⟨name, xs2, a2, m2, c2, ⟨U2.a0, U2.xs0, U2.c0, by have := U2.c1; omega⟩, hn, ?_⟩
    have hu2 : ∀ a m c xs, (urn xs a m c rest)[u + 2]? = some (.lst []) := fun _ _ _ _ => hu
    have hset : (urn xs2 a2 m2 c2 rest).set (u + 2) (.lst [.str name]) = urn xs2 a2 m2 c2 (rest.set u (.lst [.str name])) := rfl
    have hl : (0 : Nat) < Lim := by decide
    have hl2 : (13 : Nat) ≤ Lim := by decide
    have hin : ∀ E, inT ⟨E, urn xs2 a2 m2 c2 rest⟩ (.v (.str name)) (.v (.ref (u + 2))) = some false := fun E => inT_nil _ _ _ _ hu
    simp [b__law_low, evSs, evS, evE, evEs, F.f__law_draw, e1, e2, evTg, Q.nx_seq, Q.rt_seq, opIdx, seqOf, ew, hin, rcvOk, hu2, opMt, setL, hset, hl, hl2]
    rfl
  · obtain ⟨name, xs2, a2, m2, c2, U2, hn, e2⟩ := name_ok U1 m1 rest n (by omega) "abcdefghijklmnopqrstuvwxyz" (by decide +kernel) (by decide +kernel) u hu
    refine ⟨name, xs2, a2, m2, c2, ⟨U2.a0, U2.xs0, U2.c0, by have := U2.c1; omega⟩, hn, ?_⟩
    simp [b__law_low, evSs, evS, evE, evEs, F.f__law_draw, F.f__law_name, e1, e2, evTg, Q.nx_seq, Q.rt_seq, hr]
    rfl
theorem high_ok (hC : C + 60 < 1000000) (u : Nat) (hu : rest[u]? = some (.lst [])) : ∃ (name : Str) (xs' : List Int) (a' m' c' : Int), Uok xs' a' c' (C + 30) ∧ name.length ≤ 10 ∧
    evCall L.P (n + 5) 6 [.v (.ref 1), .v (.ref (u + 2))] (urn xs a m c rest) = .ok (.v (.str name)) (urn xs' a' m' c' (rest.set u (.lst [.str name]))) := by
  rw [call_eq (F := ⟨2, 2, b__law_high⟩) rfl rfl]
  obtain ⟨name, xs2, a2, m2, c2, U2, hn, e2⟩ := name_ok U m rest n (by omega) "ABCDEFGHIJKLMNOPQRSTUVWXYZ" (by decide +kernel) (by decide +kernel) u hu
  refine ⟨name, xs2, a2, m2, c2, ⟨U2.a0, U2.xs0, U2.c0, by have := U2.c1; omega⟩, hn, ?_⟩
  simp [b__law_high, evSs, evS, evE, evEs, F.f__law_name, e2, evTg, Q.nx_seq, Q.rt_seq]
  rfl
end
def mk0 (k : Str) : A := .exv k [] []
def made (words place what index : A) : List A := [.exv "BadText" ["place"] [place], .exv "NotChecked" ["what"] [what], .exv "NotTyped" ["what"] [what], .exv "NotJoined" ["what"] [what], .exv "Untyped" ["group"] [index],
  mk0 "BadProgram", mk0 "BadName", mk0 "BadOther", mk0 "BadType", mk0 "BadFlags", mk0 "BadTables", mk0 "BadFlows", mk0 "BadShape", mk0 "BadGroup", mk0 "BadPlace", mk0 "BadMarks", mk0 "BadKeep", mk0 "BadArgs", mk0 "BadAnswers", mk0 "NoAsks", mk0 "BadLimit", mk0 "TooGreat"]
theorem made_ok (n : Nat) (words place what index : A) (st : List O) : evCall L.P (n + 3) 8 [.v words, .v place, .v what, .v index] st = .ok (.tl (made words place what index)) st := by
  rfl

def lw (i : Nat) : Sm := match i, b_law with
  | 0, .cons a _ => a
  | 1, .cons _ (.cons a _) => a
  | 2, .cons _ (.cons _ (.cons a _)) => a
  | 3, .cons _ (.cons _ (.cons _ (.cons a _))) => a
  | 4, .cons _ (.cons _ (.cons _ (.cons _ (.cons a _)))) => a
  | 5, .cons _ (.cons _ (.cons _ (.cons _ (.cons _ (.cons a _))))) => a
  | 6, .cons _ (.cons _ (.cons _ (.cons _ (.cons _ (.cons _ (.cons a _)))))) => a
  | 7, .cons _ (.cons _ (.cons _ (.cons _ (.cons _ (.cons _ (.cons _ (.cons a _))))))) => a
  | 8, .cons _ (.cons _ (.cons _ (.cons _ (.cons _ (.cons _ (.cons _ (.cons _ (.cons a _)))))))) => a
  | 9, .cons _ (.cons _ (.cons _ (.cons _ (.cons _ (.cons _ (.cons _ (.cons _ (.cons _ (.cons a _))))))))) => a
  | 10, .cons _ (.cons _ (.cons _ (.cons _ (.cons _ (.cons _ (.cons _ (.cons _ (.cons _ (.cons _ (.cons a _)))))))))) => a
  | 11, .cons _ (.cons _ (.cons _ (.cons _ (.cons _ (.cons _ (.cons _ (.cons _ (.cons _ (.cons _ (.cons _ (.cons a _))))))))))) => a
  | 12, .cons _ (.cons _ (.cons _ (.cons _ (.cons _ (.cons _ (.cons _ (.cons _ (.cons _ (.cons _ (.cons _ (.cons _ (.cons a _)))))))))))) => a
  | _, _ => .pass
theorem lw_eq : b_law = .cons (lw 0) (.cons (lw 1) (.cons (lw 2) (.cons (lw 3) (.cons (lw 4) (.cons (lw 5) (.cons (lw 6) (.cons (lw 7) (.cons (lw 8) (.cons (lw 9) (.cons (lw 10) (.cons (lw 11) (.cons (lw 12) .nil)))))))))))) := rfl
section
variable (n : Nat) (ns words place what index : A) (st : List O)
def le (a b c : Option CE.C) : List (Option CE.C) := [some (.v ns), some (.v (.ref 1)), some (.v words), some (.v place), some (.v index), some (.v what), some (.l true (made words place what index)), a, b, c, none]
theorem lw5 : evS (L.P.cfg (evCall L.P (n + 3)) (evCall L.P (n + 2))) (lw 5) ⟨le ns words place what index none none none, st⟩ = .nx ⟨le ns words place what index (some (.v (.int 21))) none none, st⟩ := by
  kernel_rfl
theorem lw6 : evS (L.P.cfg (evCall L.P (n + 3)) (evCall L.P (n + 2))) (lw 6) ⟨le ns words place what index (some (.v (.int 21))) none none, st⟩ = .nx ⟨le ns words place what index (some (.v (.int 21))) none (some (.v (mk0 "AskError"))), st⟩ := by
  kernel_rfl
theorem lw7 : evS (L.P.cfg (evCall L.P (n + 3)) (evCall L.P (n + 2))) (lw 7) ⟨le ns words place what index (some (.v (.int 21))) none (some (.v (mk0 "AskError"))), st⟩ = .nx ⟨le ns words place what index (some (.v (.int 21))) none (some (.v (mk0 "AskError"))), st⟩ := by
  kernel_rfl
end

theorem same_int (n : Nat) (i : Int) (st : List O) : evCall L.P (n + 3) 2 [.v (.int i), .v (.int i)] st = .ok (.v (.bl true)) st := by
  rw [call_eq (F := ⟨2, 3, b__law_same⟩) rfl rfl]
  simp [b__law_same, evSs, evS, evE, evEs, evAnd, evOr, isTy, Q.nx_seq, Q.rt_seq]
  rfl
theorem same_non (n : Nat) (st : List O) : evCall L.P (n + 3) 2 [.v .non, .v .non] st = .ok (.v (.bl true)) st := by
  kernel_rfl
theorem eqT_str (s : S) (x : Str) : eqT s (.v (.str x)) (.v (.str x)) = some true := by
  show (if shallow (.str x) (.str x) then some (PyData.eqv (.str x) (.str x)) else none) = _
  rw [if_pos (by unfold shallow; rw [Bool.or_eq_true]; exact .inl (decide_eq_true (Nat.zero_le _)))]
  unfold PyData.eqv
  simp
theorem same_str (n : Nat) (x : Str) (st : List O) : evCall L.P (n + 3) 2 [.v (.str x), .v (.str x)] st = .ok (.v (.bl true)) st := by
  rw [call_eq (F := ⟨2, 3, b__law_same⟩) rfl rfl]
  simp [b__law_same, evSs, evS, evE, evEs, evAnd, evOr, isTy, Q.nx_seq, Q.rt_seq, eqT_str]
  rfl
def smw : Wk := .rng1 (.bf .len (.cons (.var 1) .nil))
def smk : OE := .some (.not (.call F.f__law_same (.cons (.idx (.var 0) (.var 2)) (.cons (.idx (.var 1) (.var 2)) .nil)) []))
theorem sm_eq : b__law_same = .cons (.ife (.isi (.var 1) [.tuple]) (.cons (.ife (.or (.cons (.not (.isi (.var 0) [.tuple])) (.cons (.cmp .ne (.bf .len (.cons (.var 0) .nil)) (.bf .len (.cons (.var 1) .nil))) .nil))) (.cons (.rt (.cst (.bl false))) .nil) .nil) (.cons (.rt (.cmp .eq (.lc [2] (.nm 2) smw smk (.frz (.var 2))) (.lst .nil))) .nil)) .nil) (match b__law_same with | .cons _ a => a | _ => .nil) := rfl
theorem sm_it (cfg : Cfg) (xs : List A) (hl : xs.length ≤ 1000) (st : List O) : evIt cfg smw ⟨[some (.v (.tup xs)), some (.v (.tup xs)), none], st⟩ = .ok (rngA 0 xs.length, []) ⟨[some (.v (.tup xs)), some (.v (.tup xs)), none], st⟩ := by
  refine it_rng1 (j := (xs.length : Int)) ?_ (by omega) (by omega)
  simp [evE, evEs]
theorem sm_com (cfg : Cfg) (xs : List A) (st : List O) (H : ∀ x ∈ xs, cfg.call 2 [.v x, .v x] st = .ok (.v (.bl true)) st) : ∃ o2, comL (lcB cfg [2] (.nm 2) smk (.frz (.var 2))) (rngA 0 xs.length) ⟨[some (.v (.tup xs)), some (.v (.tup xs)), none], st⟩ = .ok [] ⟨[some (.v (.tup xs)), some (.v (.tup xs)), o2], st⟩ := by
  obtain ⟨s2, h2, o2, e2⟩ := com_inv (f := lcB cfg [2] (.nm 2) smk (.frz (.var 2))) (g := fun _ => none) (fun s => ∃ o, s = ⟨[some (.v (.tup xs)), some (.v (.tup xs)), o], st⟩) (xs := rngA 0 xs.length) (s := ⟨[some (.v (.tup xs)), some (.v (.tup xs)), none], st⟩) (by
      rintro x hx s ⟨o, rfl⟩
      obtain ⟨j, hj⟩ := List.getElem?_of_mem hx
      obtain ⟨rfl, hj3⟩ := rng_get hj
      have ha : L2.atI xs (0 + (j : Int)) = some xs[j] := by
        unfold L2.atI L2.ixN
        rw [if_pos (by omega), if_pos (by omega)]
        simp [hj3]
      have hH := H xs[j] (List.getElem_mem hj3)
      refine ⟨⟨[some (.v (.tup xs)), some (.v (.tup xs)), some (.v (.int (0 + (j : Int))))], st⟩, ?_, _, rfl⟩
      rw [Int.zero_add] at ha ⊢
      simp [lcB, smk, evTg, wipeE, evC, evE, evEs, opIdx, seqOf, ha, F.f__law_same, hH]) ⟨_, rfl⟩
  subst e2
  have hg : (rngA 0 xs.length).filterMap (fun _ => (none : Option A)) = [] := by simp
  rw [hg] at h2
  exact ⟨o2, h2⟩
theorem sm_lc (cfg : Cfg) (xs : List A) (hl : xs.length ≤ 1000) (st : List O) (H : ∀ x ∈ xs, cfg.call 2 [.v x, .v x] st = .ok (.v (.bl true)) st) : evE cfg (.lc [2] (.nm 2) smw smk (.frz (.var 2))) ⟨[some (.v (.tup xs)), some (.v (.tup xs)), none], st⟩ = .ok (.tl []) ⟨[some (.v (.tup xs)), some (.v (.tup xs)), none], st⟩ := by
  obtain ⟨o2, h2⟩ := sm_com cfg xs st H
  exact lc_ok (sm_it cfg xs hl st) rfl (by rw [rng_len]; exact Nat.le_trans hl (by decide)) h2
theorem sm_b (cfg : Cfg) (q : E) (xs : List A) (st : List O) (h3 : evE cfg q ⟨[some (.v (.tup xs)), some (.v (.tup xs)), none], st⟩ = .ok (.tl []) ⟨[some (.v (.tup xs)), some (.v (.tup xs)), none], st⟩) (r : Sms) : evSs cfg (.cons (.ife (.isi (.var 1) [.tuple]) (.cons (.ife (.or (.cons (.not (.isi (.var 0) [.tuple])) (.cons (.cmp .ne (.bf .len (.cons (.var 0) .nil)) (.bf .len (.cons (.var 1) .nil))) .nil))) (.cons (.rt (.cst (.bl false))) .nil) .nil) (.cons (.rt (.cmp .eq q (.lst .nil))) .nil)) .nil) r) ⟨[some (.v (.tup xs)), some (.v (.tup xs)), none], st⟩ = .rt (.v (.bl true)) ⟨[some (.v (.tup xs)), some (.v (.tup xs)), none], st⟩ := by
  have h4 : eqT ⟨[some (.v (.tup xs)), some (.v (.tup xs)), none], st⟩ (.tl []) (.tl []) = some true := eqT_nil (ds := []) rfl
  simp [evSs, evS, evE, evEs, evAnd, evOr, isTy, Q.nx_seq, Q.rt_seq, h3, h4, asAs]
theorem sm_call (n : Nat) (xs : List A) (st : List O) : evCall L.P (n + 4) 2 [.v (.tup xs), .v (.tup xs)] st = endC (evSs (L.P.cfg (evCall L.P (n + 3)) (evCall L.P (n + 2))) b__law_same ⟨[some (.v (.tup xs)), some (.v (.tup xs)), none], st⟩) := by
  rw [call_eq (F := ⟨2, 3, b__law_same⟩) rfl rfl]
  rfl
theorem same_tup (n : Nat) (xs : List A) (hl : xs.length ≤ 1000) (H : ∀ x ∈ xs, ∀ st, evCall L.P (n + 3) 2 [.v x, .v x] st = .ok (.v (.bl true)) st) (st : List O) : evCall L.P (n + 4) 2 [.v (.tup xs), .v (.tup xs)] st = .ok (.v (.bl true)) st := by
  rw [sm_call, sm_eq, sm_b _ _ xs st (sm_lc _ xs hl st fun x hx => H x hx st)]
  rfl
/-- what is told -/
inductive Sh : Nat → A → Prop
  | non (d : Nat) : Sh d .non
  | int (d : Nat) (i : Int) : Sh d (.int i)
  | str (d : Nat) (x : Str) : Sh d (.str x)
  | tup {d : Nat} {xs : List A} : xs.length ≤ 1000 → (∀ x ∈ xs, Sh d x) → Sh (d + 1) (.tup xs)
theorem same_ok : ∀ {d : Nat} {a : A}, Sh d a → ∀ n st, evCall L.P (n + 3 + d) 2 [.v a, .v a] st = .ok (.v (.bl true)) st
  | d, _, .non _, n, st => by rw [Nat.add_right_comm]; exact same_non (n + d) st
  | d, _, .int _ i, n, st => by rw [Nat.add_right_comm]; exact same_int (n + d) i st
  | d, _, .str _ x, n, st => by rw [Nat.add_right_comm]; exact same_str (n + d) x st
  | _, _, .tup (d := d) (xs := xs) hl h, n, st => by
    rw [show n + 3 + (d + 1) = (n + d) + 4 by omega]
    refine same_tup (n + d) xs hl (fun x hx st => ?_) st
    rw [show n + d + 3 = n + 3 + d by omega]
    exact same_ok (h x hx) n st
end K00
end CEK00p
section CEK00l
set_option maxRecDepth 100000
set_option maxHeartbeats 4000000
namespace K00
open PySem PySem.Spec PyProof.Rows L2 CE
abbrev cfg0 : Cfg := L.P.cfg (evCall L.P 99) (evCall L.P 98)
def ev (ns : A) (a b c d e : Option CE.C) : List (Option CE.C) := [some (.v ns), some (.v (.ref 1)), a, b, c, d, e, none, none, none, none]
theorem l0 (ns : List Int) (hl : ns.length ≤ 63) : ∃ xs m, Uok xs 0 0 0 ∧ evS cfg0 (lw 0) ⟨[some (.v (.lst (ns.map A.int))), none, none, none, none, none, none, none, none, none, none], []⟩ = .nx ⟨ev (.lst (ns.map A.int)) none none none none none, urn xs 0 m 0 []⟩ := by
  obtain ⟨m, h⟩ := deck ns hl 96
  refine ⟨ns.filter fun x => decide (1000000000000000000 ≤ x), m, ⟨by omega, fun x hx => by simpa using (List.mem_filter.mp hx).2, by omega, by omega⟩, ?_⟩
  have h' : cfg0.call 0 [.v (.lst (ns.map A.int))] [] = _ := h
  generalize cfg0 = cfg at h' ⊢
  simp [lw, b_law, evS, evE, evEs, F.f__law_deck, h', evTg, ev, urn]
theorem l1 (ns : A) {xs : List Int} {a c : Int} {C : Nat} (U : Uok xs a c C) (hC : C < 1000) (m : Int) : ∃ (w : Str) (xs' : List Int) (a' m' c' : Int) (rest : List O), Uok xs' a' c' (C + 60) ∧ w.length ≤ 21 ∧
    evS cfg0 (lw 1) ⟨ev ns none none none none none, urn xs a m c []⟩ = .nx ⟨ev ns (some (.v (.str w))) none none none none, urn xs' a' m' c' rest⟩ := by
  obtain ⟨w1, xs1, a1, m1, c1, U1, hw1, e1⟩ := low_ok U m [.lst []] 94 (by omega) 0 rfl
  obtain ⟨w2, xs2, a2, m2, c2, U2, hw2, e2⟩ := high_ok U1 m1 [.lst [.str w1], .lst []] 94 (by omega) 1 rfl
  have h0 : (w1 ++ (" " : Str)).length ≤ 11 := by
    rw [slen]
    have : (" " : Str).length = 1 := by decide +kernel
    omega
  refine ⟨w1 ++ " " ++ w2, xs2, a2, m2, c2, [.lst [.str w1], .lst [.str w2]], ⟨U2.a0, U2.xs0, U2.c0, by have := U2.c1; omega⟩, by rw [slen]; omega, ?_⟩
  have e1' : cfg0.call 5 [.v (.ref 1), .v (.ref 2)] (urn xs a m c [.lst []]) = _ := e1
  have e2' : cfg0.call 6 [.v (.ref 1), .v (.ref 3)] (urn xs1 a1 m1 c1 [.lst [.str w1], .lst []]) = _ := e2
  have hl1 : w1.length + Str.length " " ≤ Lim := by rw [slen] at h0; exact Nat.le_trans h0 (by decide)
  have hl2 : (w1 ++ (" " : Str)).length + w2.length ≤ Lim := Nat.le_trans (Nat.add_le_add h0 hw2) (by decide)
  have hl0 : (0 : Nat) ≤ Lim := Nat.zero_le _
  have p1 : (urn xs a m c []).length = 2 := rfl
  have p2 : urn xs a m c [] ++ [O.lst []] = urn xs a m c [.lst []] := rfl
  have p3 : (urn xs1 a1 m1 c1 [.lst [.str w1]]).length = 3 := rfl
  have p4 : urn xs1 a1 m1 c1 [.lst [.str w1]] ++ [O.lst []] = urn xs1 a1 m1 c1 [.lst [.str w1], .lst []] := rfl
  have s1 : [O.lst []].set 0 (.lst [.str w1]) = [O.lst [.str w1]] := rfl
  have s2 : [O.lst [.str w1], O.lst []].set 1 (.lst [.str w2]) = [O.lst [.str w1], .lst [.str w2]] := rfl
  rw [s1] at e1'
  rw [s2] at e2'
  generalize cfg0 = cfg at e1' e2' ⊢
  simp [lw, b_law, evS, evE, evEs, F.f__law_low, F.f__law_high, e1', e2', evTg, ev, p1, p2, p3, p4, hl0, hl1, hl2]
theorem l2 (ns w : A) {xs : List Int} {a c : Int} {C : Nat} (U : Uok xs a c C) (hC : C < 1000) (m : Int) (rest : List O) : ∃ (i j : Int) (xs' : List Int) (a' m' c' : Int), Uok xs' a' c' (C + 2) ∧
    evS cfg0 (lw 2) ⟨ev ns (some (.v w)) none none none none, urn xs a m c rest⟩ = .nx ⟨ev ns (some (.v w)) (some (.v (.int i))) (some (.v (.int j))) none none, urn xs' a' m' c' rest⟩ := by
  obtain ⟨i, xs1, a1, m1, c1, U1, _, _, e1⟩ := draw U (by omega) m 1000000 (by omega) (by omega) rest 96
  obtain ⟨j, xs2, a2, m2, c2, U2, _, _, e2⟩ := draw U1 (by omega) m1 400 (by omega) (by omega) rest 96
  refine ⟨i, j, xs2, a2, m2, c2, U2, ?_⟩
  have e1' : cfg0.call 1 [.v (.ref 1), .v (.int 1000000)] (urn xs a m c rest) = _ := e1
  have e2' : cfg0.call 1 [.v (.ref 1), .v (.int 400)] (urn xs1 a1 m1 c1 rest) = _ := e2
  generalize cfg0 = cfg at e1' e2' ⊢
  simp [lw, b_law, evS, evE, evEs, F.f__law_draw, e1', e2', evTg, ev]
theorem l3 (ns : A) (w : Str) (hw : w.length ≤ 21) (i j : Int) {xs : List Int} {a c : Int} {C : Nat} (U : Uok xs a c C) (hC : C < 1000) (m : Int) (rest : List O) : ∃ (what : A) (xs' : List Int) (a' m' c' : Int), Sh 2 what ∧
    evS cfg0 (lw 3) ⟨ev ns (some (.v (.str w))) (some (.v (.int i))) (some (.v (.int j))) none none, urn xs a m c rest⟩ = .nx ⟨ev ns (some (.v (.str w))) (some (.v (.int i))) (some (.v (.int j))) (some (.v what)) none, urn xs' a' m' c' rest⟩ := by
  obtain ⟨r, xs1, a1, m1, c1, U1, r0, r1, e1⟩ := draw U (by omega) m 3 (by omega) (by omega) rest 96
  have e1' : cfg0.call 1 [.v (.ref 1), .v (.int 3)] (urn xs a m c rest) = _ := e1
  have h2 : (2 : Nat) ≤ Lim := by decide
  have h3 : (3 : Nat) ≤ Lim := by decide
  obtain ⟨what, hm, ea⟩ := atI_some (xs := [A.tup [.str w, .non], A.tup [.str w, .int i, .tup [.str "use", .int j]], A.tup [.str (L2.cutS w none (some 3)), .str w]]) r0 r1
  refine ⟨what, xs1, a1, m1, c1, ?_, ?_⟩
  · simp only [List.mem_cons, List.not_mem_nil, or_false] at hm
    rcases hm with rfl | rfl | rfl
    · exact .tup (by simp) fun x hx => by
        simp only [List.mem_cons, List.not_mem_nil, or_false] at hx
        rcases hx with rfl | rfl
        · exact .str _ _
        · exact .non _
    · exact .tup (by simp) fun x hx => by
        simp only [List.mem_cons, List.not_mem_nil, or_false] at hx
        rcases hx with rfl | rfl | rfl
        · exact .str _ _
        · exact .int _ _
        · exact .tup (by simp) fun x hx => by
            simp only [List.mem_cons, List.not_mem_nil, or_false] at hx
            rcases hx with rfl | rfl
            · exact .str _ _
            · exact .int _ _
    · exact .tup (by simp) fun x hx => by
        simp only [List.mem_cons, List.not_mem_nil, or_false] at hx
        rcases hx with rfl | rfl
        · exact .str _ _
        · exact .str _ _
  · generalize cfg0 = cfg at e1' ⊢
    simp [lw, b_law, evS, evE, evEs, evO, F.f__law_draw, e1', evTg, ev, opIdx, seqOf, opSlc, ea, h2, h3]
def lv (ns words place what index : A) (a b c d : Option CE.C) : List (Option CE.C) := [some (.v ns), some (.v (.ref 1)), some (.v words), some (.v place), some (.v index), some (.v what), some (.l true (made words place what index)), a, b, c, d]
section
variable (ns words place what index : A) (st : List O) (x y z : Option CE.C)
theorem l4 : evS cfg0 (lw 4) ⟨ev ns (some (.v words)) (some (.v place)) (some (.v index)) (some (.v what)) none, st⟩ = .nx ⟨lv ns words place what index none none none none, st⟩ := by
  kernel_rfl
theorem l8 : evS cfg0 (lw 8) ⟨lv ns words place what index x y z none, st⟩ = .nx ⟨lv ns words place what index x y z (some (.v (.tup [place, what, what, what, index]))), st⟩ := by
  kernel_rfl
theorem l10 (q : Option CE.C) : evS cfg0 (lw 10) ⟨lv ns words place what index x y z q, st⟩ = .nx ⟨lv ns words place what index x y z (some (.v (.tup [index, what, place]))), st⟩ := by
  kernel_rfl
theorem l9 (h : cfg0.call 2 [.v (.tup [place, what, what, what, index]), .v (.tup [place, what, what, what, index])] st = .ok (.v (.bl true)) st) : evS cfg0 (lw 9) ⟨lv ns words place what index x y z (some (.v (.tup [place, what, what, what, index]))), st⟩ = .nx ⟨lv ns words place what index x y z (some (.v (.tup [place, what, what, what, index]))), st⟩ := by
  have h5 : (5 : Nat) ≤ Lim := by decide
  generalize cfg0 = cfg at h ⊢
  simp [lw, b_law, evS, evSs, evE, evEs, F.f__law_same, lv, h, h5]
theorem l11 (h : cfg0.call 2 [.v (.tup [index, what, place]), .v (.tup [index, what, place])] st = .ok (.v (.bl true)) st) : evS cfg0 (lw 11) ⟨lv ns words place what index x y z (some (.v (.tup [index, what, place]))), st⟩ = .nx ⟨lv ns words place what index x y z (some (.v (.tup [index, what, place]))), st⟩ := by
  have h5 : (3 : Nat) ≤ Lim := by decide
  generalize cfg0 = cfg at h ⊢
  simp [lw, b_law, evS, evSs, evE, evEs, F.f__law_same, lv, h, h5]
theorem l12 (q : Option CE.C) (h : cfg0.call 2 [.v (.tup [what, what]), .v (.tup [what, what])] st = .ok (.v (.bl true)) st) : ∃ E, evS cfg0 (lw 12) ⟨lv ns words place what index x y z q, st⟩ = .rt (.v (.bl true)) ⟨E, st⟩ := by
  have e : ∀ (s : S), opBin .mul (.v (.tup [what])) (.v (.int 2)) s = .ok (.v (.tup [what, what])) s := fun s => rfl
  have h5 : (2 : Nat) ≤ Lim := by decide
  have h1 : (1 : Nat) ≤ Lim := by decide
  have hx : evE cfg0 (.tup (.cons (.xfl (.mkk "NotTyped" "what" "what" (.frz (.var 5))) "what") (.cons (.xfl (.mkk "NotJoined" "what" "what" (.frz (.var 5))) "what") .nil))) ⟨lv ns words place what index x y z q, st⟩ = .ok (.v (.tup [what, what])) ⟨lv ns words place what index x y z q, st⟩ := by kernel_rfl
  have el : lw 12 = .rt (.call F.f__law_same (.cons (.tup (.cons (.xfl (.mkk "NotTyped" "what" "what" (.frz (.var 5))) "what") (.cons (.xfl (.mkk "NotJoined" "what" "what" (.frz (.var 5))) "what") .nil))) (.cons (.bin .mul (.tup (.cons (.frz (.var 5)) .nil)) (.cst (.int 2))) .nil)) []) := rfl
  rw [el]
  generalize E.tup (.cons (.xfl (.mkk "NotTyped" "what" "what" (.frz (.var 5))) "what") (.cons (.xfl (.mkk "NotJoined" "what" "what" (.frz (.var 5))) "what") .nil)) = t at hx ⊢
  generalize cfg0 = cfg at h hx ⊢
  refine ⟨lv ns words place what index x y z q, ?_⟩
  unfold lv at hx ⊢
  simp [evS, evSs, evE, evEs, F.f__law_same, h, h5, h1, e, hx]
end
theorem sh_up {d : Nat} {a : A} (h : Sh d a) : Sh (d + 1) a := by
  induction h with
  | non d => exact .non _
  | int d i => exact .int _ _
  | str d x => exact .str _ _
  | tup hl _ ih => exact .tup hl ih
theorem law_ok (ns : List Int) (hl : ns.length ≤ 63) : ∃ st, evCall L.P 100 9 [.v (.lst (ns.map A.int))] [] = .ok (.v (.bl true)) st := by
  obtain ⟨xs, m, U, e0⟩ := l0 ns hl
  obtain ⟨w, xs1, a1, m1, c1, rest, U1, hw, e1⟩ := l1 (.lst (ns.map A.int)) U (by omega) m
  obtain ⟨i, j, xs2, a2, m2, c2, U2, e2⟩ := l2 (.lst (ns.map A.int)) (.str w) U1 (by omega) m1 rest
  obtain ⟨what, xs3, a3, m3, c3, hs, e3⟩ := l3 (.lst (ns.map A.int)) w hw i j U2 (by omega) m2 rest
  have sm : ∀ as : List A, as.length ≤ 1000 → (∀ a ∈ as, Sh 2 a) → ∀ st, cfg0.call 2 [.v (.tup as), .v (.tup as)] st = .ok (.v (.bl true)) st := fun as h1 h2 st => same_ok (.tup (d := 2) h1 h2) 93 st
  have hi : ∀ i, Sh 2 (.int i) := fun i => .int _ i
  obtain ⟨E, e12⟩ := l12 (.lst (ns.map A.int)) (.str w) (.int i) what (.int j) (urn xs3 a3 m3 c3 rest) (some (.v (.int 21))) none (some (.v (mk0 "AskError"))) (some (.v (.tup [.int j, what, .int i]))) (sm _ (by simp) (by simp [hs]) _)
  have z := ss_rt (xs := .nil) e12
  have z := ss_nx (l11 (.lst (ns.map A.int)) (.str w) (.int i) what (.int j) (urn xs3 a3 m3 c3 rest) (some (.v (.int 21))) none (some (.v (mk0 "AskError"))) (sm _ (by simp) (by simp [hs, hi]) _)) z
  have z := ss_nx (l10 (.lst (ns.map A.int)) (.str w) (.int i) what (.int j) (urn xs3 a3 m3 c3 rest) (some (.v (.int 21))) none (some (.v (mk0 "AskError"))) (some (.v (.tup [.int i, what, what, what, .int j])))) z
  have z := ss_nx (l9 (.lst (ns.map A.int)) (.str w) (.int i) what (.int j) (urn xs3 a3 m3 c3 rest) (some (.v (.int 21))) none (some (.v (mk0 "AskError"))) (sm _ (by simp) (by simp [hs, hi]) _)) z
  have z := ss_nx (l8 (.lst (ns.map A.int)) (.str w) (.int i) what (.int j) (urn xs3 a3 m3 c3 rest) (some (.v (.int 21))) none (some (.v (mk0 "AskError")))) z
  have z := ss_nx (lw7 96 (.lst (ns.map A.int)) (.str w) (.int i) what (.int j) (urn xs3 a3 m3 c3 rest)) z
  have z := ss_nx (lw6 96 (.lst (ns.map A.int)) (.str w) (.int i) what (.int j) (urn xs3 a3 m3 c3 rest)) z
  have z := ss_nx (lw5 96 (.lst (ns.map A.int)) (.str w) (.int i) what (.int j) (urn xs3 a3 m3 c3 rest)) z
  have z := ss_nx (l4 (.lst (ns.map A.int)) (.str w) (.int i) what (.int j) (urn xs3 a3 m3 c3 rest)) z
  have z := ss_nx e0 (ss_nx e1 (ss_nx e2 (ss_nx e3 z)))
  rw [← lw_eq] at z
  refine ⟨urn xs3 a3 m3 c3 rest, ?_⟩
  have y : evCall L.P 100 9 [.v (.lst (ns.map A.int))] [] = endC (evSs cfg0 b_law ⟨[some (.v (.lst (ns.map A.int))), none, none, none, none, none, none, none, none, none, none], []⟩) := call_eq (n := 97) (F := ⟨1, 11, b_law⟩) rfl rfl
  rw [y, z]
  rfl
end K00
end CEK00l
section CEK00e
set_option maxRecDepth 100000
set_option maxHeartbeats 0
open PySem PySem.W PySem.Calls PyProof.Rows
theorem PySem.Challenge.cw_asksanswered_k00_errors_holds : PySem.Challenge.rw_asksanswered_k00_errors.Holds := by
  w_on; o_law
  refine HandSHeadRun.head_any (r := OpenLaw.row PySem.Challenge.rw_asksanswered_k00_errors) (q := view (OpenLaw.row PySem.Challenge.rw_asksanswered_k00_errors).prog [34]) (H := K00.hk) (ob := K00.ob) (M := 40000) (loose := K00.names) (d := HandSHeadRun.topDef (OpenLaw.row PySem.Challenge.rw_asksanswered_k00_errors).prog 34) (kwd := []) K00.ob_eq
    (by kernel_rfl) (fun s => by kernel_rfl) K00.run (by kernel_rfl) (by kernel_rfl) (by kernel_rfl) (by rfl) (by first | assumption | decide +kernel) (by decide +kernel) ⟨rfl, rfl, rfl, rfl, rfl, by decide +kernel⟩ ?hw ?hc
  case hw => w_witness2
  case hc =>
    refine L2.walk_ofE (l := PySem.Challenge.rw_asksanswered_k00_errors) (n := 63) (k := 100) (x := "script") (CX := L2.CX0) rfl (by decide) (by kernel_rfl) ⟨rfl, by decide, by decide⟩ ?F (fun _ _ _ _ z => z)
    intro w mg fa h Y G hmg0
    have hmg : mg ("law" : PySem.Str) = some (.ref fa) := by
      have e : (HandSHeadRun.topDef (OpenLaw.row PySem.Challenge.rw_asksanswered_k00_errors).prog 34).name = ("law" : PySem.Str) := by kernel_rfl
      rw [← e]
      exact hmg0
    exact CE.law_end (L := K00.L) (d := K00.d_law) rfl (by decide +kernel) K00.xs_ok (fun c => K00.fis c) (fun c => K00.fx_law c) K00.law_ok Y G hmg
end CEK00e
