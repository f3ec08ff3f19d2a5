import PyProof.Rows.All
import KE.KDictKeyed
import KE.KDictDisplayH
import Wide.All
import OpenK.AllK
import Wide.FinOn
import HandS.ForMost
import HandS.ForExc
import HandS.Wide
import HandS.Flow
import HandS.Style
import HandS.TupMul
import HandS.TupLe
import HandS.TupAny
import HandS.Conv
import HandS.IsInst
import HandS.Deep
import HandS.IntHex
import HandS.Strs
import HandS.More
import KE.DataEq
import KE.SortData
import KE.LtData
import KE.DataMinMax
import HandS.TupLen
import HandS.Defaults
import HandS.Ends
import HandS.HeadEnd
import HandS.NoneIn
import HandS.Zip
import HandS.TupSets
import KE.KDictCopyH
import KE.KDictPairs
import PyProof.ReprRoads
import PyProof.ReprLen
import PyProof.CallFns
import PyProof.Rows.StrBoot
import HandS.WideMore
import HandS.Head0
import HandS.Head1
import HandS.Head2
import HandS.HeadHook1
import HandS.HeadHook2
import HandS.Words
import HandS.WordsExc
import KE.KStateDown
import HandS.HeadHook4
import PySem.Challenge.RW_paperworlds_k03_patterns_told
set_option autoImplicit false
set_option Elab.async false
set_option linter.all false
set_option maxRecDepth 100000
set_option maxHeartbeats 2000000
set_option maxHeartbeats 1000000
set_option maxHeartbeats 4000000
/-! Pv0: trees for Python values, a small language, its evaluator. Plain Lean. -/
namespace Py

inductive PV where
  | non
  | bl (b : Bool)
  | int (i : Int)
  | str (s : List Nat)
  | tup (l : List PV)
  | lst (l : List PV)
  | dict (t : Bool) (ks vs : List PV)
  | set (l : List PV)
  /-- the script's own list -/
  | scr (l : List Int)
  deriving Inhabited

/-- the longest list, text (2 ^ 24) -/
def line : Nat := 16777216

/-! ### equality, order -/
def b2i : Bool → Int
  | true => 1
  | false => 0
mutual
def eqv : PV → PV → Bool
  | .non, b => (match b with | .non => true | _ => false)
  | .bl x, b => (match b with | .bl y => x == y | .int j => decide (b2i x = j) | _ => false)
  | .int i, b => (match b with | .int j => decide (i = j) | .bl y => decide (i = b2i y) | _ => false)
  | .str s, b => (match b with | .str t => decide (s = t) | _ => false)
  | .tup xs, b => (match b with | .tup ys => eqvL xs ys | _ => false)
  | .lst xs, b => (match b with | .lst ys => eqvL xs ys | _ => false)
  | .dict _ _ _, _ => false
  | .set _, _ => false
  | .scr _, _ => false
def eqvL : List PV → List PV → Bool
  | [], ys => (match ys with | [] => true | _ :: _ => false)
  | x :: xs, ys => (match ys with | [] => false | y :: ys => eqv x y && eqvL xs ys)
end
mutual
/-- comparable, place by place -/
def alk : PV → PV → Bool
  | .non, b => (match b with | .non => true | _ => false)
  | .bl _, b => (match b with | .bl _ => true | _ => false)
  | .int _, b => (match b with | .int _ => true | _ => false)
  | .str _, b => (match b with | .str _ => true | _ => false)
  | .tup xs, b => (match b with | .tup ys => alkL xs ys | _ => false)
  | .lst xs, b => (match b with | .lst ys => alkL xs ys | _ => false)
  | .dict _ _ _, _ => false
  | .set _, _ => false
  | .scr _, _ => false
def alkL : List PV → List PV → Bool
  | [], _ => true
  | x :: xs, ys => (match ys with | [] => true | y :: ys => alk x y && alkL xs ys)
end
def natsLt : List Nat → List Nat → Bool
  | [], ys => (match ys with | [] => false | _ :: _ => true)
  | x :: xs, ys => (match ys with | [] => false | y :: ys => if x = y then natsLt xs ys else decide (x < y))
mutual
def ltv : PV → PV → Bool
  | .non, _ => false
  | .bl x, b => (match b with | .bl y => !x && y | _ => false)
  | .int i, b => (match b with | .int j => decide (i < j) | _ => false)
  | .str s, b => (match b with | .str t => natsLt s t | _ => false)
  | .tup xs, b => (match b with | .tup ys => ltvL xs ys | _ => false)
  | .lst xs, b => (match b with | .lst ys => ltvL xs ys | _ => false)
  | .dict _ _ _, _ => false
  | .set _, _ => false
  | .scr _, _ => false
def ltvL : List PV → List PV → Bool
  | [], ys => (match ys with | [] => false | _ :: _ => true)
  | x :: xs, ys => (match ys with | [] => false | y :: ys => if eqv x y then ltvL xs ys else ltv x y)
end
/-- no dict, no set; not deep -/
def plainD : Nat → PV → Bool
  | 0, v => (match v with | .non => true | .bl _ => true | .int _ => true | .str _ => true | _ => false)
  | n + 1, v => (match v with
    | .non => true | .bl _ => true | .int _ => true | .str _ => true
    | .tup l => l.all (plainD n) | .lst l => l.all (plainD n)
    | .dict _ _ _ => false | .set _ => false | .scr _ => false)
abbrev plain : PV → Bool := plainD 20
/-- nothing that could be changed within -/
def pureD : Nat → PV → Bool
  | 0, v => (match v with | .non => true | .bl _ => true | .int _ => true | .str _ => true | _ => false)
  | n + 1, v => (match v with
    | .non => true | .bl _ => true | .int _ => true | .str _ => true
    | .tup l => l.all (pureD n) | .lst _ => false
    | .dict _ _ _ => false | .set _ => false | .scr _ => false)
abbrev pureV : PV → Bool := pureD 20

/-- stable insertion -/
def insV (x : PV) : List PV → List PV
  | [] => [x]
  | y :: ys => if ltv y x then y :: insV x ys else x :: y :: ys
def sortV : List PV → List PV
  | [] => []
  | x :: xs => insV x (sortV xs)

/-! ### what an expression gives -/
inductive Slot where
  | none
  | sh (v : PV)
  | own (v : PV)
  deriving Inhabited
abbrev Env := List Slot
inductive R where
  | sh (v : PV)
  | own (v : PV)
  | slot (i : Nat)
/-- a built-in's answer -/
inductive Res where
  | sh (v : PV)
  | own (v : PV)
def Res.r : Res → R
  | .sh v => .sh v
  | .own v => .own v
/-- a def's answer: own: the value is new; out: what its first argument holds (where that is changed) -/
structure Ret where
  own : Bool
  val : PV
  out : PV
structure Den where
  np : Nat
  io : Bool
  f : List PV → Option Ret
structure Tab where
  glob : Nat → Option PV
  fn : Nat → Option Den
  /-- slot 0 is handed back -/
  io : Bool

def slotAt (ρ : Env) (i : Nat) : Slot := ρ.getD i .none
/-- look, freeze nothing -/
def pk (r : R) (ρ : Env) : Option PV :=
  match r with
  | .sh v => some v
  | .own v => some v
  | .slot i => (match slotAt ρ i with | .none => none | .sh v => some v | .own v => some v)
/-- freeze -/
def fz (r : R) (ρ : Env) : Option (PV × Env) :=
  match r with
  | .sh v => some (v, ρ)
  | .own v => some (v, ρ)
  | .slot i => (match slotAt ρ i with | .none => none | .sh v => some (v, ρ) | .own v => some (v, ρ.set i (.sh v)))
def pkL : List R → Env → Option (List PV)
  | [], _ => some []
  | r :: rs, ρ => (match pk r ρ with | none => none | some v => (match pkL rs ρ with | none => none | some vs => some (v :: vs)))
def fzL : List R → Env → Option (List PV × Env)
  | [], ρ => some ([], ρ)
  | r :: rs, ρ => (match fz r ρ with | none => none | some (v, ρ1) => (match fzL rs ρ1 with | none => none | some (vs, ρ2) => some (v :: vs, ρ2)))
/-- a temporary of one's own is frozen when it waits -/
def wt : R → R
  | .own v => .sh v
  | r => r

/-! ### the language -/
inductive UnOp where
  | neg
inductive BiOp where
  | add | sub | mul | fdiv | mod
inductive CmOp where
  | eq | ne | lt | le | gt | ge | isN | notN | isT | notT | inn | nin
inductive Blt where
  | len | abs | int | intb | str | min | max | sum | sorted | tuple | list | all | any | bool
  | isi (ts : List Nat)
  /-- list(range(..)) -/
  | lrng
/-- those that have a rule of their own -/
def spB : Blt → Bool | .isi _ => true | .lrng => true | _ => false
inductive Mth where
  | join | index | count
inductive Mut where
  | append | extend | pop0 | popAt
inductive T where
  | name (i : Nat)
  | tup (ts : List T)

mutual
inductive E where
  | var (i : Nat)
  | con (v : PV)
  | glob (g : Nat)
  | tup (es : Es)
  | lst (es : Es)
  | un (o : UnOp) (a : E)
  | bin (o : BiOp) (a b : E)
  | cmp (o : CmOp) (a b : E)
  | cmp2 (o o' : CmOp) (a b c : E)
  | not (a : E)
  | and (es : Es)
  | or (es : Es)
  | ite (c a b : E)
  | ix (a i : E)
  | sl (a lo hi : E)
  | rev (a : E)
  | sst (lo k : Nat) (a : E)
  | dprs (a : E)
  /-- repr(a): its text stands as a mark of the value -/
  | rpr (a : E)
  /-- sorted(set(a)), len(set(a)) -/
  | cset (b : Bool) (a : E)
  /-- an empty dict, its keys ints and texts -/
  | dnew (t : Bool)
  /-- a dict written out, its keys texts -/
  | disp (ks : List (List Nat)) (es : Es)
  /-- a dict written out, its keys tuples: key, value, key, value .. -/
  | dispT (es : Es)
  | abs
  | bi (b : Blt) (es : Es)
  | mt (m : Mth) (o : E) (es : Es)
  | pop (x : Nat) (m : Mut) (es : Es)
  | fn (k : Nat) (es : Es)
  | lc (e : E) (t : T) (it : I) (cs : Es) (own : List Nat)
inductive Es where
  | nil
  | cons (e : E) (es : Es)
/-- what a for walks -/
inductive I where
  | seq (e : E)
  | rng (es : Es)
  | zip (a b : E)
end
def isAbs : E → Bool
  | .abs => true
  | _ => false
mutual
inductive S where
  | asg (t : T) (e : E)
  | par (is : List Nat) (es : Es)
  | aug (i : Nat) (o : BiOp) (e : E)
  | setix (x : Nat) (i e : E)
  /-- d[i] = e of a dict of one's own -/
  | setkey (x : Nat) (i e : E)
  | mut (m : Mut) (x : Nat) (es : Es)
  | expr (e : E)
  | ret (e : E)
  | retN
  | ife (c : E) (a b : Ss)
  | for (t : T) (it : I) (b : Ss)
  | while (c : E) (b : Ss)
  | brk
  | cnt
  | pas
  | never
inductive Ss where
  | nil
  | cons (s : S) (ss : Ss)
end

/-! ### operations on values -/
def mulOk (i j : Int) : Bool := decide (i.natAbs < 18446744073709551616) || decide (j.natAbs < 18446744073709551616)
def divOk (j : Int) : Bool := decide (j ≠ 0) && decide (j.natAbs < 1073741824)
/-- a divisor -/
def divW (j : Int) : Bool := decide (j ≠ 0) && decide (j.natAbs < 115792089237316195423570985008687907853269984665640564039457584007913129639936)
def repL (n : Nat) (l : List PV) : List PV := (List.replicate n l).flatten
def repS (n : Nat) (l : List Nat) : List Nat := (List.replicate n l).flatten
def bin2 (o : BiOp) (x y : PV) : Option Res :=
  match o with
  | .add => (match x with
    | .int i => (match y with | .int j => some (.sh (.int (i + j))) | _ => none)
    | .str s => (match y with | .str t => if s.length + t.length ≤ line then some (.sh (.str (s ++ t))) else none | _ => none)
    | .tup s => (match y with | .tup t => if s.length + t.length ≤ line then some (.sh (.tup (s ++ t))) else none | _ => none)
    | .lst s => (match y with | .lst t => if s.length + t.length ≤ line then some (.own (.lst (s ++ t))) else none | _ => none)
    | _ => none)
  | .sub => (match x with
    | .int i => (match y with | .int j => some (.sh (.int (i - j))) | _ => none)
    | _ => none)
  | .mul => (match x with
    | .int i => (match y with | .int j => if mulOk i j then some (.sh (.int (i * j))) else none | _ => none)
    | .lst s => (match y with | .int j => if s.length * j.toNat ≤ line && decide (j.natAbs < 1000000) then some (.own (.lst (repL j.toNat s))) else none | _ => none)
    | .str s => (match y with | .int j => if s.length * j.toNat ≤ line && decide (j.natAbs < 1000000) then some (.sh (.str (repS j.toNat s))) else none | _ => none)
    | .tup s => (match y with | .int j => if (!s.isEmpty) && decide (2 ≤ j) && decide (j ≤ 1000) && decide (s.length ≤ 1000) then some (.sh (.tup (repL j.toNat s))) else none | _ => none)
    | _ => none)
  | .fdiv => (match x with
    | .int i => (match y with | .int j => if divW j then some (.sh (.int (i.fdiv j))) else none | _ => none)
    | _ => none)
  | .mod => (match x with
    | .int i => (match y with | .int j => if j = 0 then none else some (.sh (.int (i.fmod j))) | _ => none)
    | _ => none)
/-- x op= y -/
def aug2 (o : BiOp) (x y : PV) : Option PV :=
  match o with
  | .add => (match x with
    | .int i => (match y with | .int j => some (.int (i + j)) | _ => none)
    | .str s => (match y with | .str t => if s.length + t.length ≤ line then some (.str (s ++ t)) else none | _ => none)
    | _ => none)
  | .sub => (match x with | .int i => (match y with | .int j => some (.int (i - j)) | _ => none) | _ => none)
  | .mul => (match x with | .int i => (match y with | .int j => if mulOk i j then some (.int (i * j)) else none | _ => none) | _ => none)
  | .fdiv => (match x with | .int i => (match y with | .int j => if 0 < j && divW j then some (.int (i / j)) else none | _ => none) | _ => none)
  | .mod => (match x with | .int i => (match y with | .int j => if 0 < j then some (.int (i % j)) else none | _ => none) | _ => none)
def un1 (o : UnOp) (x : PV) : Option Res :=
  match o with
  | .neg => (match x with | .int i => some (.sh (.int (-i))) | _ => none)
/-- is y in the list -/
def memV (x : PV) (l : List PV) : Bool := l.any fun y => eqv y x
def okSb (s : List Nat) : Bool := decide (s.length ≤ line) && s.all fun c => decide (c < 1114112)
/-- a key of a dict: an int, a text -/
def leafK : PV → Bool
  | .int _ => true
  | .str s => okSb s
  | _ => false
def isTupP (p : PV) : Bool := match p with | .tup l => pureD 8 (.tup l) | _ => false
/-- a key of such a dict -/
def keyB (t : Bool) (k : PV) : Bool := if t then isTupP k else leafK k
/-- what a dict holds at y -/
def lookV (y : PV) : List PV → List PV → Option PV
  | [], _ => none
  | k :: ks, vs => (match vs with | [] => none | v :: vs => if eqv k y then some v else lookV y ks vs)
def putKs (y : PV) (ks : List PV) : List PV := if ks.any (fun p => eqv p y) then ks else ks ++ [y]
def putAt (y v : PV) : List PV → List PV → List PV
  | [], vs => vs
  | p :: ks, vs => (match vs with | [] => [] | w :: vs => (if eqv p y then v else w) :: putAt y v ks vs)
def putVs (y v : PV) (ks vs : List PV) : List PV := if ks.any (fun p => eqv p y) then putAt y v ks vs else vs ++ [v]
mutual
/-- the same tree -/
def sameV : PV → PV → Bool
  | .non, b => (match b with | .non => true | _ => false)
  | .bl x, b => (match b with | .bl y => x == y | _ => false)
  | .int i, b => (match b with | .int j => decide (i = j) | _ => false)
  | .str s, b => (match b with | .str t => decide (s = t) | _ => false)
  | .tup xs, b => (match b with | .tup ys => sameL xs ys | _ => false)
  | .lst xs, b => (match b with | .lst ys => sameL xs ys | _ => false)
  | .dict _ _ _, _ => false
  | .set _, _ => false
  | .scr _, _ => false
def sameL : List PV → List PV → Bool
  | [], ys => (match ys with | [] => true | _ :: _ => false)
  | x :: xs, ys => (match ys with | [] => false | y :: ys => sameV x y && sameL xs ys)
end
mutual
theorem sameV_eq : ∀ a b : PV, sameV a b = true → a = b
  | .non, b, h => by cases b <;> first | rfl | cases h
  | .bl x, b, h => by
    cases b with
    | bl y =>
      have h : (x == y) = true := h
      rw [eq_of_beq h]
    | _ => cases h
  | .int x, b, h => by
    cases b with
    | int y => rw [of_decide_eq_true (show decide (x = y) = true from h)]
    | _ => cases h
  | .str x, b, h => by
    cases b with
    | str y => rw [of_decide_eq_true (show decide (x = y) = true from h)]
    | _ => cases h
  | .tup x, b, h => by
    cases b with
    | tup y => rw [sameL_eq x y h]
    | _ => cases h
  | .lst x, b, h => by
    cases b with
    | lst y => rw [sameL_eq x y h]
    | _ => cases h
  | .dict _ _ _, _, h => by cases h
  | .set _, _, h => by cases h
  | .scr _, _, h => by cases h
theorem sameL_eq : ∀ a b : List PV, sameL a b = true → a = b
  | [], b, h => by cases b <;> first | rfl | cases h
  | x :: xs, b, h => by
    cases b with
    | nil => cases h
    | cons y ys =>
      have h : (sameV x y && sameL xs ys) = true := h
      rw [Bool.and_eq_true] at h
      rw [sameV_eq x y h.1, sameL_eq xs ys h.2]
end
/-- two texts that repr gave -/
def rpEq (x y : PV) : Bool := match x with
  | .set [.non, a] => (match y with | .set [.non, b] => sameV a b | _ => false)
  | _ => false
mutual
/-- how heavy -/
def wgtV : PV → Nat
  | .non => 0
  | .bl _ => 0
  | .int _ => 64
  | .str s => s.length
  | .tup l => wgtL l
  | .lst l => wgtL l
  | .dict _ _ _ => 0
  | .set _ => 0
  | .scr _ => 0
def wgtL : List PV → Nat
  | [] => 0
  | x :: xs => wgtV x + 1 + wgtL xs
end
mutual
/-- its numbers small -/
def smI : PV → Bool
  | .non => true
  | .bl _ => true
  | .int i => decide (i.natAbs < 100000000000)
  | .str _ => true
  | .tup l => smL l
  | .lst l => smL l
  | .dict _ _ _ => false
  | .set _ => false
  | .scr _ => false
def smL : List PV → Bool
  | [] => true
  | x :: xs => smI x && smL xs
end
/-- what repr serves -/
def rpOk (v : PV) : Bool := plain v && smI v && decide (wgtV v ≤ 1000000)
def rpr1 (x : PV) : Option Res := if rpOk x then some (.sh (.set [.non, x])) else none
def cmpB (o : CmOp) (x y : PV) : Option Bool :=
  match o with
  | .eq => if plain x && plain y then some (eqv x y) else if rpEq x y then some true else none
  | .ne => if plain x && plain y then some (!eqv x y) else if rpEq x y then some false else none
  | .lt => (match x with
    | .int i => (match y with | .int j => some (decide (i < j)) | _ => none)
    | .non => none
    | _ => if plain x && plain y && alk x y then some (ltv x y) else none)
  | .gt => (match x with | .int i => (match y with | .int j => some (decide (j < i)) | _ => none) | _ => none)
  | .le => (match x with | .int i => (match y with | .int j => some (decide (i ≤ j)) | _ => none) | _ => none)
  | .ge => (match x with | .int i => (match y with | .int j => some (decide (j ≤ i)) | _ => none) | _ => none)
  | .isN => (match y with | .non => some (match x with | .non => true | _ => false) | _ => none)
  | .notN => (match y with | .non => some (match x with | .non => false | _ => true) | _ => none)
  | .isT => (match y with | .bl b => (match x with | .bl a => some (a == b) | _ => none) | _ => none)
  | .notT => (match y with | .bl b => (match x with | .bl a => some (!(a == b)) | _ => none) | _ => none)
  | .inn => (match y with
    | .lst l => if plain x && plain (.lst l) then some (memV x l) else none
    | .tup l => if plain x && plain (.tup l) then some (memV x l) else none
    | .str t => (match x with | .str [c] => some (decide (c ∈ t)) | _ => none)
    | .dict t ks vs => if keyB t x then some (lookV x ks vs).isSome else none
    | _ => none)
  | .nin => (match y with
    | .lst l => if plain x && plain (.lst l) then some (!memV x l) else none
    | .tup l => if plain x && plain (.tup l) then some (!memV x l) else none
    | .str t => (match x with | .str [c] => some (!decide (c ∈ t)) | _ => none)
    | .dict t ks vs => if keyB t x then some (!(lookV x ks vs).isSome) else none
    | _ => none)
def truV (x : PV) : Option Bool :=
  match x with
  | .non => some false
  | .bl b => some b
  | .int i => some (decide (i ≠ 0))
  | .str s => some (!s.isEmpty)
  | .tup l => some (!l.isEmpty)
  | .lst l => some (!l.isEmpty)
  | _ => none
/-- the place of an index of any sign -/
def ixN (n : Nat) (i : Int) : Option Nat := if 0 ≤ i then (if i < n then some i.toNat else none) else if -(n : Int) ≤ i then some (i + n).toNat else none
def atV {α : Type} (l : List α) (i : Int) : Option α := (ixN l.length i).bind fun j => l[j]?
/-- what a table holds at a text: texts and values by turns -/
def tabAt (z : List Nat) : List PV → Option PV
  | .str s :: v :: r => if s = z then some v else tabAt z r
  | _ => none
def ix2 (x i : PV) : Option Res :=
  match x with
  | .lst l => (match i with | .int j => (atV l j).map .sh | _ => none)
  | .tup l => (match i with | .int j => (atV l j).map .sh | _ => none)
  | .str s => (match i with | .int j => (atV s j).map fun c => .sh (.str [c]) | _ => none)
  | .dict t ks vs => if keyB t i then (lookV i ks vs).map .sh else none
  | .set l => (match i with | .str z => (tabAt z l).map .sh | _ => none)
  | _ => none
/-- where a slice's end stands -/
def cutAt (n d : Nat) : Option Int → Nat
  | none => d
  | some i => if i < 0 then (i + n).toNat else min i.toNat n
def cutL {α : Type} (l : List α) (lo hi : Option Int) : List α := (l.drop (cutAt l.length 0 lo)).take (cutAt l.length l.length hi - cutAt l.length 0 lo)
def sl3 (x : PV) (lo hi : Option Int) : Option Res :=
  match x with
  | .lst l => some (.own (.lst (cutL l lo hi)))
  | .tup l => some (.sh (.tup (cutL l lo hi)))
  | .str s => some (.sh (.str (cutL s lo hi)))
  | .scr l => some (.own (.lst ((cutL l lo hi).map .int)))
  | _ => none
/-- every k-th letter of a text from lo on -/
def kthL (lo k : Nat) (s : List Nat) : List Nat := (List.range ((s.length - lo + k - 1) / k)).filterMap fun j => s[lo + k * j]?
def sst1 (lo k : Nat) (x : PV) : Option Res :=
  match x with
  | .str s => if 2 ≤ k then some (.sh (.str (kthL lo k s))) else none
  | _ => none
def rev1 (x : PV) : Option Res :=
  match x with
  | .lst l => some (.own (.lst l.reverse))
  | .tup l => some (.sh (.tup l.reverse))
  | .str s => some (.sh (.str s.reverse))
  | _ => none
def intsOf : List PV → Option (List Int)
  | [] => some []
  | .int i :: r => (intsOf r).map (i :: ·)
  | _ :: _ => none
def blsOf : List PV → Option (List Bool)
  | [] => some []
  | .bl b :: r => (blsOf r).map (b :: ·)
  | _ :: _ => none
def strsOf : List PV → Option (List (List Nat))
  | [] => some []
  | .str s :: r => (strsOf r).map (s :: ·)
  | _ :: _ => none
def joinS (sep : List Nat) : List (List Nat) → List Nat
  | [] => []
  | [s] => s
  | s :: r => s ++ sep ++ joinS sep r
def maxI : Int → List Int → Int
  | m, [] => m
  | m, i :: r => maxI (if m < i then i else m) r
def minI : Int → List Int → Int
  | m, [] => m
  | m, i :: r => minI (if i < m then i else m) r
/-- the binary digits of a text -/
def bin0 : Nat → List Nat → Option Nat
  | n, [] => some n
  | n, c :: r => if c = 48 then bin0 (2 * n) r else if c = 49 then bin0 (2 * n + 1) r else none
def binOf (s : List Nat) : Option Nat := if s.isEmpty then none else bin0 0 s
def alikeL : List PV → Bool
  | [] => true
  | x :: r => r.all (fun y => alk x y && alk y x) && alikeL r
def sortOk (l : List PV) : Bool := alikeL l && l.all (fun x => alk x x) && plain (.lst l) && l.all (fun x => match x with | .non => false | .tup [] => false | _ => true)
/-- the first of the least -/
def minV : PV → List PV → PV
  | m, [] => m
  | m, y :: r => minV (if ltv y m then y else m) r
def minT (l : List PV) : Option Res := match l with
  | [] => none
  | x :: r => if sortOk (x :: r) then some (.sh (minV x r)) else none
/-- the first of each kind -/
def dedupV : List PV → List PV
  | [] => []
  | x :: xs => x :: (dedupV xs).filter (fun y => !eqv x y)
def isLeafP (p : PV) : Bool := match p with | .non => true | .bl _ => true | .int _ => true | .str _ => true | _ => false
def csetL (srt : Bool) (l : List PV) : Option Res :=
  if (l.all isTupP || l.all isLeafP) && decide ((dedupV l).length < 1200) then (if srt then (if sortOk l then some (.own (.lst (sortV (dedupV l)))) else none) else some (.sh (.int (dedupV l).length))) else none
/-- sorted(set(x)), len(set(x)) -/
def cset (srt : Bool) (x : PV) : Option Res :=
  match x with
  | .lst l => csetL srt l
  | .tup l => csetL srt l
  | _ => none
/-- 0 int, 1 tuple, 2 list, 3 text, 4 bool -/
def isA (t : Nat) (v : PV) : Bool :=
  match v with
  | .non => false
  | .bl _ => t == 0 || t == 4
  | .int _ => t == 0
  | .str _ => t == 3
  | .tup _ => t == 1
  | .lst _ => t == 2
  | .dict _ _ _ => false
  | .set _ => false
  | .scr _ => t == 2
def rangeL (lo : Int) (n : Nat) : List PV := (List.range n).map fun (k : Nat) => .int (lo + (k : Int))
def small62 (i : Int) : Bool := decide (i.natAbs < 4611686018427387904)
/-- the turns of a range with a step -/
def rgN (i j c : Int) : Nat := if 0 < c then (if i < j then ((j - i - 1) / c + 1).toNat else 0) else if c < 0 then (if j < i then ((i - j - 1) / (-c) + 1).toNat else 0) else 0
def rng1 (as : List PV) : Option (List PV) :=
  match as with
  | [.int j] => if small62 j then some (rangeL 0 j.toNat) else none
  | [.int i, .int j] => if small62 i && small62 j then some (rangeL i (j - i).toNat) else none
  | [.int i, .int j, .int c] => if small62 i && small62 j && divOk c then some ((List.range (rgN i j c)).map fun (k : Nat) => .int (i + (k : Int) * c)) else none
  | _ => none
def bi1 (b : Blt) (as : List PV) : Option Res :=
  match b with
  | .len => (match as with
    | [.lst l] => some (.sh (.int l.length))
    | [.tup l] => some (.sh (.int l.length))
    | [.str s] => some (.sh (.int s.length))
    | [.scr s] => some (.sh (.int s.length))
    | [.dict _ ks _] => if decide (ks.length ≤ 16777216) then some (.sh (.int ks.length)) else none
    | _ => none)
  | .lrng => (match rng1 as with | some l => if l.length ≤ 16777216 then some (.own (.lst l)) else none | none => none)
  | .abs => (match as with | [.int i] => some (.sh (.int (if i < 0 then -i else i))) | _ => none)
  | .int => (match as with
    | [.int i] => some (.sh (.int i))
    | [.bl b] => some (.sh (.int (b2i b)))
    | [.str [c]] => if 48 ≤ c ∧ c ≤ 57 then some (.sh (.int (c - 48 : Nat))) else none
    | _ => none)
  | .intb => (match as with | [.str s, .int 2] => if s.length ≤ 640 then (binOf s).map fun (n : Nat) => Res.sh (.int (n : Int)) else none | _ => none)
  | .str => (match as with | [.int i] => if 0 ≤ i ∧ i ≤ 9 then some (.sh (.str [48 + i.toNat])) else none | _ => none)
  | .min => (match as with
    | [.int i, .int j] => some (.sh (.int (if j < i then j else i)))
    | [.lst l] => (match intsOf l with | some (i :: r) => some (.sh (.int (minI i r))) | some [] => none | none => minT l)
    | _ => none)
  | .max => (match as with
    | [.int i, .int j] => some (.sh (.int (if i < j then j else i)))
    | [.lst l] => (match intsOf l with | some (i :: r) => some (.sh (.int (maxI i r))) | _ => none)
    | _ => none)
  | .sum => (match as with | [.lst l] => (intsOf l).map fun is => .sh (.int is.sum) | _ => none)
  | .sorted => (match as with | [.lst l] => if sortOk l then some (.own (.lst (sortV l))) else none | [.tup l] => if sortOk l then some (.own (.lst (sortV l))) else none | _ => none)
  | .tuple => (match as with | [.lst l] => some (.sh (.tup l)) | [.tup l] => some (.sh (.tup l)) | _ => none)
  | .list => (match as with | [.lst l] => some (.own (.lst l)) | [.tup l] => some (.own (.lst l)) | [.scr l] => some (.own (.lst (l.map .int))) | [.dict _ ks _] => if decide (ks.length ≤ 16777216) then some (.own (.lst ks)) else none | _ => none)
  | .all => (match as with | [.lst l] => (blsOf l).map fun bs => .sh (.bl (bs.all id)) | _ => none)
  | .any => (match as with | [.lst l] => (blsOf l).map fun bs => .sh (.bl (bs.any id)) | _ => none)
  | .bool => (match as with | [.int i] => some (.sh (.bl (decide (i ≠ 0)))) | [.bl b] => some (.sh (.bl b)) | _ => none)
  | .isi ts => (match as with | [v] => (match v with | .dict true _ _ => none | .set _ => none | _ => some (.sh (.bl (ts.any fun t => isA t v)))) | _ => none)
def placeOf (x : PV) : Nat → List PV → Option Nat
  | _, [] => none
  | n, y :: r => if eqv y x then some n else placeOf x (n + 1) r
def mt1 (m : Mth) (o : PV) (as : List PV) : Option Res :=
  match m with
  | .join => (match o with
    | .str sep => (match as with
      | [.lst l] => (strsOf l).bind fun ss => if (ss.map (·.length)).sum + ss.length * sep.length ≤ line then some (.sh (.str (joinS sep ss))) else none
      | [.tup l] => (strsOf l).bind fun ss => if (ss.map (·.length)).sum + ss.length * sep.length ≤ line then some (.sh (.str (joinS sep ss))) else none
      | _ => none)
    | _ => none)
  | .index => (match o with
    | .lst l => (match as with | [x] => if plain x && plain (.lst l) then (placeOf x 0 l).map fun (n : Nat) => Res.sh (.int (n : Int)) else none | _ => none)
    | _ => none)
  | .count => (match o with
    | .lst l => (match as with | [x] => if plain x && plain (.lst l) then some (.sh (.int ((l.countP fun y => eqv y x : Nat) : Int))) else none | _ => none)
    | _ => none)
def mtTy (m : Mth) (x : PV) : Bool :=
  match m with
  | .join => (match x with | .str _ => true | _ => false)
  | .index => (match x with | .lst _ => true | _ => false)
  | .count => (match x with | .lst _ => true | _ => false)
/-- a list of one's own changed: the list behind, the value handed back -/
def mu1 (m : Mut) (l : List PV) (as : List PV) : Option (List PV × PV) :=
  match m with
  | .append => (match as with | [v] => if l.length < line then some (l ++ [v], .non) else none | _ => none)
  | .extend => (match as with | [.lst k] => if l.length + k.length ≤ line then some (l ++ k, .non) else none | _ => none)
  | .pop0 => (match as with | [] => (l[l.length - 1]?).map fun v => (l.dropLast, v) | _ => none)
  | .popAt => (match as with | [.int i] => if i.natAbs < 1000000000 then (ixN l.length i).bind fun j => (l[j]?).map fun v => (l.eraseIdx j, v) else none | _ => none)
/-- what a for walks -/
def seqOf (x : PV) : Option (List PV) :=
  match x with
  | .lst l => some l
  | .tup l => some l
  | .str s => some (s.map fun c => .str [c])
  | _ => none
def zipL : List PV → List PV → List PV
  | [], _ => []
  | x :: xs, ys => (match ys with | [] => [] | y :: ys => .tup [x, y] :: zipL xs ys)
def optI (x : PV) : Option Int := match x with | .int i => some i | _ => none

/-! ### storing -/
def setS (Φ : Tab) (ρ : Env) (i : Nat) (s : Slot) : Option Env := if i < ρ.length && !(Φ.io && i == 0) then some (ρ.set i s) else none
mutual
def asgV (Φ : Tab) : T → PV → Env → Option Env
  | .name i, v, ρ => setS Φ ρ i (.sh v)
  | .tup ts, v, ρ => (match v with | .tup l => asgL Φ ts l ρ | .lst l => asgL Φ ts l ρ | _ => none)
def asgL (Φ : Tab) : List T → List PV → Env → Option Env
  | [], vs, ρ => (match vs with | [] => some ρ | _ :: _ => none)
  | t :: ts, vs, ρ => (match vs with | [] => none | v :: vs => (match asgV Φ t v ρ with | none => none | some ρ1 => asgL Φ ts vs ρ1))
end
def asgR (Φ : Tab) (t : T) (r : R) (ρ : Env) : Option Env :=
  match t with
  | .name i => (match r with
    | .sh v => setS Φ ρ i (.sh v)
    | .own v => setS Φ ρ i (.own v)
    | .slot _ => (match fz r ρ with | none => none | some (v, ρ1) => setS Φ ρ1 i (.sh v)))
  | .tup ts => (match pk r ρ with
    | some (.tup l) => asgL Φ ts l ρ
    | some (.lst l) => asgL Φ ts l ρ
    | _ => none)
def wipeE (ρ : Env) : List Nat → Env
  | [] => ρ
  | i :: is => (wipeE ρ is).set i .none
def noOwn (ρ : Env) (is : List Nat) : Bool := is.all fun i => match slotAt ρ i with | .own _ => false | _ => true
def backE (ρ ρ0 : Env) : List Nat → Env
  | [] => ρ
  | i :: is => (backE ρ ρ0 is).set i (slotAt ρ0 i)
/-- slots that are handed to a def -/
def lentL : List R → List Nat
  | [] => []
  | .slot i :: r => i :: lentL r
  | _ :: r => lentL r
def freezeL (ρ : Env) : List Nat → Env
  | [] => ρ
  | i :: is => (match slotAt ρ i with | .own v => (freezeL ρ is).set i (.sh v) | _ => freezeL ρ is)
def pureL (v : PV) : Bool := match v with
  | .lst l => l.all pureV
  | v => pureV v
def pureR (r : Ret) : Bool := (if r.own then pureL r.val else pureV r.val)
/-- a call -/
def callD (d : Den) (rs : List R) (ρ : Env) : Option (R × Env) :=
  if d.io then
    (match rs with
    | .slot i :: rest => (match slotAt ρ i with
      | .own p => (match pkL rest ρ with
        | none => none
        | some vs => if (lentL rest).contains i then none else (match d.f (p :: vs) with
          | none => none
          | some ret =>
            let ρ1 := if pureR ret && pureL ret.out then ρ else freezeL ρ (lentL rest)
            some (if ret.own then .own ret.val else .sh ret.val, ρ1.set i (.own ret.out))))
      | _ => none)
    | _ => none)
  else
    (match pkL rs ρ with
    | none => none
    | some vs => (match d.f vs with
      | none => none
      | some ret => some (if ret.own then .own ret.val else .sh ret.val, if pureR ret then ρ else freezeL ρ (lentL rs))))

def evenL : List PV → List PV
  | x :: _ :: r => x :: evenL r
  | _ => []
def oddL : List PV → List PV
  | _ :: y :: r => y :: oddL r
  | _ => []
def diffL : List PV → Bool
  | [] => true
  | x :: xs => xs.all (fun y => !eqv x y) && diffL xs
/-- pairs, their keys leaves -/
def pairsOf : List PV → Option (List PV × List PV)
  | [] => some ([], [])
  | x :: r => (match x with
    | .tup [k, v] => (match pairsOf r with
      | some (ks, vs) => if leafK k then some (k :: ks, v :: vs) else none
      | none => none)
    | _ => none)
/-- pairs, their keys tuples -/
def pairsT : List PV → Option (List PV × List PV)
  | [] => some ([], [])
  | x :: r => (match x with
    | .tup [k, v] => (match pairsT r with
      | some (ks, vs) => if isTupP k then some (k :: ks, v :: vs) else none
      | none => none)
    | _ => none)
def dprsT (l : List PV) : Option Res := match pairsT l with
  | some (ks, vs) => if diffL ks && decide (l.length ≤ 1000000) then some (.own (.dict true ks vs)) else none
  | none => none
def dprs1 (x : PV) : Option Res := match x with
  | .lst l => (match pairsOf l with
    | some (ks, vs) => if diffL ks && decide (l.length ≤ 1000000) then some (.own (.dict false ks vs)) else none
    | none => dprsT l)
  | _ => none
/-- a written dict: one to fifteen tuples, all different -/
def dispTOk (ks vs : List PV) : Bool := decide (ks.length = vs.length) && decide (1 ≤ ks.length) && decide (ks.length ≤ 15) && diffL ks && ks.all isTupP
/-- a written dict: one to fifteen texts, all different -/
def dispOk (ks : List (List Nat)) (vs : List PV) : Bool := decide (ks.length = vs.length) && decide (1 ≤ ks.length) && decide (ks.length ≤ 15) && decide ks.Nodup && ks.all okSb
/-! ### evaluation -/
/-- a test -/
def tstR (o : Option (R × Env)) : Option (Bool × Env) := match o with
  | none => none
  | some (r, ρ1) => (match pk r ρ1 with | none => none | some x => (match truV x with | none => none | some b => some (b, ρ1)))
/-- an end of a slice -/
def optR (o : Option (R × Env)) : Option (Option Int × Env) := match o with
  | none => none
  | some (r, ρ1) => (match pk r ρ1 with | some (.int i) => some (some i, ρ1) | _ => none)
def loopC (step : PV → Env → Option (Option PV × Env)) : List PV → Env → Option (List PV × Env)
  | [], ρ => some ([], ρ)
  | x :: xs, ρ => (match step x ρ with
    | none => none
    | some (o, ρ1) => (match loopC step xs ρ1 with
      | none => none
      | some (ys, ρ2) => some (match o with | none => ys | some y => y :: ys, ρ2)))
mutual
def ev (Φ : Tab) : E → Env → Option (R × Env)
  | .var i, ρ => (match slotAt ρ i with | .none => none | .sh v => some (.sh v, ρ) | .own _ => some (.slot i, ρ))
  | .con v, ρ => some (.sh v, ρ)
  | .glob g, ρ => (match Φ.glob g with | none => none | some v => some (.sh v, ρ))
  | .tup es, ρ => (match evs Φ es ρ with
    | none => none
    | some (rs, ρ1) => (match fzL rs ρ1 with | none => none | some (vs, ρ2) => if vs.length ≤ line then some (.sh (.tup vs), ρ2) else none))
  | .lst es, ρ => (match evs Φ es ρ with
    | none => none
    | some (rs, ρ1) => (match fzL rs ρ1 with | none => none | some (vs, ρ2) => if vs.length ≤ line then some (.own (.lst vs), ρ2) else none))
  | .un o a, ρ => (match ev Φ a ρ with
    | none => none
    | some (r, ρ1) => (match pk r ρ1 with | none => none | some x => (match un1 o x with | none => none | some z => some (z.r, ρ1))))
  | .bin o a b, ρ => (match ev Φ a ρ with
    | none => none
    | some (ra, ρ1) => (match ev Φ b ρ1 with
      | none => none
      | some (rb, ρ2) => (match pk (wt ra) ρ2 with
        | none => none
        | some x => (match pk rb ρ2 with
          | none => none
          | some y => (match bin2 o x y with | none => none | some z => some (z.r, ρ2))))))
  | .cmp o a b, ρ => (match ev Φ a ρ with
    | none => none
    | some (ra, ρ1) => (match ev Φ b ρ1 with
      | none => none
      | some (rb, ρ2) => (match pk (wt ra) ρ2 with
        | none => none
        | some x => (match pk rb ρ2 with
          | none => none
          | some y => (match cmpB o x y with | none => none | some k => some (.sh (.bl k), ρ2))))))
  | .cmp2 o o' a b c, ρ => (match ev Φ a ρ with
    | none => none
    | some (ra, ρ1) => (match ev Φ b ρ1 with
      | none => none
      | some (rb, ρ2) => (match pk (wt ra) ρ2 with
        | none => none
        | some x => (match pk (wt rb) ρ2 with
          | none => none
          | some y => (match cmpB o x y with
            | none => none
            | some false => some (.sh (.bl false), ρ2)
            | some true => (match ev Φ c ρ2 with
              | none => none
              | some (rc, ρ3) => (match pk (wt rb) ρ3 with
                | none => none
                | some y' => (match pk rc ρ3 with
                  | none => none
                  | some z => (match cmpB o' y' z with | none => none | some k => some (.sh (.bl k), ρ3)))))))))) 
  | .not a, ρ => (match tstR (ev Φ a ρ) with | none => none | some (b, ρ1) => some (.sh (.bl (!b)), ρ1))
  | .and es, ρ => evAnd Φ es ρ
  | .or es, ρ => evOr Φ es ρ
  | .ite c a b, ρ => (match tstR (ev Φ c ρ) with | none => none | some (k, ρ1) => if k then ev Φ a ρ1 else ev Φ b ρ1)
  | .ix a i, ρ => (match ev Φ a ρ with
    | none => none
    | some (ra, ρ1) => (match ev Φ i ρ1 with
      | none => none
      | some (ri, ρ2) => (match pk (wt ra) ρ2 with
        | none => none
        | some x => (match pk ri ρ2 with
          | none => none
          | some y => (match ix2 x y with | none => none | some z => some (z.r, ρ2))))))
  | .sl a lo hi, ρ => (match ev Φ a ρ with
    | none => none
    | some (ra, ρ1) => (match (if isAbs lo then some (none, ρ1) else optR (ev Φ lo ρ1)) with
      | none => none
      | some (l, ρ2) => (match (if isAbs hi then some (none, ρ2) else optR (ev Φ hi ρ2)) with
        | none => none
        | some (h, ρ3) => (match pk (wt ra) ρ3 with
          | none => none
          | some x => (match sl3 x l h with | none => none | some z => some (z.r, ρ3))))))
  | .rev a, ρ => (match ev Φ a ρ with
    | none => none
    | some (r, ρ1) => (match pk r ρ1 with | none => none | some x => (match rev1 x with | none => none | some z => some (z.r, ρ1))))
  | .sst lo k a, ρ => (match ev Φ a ρ with
    | none => none
    | some (r, ρ1) => (match pk r ρ1 with | none => none | some x => (match sst1 lo k x with | none => none | some z => some (z.r, ρ1))))
  | .dprs a, ρ => (match ev Φ a ρ with
    | none => none
    | some (r, ρ1) => (match pk r ρ1 with | none => none | some x => (match dprs1 x with | none => none | some z => some (z.r, ρ1))))
  | .rpr a, ρ => (match ev Φ a ρ with
    | none => none
    | some (r, ρ1) => (match pk r ρ1 with | none => none | some x => (match rpr1 x with | none => none | some z => some (z.r, ρ1))))
  | .dnew t, ρ => some (.own (.dict t [] []), ρ)
  | .dispT es, ρ => (match evs Φ es ρ with
    | none => none
    | some (rs, ρ1) => (match fzL rs ρ1 with | none => none | some (vs, ρ2) => if dispTOk (evenL vs) (oddL vs) && decide (vs.length = 2 * (evenL vs).length) then some (.own (.dict true (evenL vs) (oddL vs)), ρ2) else none))
  | .disp ks es, ρ => (match evs Φ es ρ with
    | none => none
    | some (rs, ρ1) => (match fzL rs ρ1 with | none => none | some (vs, ρ2) => if dispOk ks vs then some (.own (.dict false (ks.map .str) vs), ρ2) else none))
  | .cset b a, ρ => (match ev Φ a ρ with
    | none => none
    | some (r, ρ1) => (match pk r ρ1 with | none => none | some x => (match cset b x with | none => none | some z => some (z.r, ρ1))))
  | .abs, _ => none
  | .bi b es, ρ => (match evs Φ es ρ with
    | none => none
    | some (rs, ρ1) => (match pkL rs ρ1 with | none => none | some vs => (match bi1 b vs with | none => none | some z => some (z.r, ρ1))))
  | .mt m o es, ρ => (match ev Φ o ρ with
    | none => none
    | some (ro, ρ1) => (match pk ro ρ1 with
      | none => none
      | some x0 => if mtTy m x0 then (match evs Φ es ρ1 with
        | none => none
        | some (rs, ρ2) => (match pk (wt ro) ρ2 with
          | none => none
          | some x => (match pkL rs ρ2 with | none => none | some vs => (match mt1 m x vs with | none => none | some z => some (z.r, ρ2)))))
        else none))
  | .pop x m es, ρ => (match slotAt ρ x with
    | .own (.lst _) => (match evs Φ es ρ with
      | none => none
      | some (rs, ρ1) => (match fzL rs ρ1 with
        | none => none
        | some (vs, ρ2) => (match slotAt ρ2 x with
          | .own (.lst l) => (match mu1 m l vs with | none => none | some (l', v) => some (.sh v, ρ2.set x (.own (.lst l'))))
          | _ => none)))
    | _ => none)
  | .fn k es, ρ => (match Φ.fn k with
    | none => none
    | some d => (match evs Φ es ρ with
      | none => none
      | some (rs, ρ1) => if rs.length = d.np then callD d rs ρ1 else none))
  | .lc e t it cs own, ρ => (match evI Φ it ρ with
    | none => none
    | some (xs, ρ1) => if noOwn ρ1 own && !(Φ.io && own.contains 0) then
        (match loopC (fun x ρ' => match asgV Φ t x ρ' with
          | none => none
          | some ρ2 => (match evC Φ cs ρ2 with
            | none => none
            | some (false, ρ3) => some (none, wipeE ρ3 own)
            | some (true, ρ3) => (match ev Φ e ρ3 with
              | none => none
              | some (r, ρ4) => (match fz r ρ4 with | none => none | some (v, ρ5) => some (some v, wipeE ρ5 own))))) xs (wipeE ρ1 own) with
        | none => none
        | some (ys, ρ2) => if ys.length < line then some (.own (.lst ys), backE ρ2 ρ1 own) else none)
      else none)
def evs (Φ : Tab) : Es → Env → Option (List R × Env)
  | .nil, ρ => some ([], ρ)
  | .cons e es, ρ => (match ev Φ e ρ with
    | none => none
    | some (r, ρ1) => (match evs Φ es ρ1 with | none => none | some (rs, ρ2) => some (wt r :: rs, ρ2)))
def evAnd (Φ : Tab) : Es → Env → Option (R × Env)
  | .nil, _ => none
  | .cons e es, ρ => (match es with
    | .nil => ev Φ e ρ
    | .cons _ _ => (match ev Φ e ρ with
      | none => none
      | some (r, ρ1) => (match pk r ρ1 with
        | none => none
        | some x => (match truV x with | none => none | some true => evAnd Φ es ρ1 | some false => some (wt r, ρ1)))))
def evOr (Φ : Tab) : Es → Env → Option (R × Env)
  | .nil, _ => none
  | .cons e es, ρ => (match es with
    | .nil => ev Φ e ρ
    | .cons _ _ => (match ev Φ e ρ with
      | none => none
      | some (r, ρ1) => (match pk r ρ1 with
        | none => none
        | some x => (match truV x with | none => none | some false => evOr Φ es ρ1 | some true => some (wt r, ρ1)))))
/-- the tests of a comprehension: none or one -/
def evC (Φ : Tab) : Es → Env → Option (Bool × Env)
  | .nil, ρ => some (true, ρ)
  | .cons e es, ρ => (match es with | .nil => tstR (ev Φ e ρ) | .cons _ _ => none)
/-- what a for walks -/
def evI (Φ : Tab) : I → Env → Option (List PV × Env)
  | .rng es, ρ => (match evs Φ es ρ with
    | none => none
    | some (rs, ρ1) => (match pkL rs ρ1 with | none => none | some vs => (match rng1 vs with | none => none | some l => some (l, ρ1))))
  | .zip a b, ρ => (match ev Φ a ρ with
    | none => none
    | some (ra, ρ1) => (match ev Φ b ρ1 with
      | none => none
      | some (rb, ρ2) => (match fz (wt ra) ρ2 with
        | none => none
        | some (x, ρ3) => (match fz (wt rb) ρ3 with
          | none => none
          | some (y, ρ4) => (match x with
            | .lst xs => (match y with | .lst ys => some (zipL xs ys, ρ4) | _ => none)
            | .tup xs => (match y with | .tup ys => some (zipL xs ys, ρ4) | _ => none)
            | _ => none)))))
  | .seq e, ρ => (match ev Φ e ρ with
    | none => none
    | some (r, ρ1) => (match fz r ρ1 with | none => none | some (x, ρ2) => (match seqOf x with | none => none | some l => some (l, ρ2))))
end
/-! ### statements -/
inductive Out where
  | nx (ρ : Env)
  | ret (r : R) (ρ : Env)
  | brk (ρ : Env)
  | cnt (ρ : Env)
def nxO (o : Option Env) : Option Out := match o with
  | none => none
  | some ρ => some (.nx ρ)
def setL (Φ : Tab) : List Nat → List PV → Env → Option Env
  | [], vs, ρ => (match vs with | [] => some ρ | _ :: _ => none)
  | i :: is, vs, ρ => (match vs with | [] => none | v :: vs => (match setS Φ ρ i (.sh v) with | none => none | some ρ1 => setL Φ is vs ρ1))
def loopF (asg : PV → Env → Option Env) (body : Env → Option Out) : List PV → Env → Option Out
  | [], ρ => some (.nx ρ)
  | x :: xs, ρ => (match asg x ρ with
    | none => none
    | some ρ1 => (match body ρ1 with
      | none => none
      | some (.nx ρ2) => loopF asg body xs ρ2
      | some (.cnt ρ2) => loopF asg body xs ρ2
      | some (.brk ρ2) => some (.nx ρ2)
      | some (.ret r ρ2) => some (.ret r ρ2)))
def loopW (c : Env → Option (Bool × Env)) (body : Env → Option Out) : Nat → Env → Option Out
  | 0, _ => none
  | n + 1, ρ => (match c ρ with
    | none => none
    | some (false, ρ1) => some (.nx ρ1)
    | some (true, ρ1) => (match body ρ1 with
      | none => none
      | some (.nx ρ2) => loopW c body n ρ2
      | some (.cnt ρ2) => loopW c body n ρ2
      | some (.brk ρ2) => some (.nx ρ2)
      | some (.ret r ρ2) => some (.ret r ρ2)))
mutual
def ex (Φ : Tab) (n : Nat) : S → Env → Option Out
  | .asg t e, ρ => (match ev Φ e ρ with | none => none | some (r, ρ1) => nxO (asgR Φ t r ρ1))
  | .par is es, ρ => (match evs Φ es ρ with
    | none => none
    | some (rs, ρ1) => (match fzL rs ρ1 with | none => none | some (vs, ρ2) => nxO (setL Φ is vs ρ2)))
  | .aug i o e, ρ => (match slotAt ρ i with
    | .sh x => (match ev Φ e ρ with
      | none => none
      | some (r, ρ1) => (match pk r ρ1 with
        | none => none
        | some y => (match aug2 o x y with | none => none | some z => nxO (setS Φ ρ1 i (.sh z)))))
    | _ => none)
  | .setkey x i e, ρ => (match ev Φ e ρ with
    | none => none
    | some (r, ρ1) => (match slotAt ρ1 x with
      | .own (.dict _ _ _) => (match ev Φ i ρ1 with
        | none => none
        | some (ri, ρ2) => (match fz (wt r) ρ2 with
          | none => none
          | some (v, ρ3) => (match pk ri ρ3 with
            | none => none
            | some k => (match slotAt ρ3 x with
              | .own (.dict t ks vs) => if keyB t k && decide (ks.length < line) then some (.nx (ρ3.set x (.own (.dict t (putKs k ks) (putVs k v ks vs))))) else none
              | _ => none))))
      | _ => none))
  | .setix x i e, ρ => (match ev Φ e ρ with
    | none => none
    | some (r, ρ1) => (match slotAt ρ1 x with
      | .own (.lst _) => (match ev Φ i ρ1 with
        | none => none
        | some (ri, ρ2) => (match fz (wt r) ρ2 with
          | none => none
          | some (v, ρ3) => (match pk ri ρ3 with
            | some (.int k) => (match slotAt ρ3 x with
              | .own (.lst l) => (match ixN l.length k with | none => none | some j => some (.nx (ρ3.set x (.own (.lst (l.set j v))))))
              | _ => none)
            | _ => none)))
      | _ => none))
  | .mut m x es, ρ => (match ev Φ (.pop x m es) ρ with | none => none | some (_, ρ1) => some (.nx ρ1))
  | .expr e, ρ => (match ev Φ e ρ with | none => none | some (_, ρ1) => some (.nx ρ1))
  | .ret e, ρ => (match ev Φ e ρ with | none => none | some (r, ρ1) => some (.ret r ρ1))
  | .retN, ρ => some (.ret (.sh .non) ρ)
  | .ife c a b, ρ => (match tstR (ev Φ c ρ) with | none => none | some (k, ρ1) => if k then exs Φ n a ρ1 else exs Φ n b ρ1)
  | .for t it b, ρ => (match evI Φ it ρ with
    | none => none
    | some (xs, ρ1) => loopF (fun x ρ' => asgV Φ t x ρ') (fun ρ' => exs Φ n b ρ') xs ρ1)
  | .while c b, ρ => loopW (fun ρ' => tstR (ev Φ c ρ')) (fun ρ' => exs Φ n b ρ') n ρ
  | .brk, ρ => some (.brk ρ)
  | .cnt, ρ => some (.cnt ρ)
  | .pas, ρ => some (.nx ρ)
  | .never, _ => none
def exs (Φ : Tab) (n : Nat) : Ss → Env → Option Out
  | .nil, ρ => some (.nx ρ)
  | .cons s ss, ρ => (match ex Φ n s ρ with
    | none => none
    | some (.nx ρ1) => exs Φ n ss ρ1
    | some (.ret r ρ1) => some (.ret r ρ1)
    | some (.brk ρ1) => some (.brk ρ1)
    | some (.cnt ρ1) => some (.cnt ρ1))
end
/-- a def: its parameters' number, its slots' number, does its first parameter come back changed, its body -/
structure Fd where
  np : Nat
  ns : Nat
  io : Bool
  body : Ss
def startE (fd : Fd) (as : List PV) : Env :=
  (match as with
  | [] => []
  | a :: r => (if fd.io then Slot.own a else .sh a) :: r.map Slot.sh) ++ List.replicate (fd.ns - as.length) .none
def outE (fd : Fd) (ρ : Env) : Option PV := if fd.io then (match slotAt ρ 0 with | .own v => some v | _ => none) else some .non
def retE (fd : Fd) (r : R) (ρ : Env) : Option Ret :=
  match outE fd ρ with
  | none => none
  | some o => (match r with
    | .sh v => some ⟨false, v, o⟩
    | .own v => some ⟨true, v, o⟩
    | .slot i => if fd.io && i == 0 then none else (match slotAt ρ i with | .none => none | .sh v => some ⟨false, v, o⟩ | .own v => some ⟨true, v, o⟩))
def run (glob : Nat → Option PV) (fn : Nat → Option Den) (n : Nat) (fd : Fd) (as : List PV) : Option Ret :=
  if as.length = fd.np then
    (match exs ⟨glob, fn, fd.io⟩ n fd.body (startE fd as) with
    | some (.nx ρ) => retE fd (.sh .non) ρ
    | some (.ret r ρ) => retE fd r ρ
    | _ => none)
  else none
end Py

/-! Pv0a: what a value is as a key. -/
namespace Py
open PySem PySem.Spec PyProof.Rows
def strP (s : List Nat) : Str := ⟨s.toArray⟩
theorem strP_inj {s t : List Nat} (h : strP s = strP t) : s = t := by
  have := congrArg (fun z : Str => z.cps.toList) h
  simpa [strP] using this
mutual
def nk : PV → NestedKey
  | .non => .none
  | .bl b => .num (b2i b)
  | .int i => .num i
  | .str s => .text (strP s)
  | .tup l => .tup (nkL l)
  | .lst _ => .none
  | .dict _ _ _ => .none
  | .set _ => .none
  | .scr _ => .none
def nkL : List PV → List NestedKey
  | [] => []
  | x :: l => nk x :: nkL l
end
theorem nkL_map : ∀ l : List PV, nkL l = l.map nk
  | [] => rfl
  | x :: l => by rw [nkL, nkL_map l]; rfl
mutual
theorem nk_depth : ∀ (n : Nat) (p : PV), pureD n p = true → (nk p).depth ≤ n
  | n, .non, _ => Nat.zero_le _
  | n, .bl _, _ => Nat.zero_le _
  | n, .int _, _ => Nat.zero_le _
  | n, .str _, _ => Nat.zero_le _
  | 0, .tup _, h => by cases h
  | n + 1, .tup l, h => Nat.succ_le_succ (nkL_depth n l (fun p hp => List.all_eq_true.mp h p hp))
  | 0, .lst _, h => by cases h
  | _ + 1, .lst _, h => by cases h
  | 0, .dict _ _ _, h => by cases h
  | _ + 1, .dict _ _ _, h => by cases h
  | 0, .set _, h => by cases h
  | _ + 1, .set _, h => by cases h
  | 0, .scr _, h => by cases h
  | _ + 1, .scr _, h => by cases h
theorem nkL_depth : ∀ (n : Nat) (l : List PV), (∀ p ∈ l, pureD n p = true) → NestedKey.depthAll (nkL l) ≤ n
  | n, [], _ => Nat.zero_le _
  | n, x :: l, h => Nat.max_le.mpr ⟨nk_depth n x (h x List.mem_cons_self), nkL_depth n l fun p hp => h p (List.mem_cons_of_mem _ hp)⟩
end
mutual
theorem eqv_nk : ∀ (n m : Nat) (p q : PV), pureD n p = true → pureD m q = true → eqv p q = NestedKey.beq (nk p) (nk q)
  | _, _, .non, .non, _, _ => rfl
  | _, _, .non, .bl _, _, _ => rfl
  | _, _, .non, .int _, _, _ => rfl
  | _, _, .non, .str _, _, _ => rfl
  | _, _, .non, .tup _, _, _ => rfl
  | _, _, .bl _, .non, _, _ => rfl
  | _, _, .bl a, .bl b, _, _ => by cases a <;> cases b <;> rfl
  | _, _, .bl _, .int _, _, _ => rfl
  | _, _, .bl _, .str _, _, _ => rfl
  | _, _, .bl _, .tup _, _, _ => rfl
  | _, _, .int _, .non, _, _ => rfl
  | _, _, .int _, .bl _, _, _ => rfl
  | _, _, .int _, .int _, _, _ => rfl
  | _, _, .int _, .str _, _, _ => rfl
  | _, _, .int _, .tup _, _, _ => rfl
  | _, _, .str _, .non, _, _ => rfl
  | _, _, .str _, .bl _, _, _ => rfl
  | _, _, .str _, .int _, _, _ => rfl
  | _, _, .str s, .str t, _, _ => by
    show decide (s = t) = decide (strP s = strP t)
    by_cases h : s = t
    · subst h; simp
    · rw [decide_eq_false h, decide_eq_false fun e => h (strP_inj e)]
  | _, _, .str _, .tup _, _, _ => rfl
  | _, _, .tup _, .non, _, _ => rfl
  | _, _, .tup _, .bl _, _, _ => rfl
  | _, _, .tup _, .int _, _, _ => rfl
  | _, _, .tup _, .str _, _, _ => rfl
  | 0, _, .tup _, .tup _, h, _ => by cases h
  | _ + 1, 0, .tup _, .tup _, _, h => by cases h
  | n + 1, m + 1, .tup l, .tup k, h1, h2 => eqvL_nk n m l k (fun p hp => List.all_eq_true.mp h1 p hp) (fun p hp => List.all_eq_true.mp h2 p hp)
  | 0, _, .lst _, _, h, _ => by cases h
  | _ + 1, _, .lst _, _, h, _ => by cases h
  | 0, _, .dict _ _ _, _, h, _ => by cases h
  | _ + 1, _, .dict _ _ _, _, h, _ => by cases h
  | 0, _, .set _, _, h, _ => by cases h
  | _ + 1, _, .set _, _, h, _ => by cases h
  | 0, _, .scr _, _, h, _ => by cases h
  | _ + 1, _, .scr _, _, h, _ => by cases h
  | _, 0, _, .lst _, _, h => by cases h
  | _, _ + 1, _, .lst _, _, h => by cases h
  | _, 0, _, .dict _ _ _, _, h => by cases h
  | _, _ + 1, _, .dict _ _ _, _, h => by cases h
  | _, 0, _, .set _, _, h => by cases h
  | _, _ + 1, _, .set _, _, h => by cases h
  | _, 0, _, .scr _, _, h => by cases h
  | _, _ + 1, _, .scr _, _, h => by cases h
theorem eqvL_nk : ∀ (n m : Nat) (l k : List PV), (∀ p ∈ l, pureD n p = true) → (∀ p ∈ k, pureD m p = true) → eqvL l k = NestedKey.beqAll (nkL l) (nkL k)
  | _, _, [], [], _, _ => rfl
  | _, _, [], _ :: _, _, _ => rfl
  | _, _, _ :: _, [], _, _ => rfl
  | n, m, x :: l, y :: k, h1, h2 => by
    show (eqv x y && eqvL l k) = (NestedKey.beq (nk x) (nk y) && NestedKey.beqAll (nkL l) (nkL k))
    rw [eqv_nk n m x y (h1 x List.mem_cons_self) (h2 y List.mem_cons_self), eqvL_nk n m l k (fun p hp => h1 p (List.mem_cons_of_mem _ hp)) fun p hp => h2 p (List.mem_cons_of_mem _ hp)]
end
theorem eqv_iff {n m : Nat} {p q : PV} (h1 : pureD n p = true) (h2 : pureD m q = true) : eqv p q = true ↔ nk p = nk q := by
  rw [eqv_nk n m p q h1 h2]
  exact ⟨NestedKey.eq_of_beq _ _, fun e => by rw [e]; exact NestedKey.beq_self _⟩
/-! ### the entries of a dict whose keys are tuples -/
abbrev Xs := List (NestedKey × Addr × Value)
def entK (w : World) (x : NestedKey × Addr × Value) : DictEntry := ⟨x.1.hash w, .ref x.2.1, x.2.2⟩
/-- the dict at a has the entries xs -/
def dEx (a : Addr) (w : World) (xs : Xs) : Heap → Prop := fun h => (a == sysModules) = false ∧ ∃ o es ep, h.get? a = some o ∧ o.ExactDict ∧ o.data = .dict es ep ∧ es.toList = xs.map (entK w)
theorem entK_eq (P : Program) (w : World) : entryOfKey (nestedKind P w) = entK w := rfl
end Py

/-! Pv1: the evaluator of Pv0 is sound over the hand layer. -/
namespace Py
open PySem PySem.Spec PyProof.Rows L2

/-! ### what stands for what -/
/-- what is known of the heap, and the world -/
abbrev Frg := PySem.W.Frag × World
abbrev _root_.L2.Cx.kw (X : Cx) : Frg := (X.K, X.w)
def Ext (F F' : Hp) : Prop := ∀ a o, F a = some o → F' a = some o
theorem Ext.refl (F : Hp) : Ext F F := fun _ _ h => h
theorem Ext.trans {F F1 F2 : Hp} (a : Ext F F1) (b : Ext F1 F2) : Ext F F2 := fun c o h => b c o (a c o h)
theorem Ext.upd {F : Hp} {a : Addr} {o : HO} (h : F a = none) : Ext F (upd F a o) := fun b u e => by
  rw [upd_ne (ne_of_none e h)]; exact e
theorem Ext.rd {F F' : Hp} (e : Ext F F') {a : Addr} {u : HO} (h : Rd F a u) : Rd F' a u := by
  rcases h with h | ⟨o, h⟩
  · exact .inl (e _ _ h)
  · exact .inr ⟨o, e _ _ h⟩
theorem Ext.seqL {K : Frg} {F F' : Hp} (e : Ext F F') {a : Addr} {xs : List V} (h : SqL K.1 F a xs) : SqL K.1 F' a xs := h.imp e.rd id
theorem Ext.seqT {K : Frg} {F F' : Hp} (e : Ext F F') {a : Addr} {xs : List V} (h : SqT K.1 F a xs) : SqT K.1 F' a xs := h.imp e.rd id

def OkS (s : List Nat) : Prop := s.length ≤ line ∧ ∀ c ∈ s, c < 1114112
theorem line_eq : line = sizeLine := by rw [sizeLine_eq]; rfl

/-! ### dicts: the keys ints and texts, or flat tuples of them -/
theorem okSb_ok {s : List Nat} (h : okSb s = true) : OkS s := by
  unfold okSb at h
  rw [Bool.and_eq_true, decide_eq_true_eq, List.all_eq_true] at h
  exact ⟨h.1, fun c hc => of_decide_eq_true (h.2 c hc)⟩
theorem okSb_of {s : List Nat} (h : OkS s) : okSb s = true := by
  unfold okSb
  rw [Bool.and_eq_true, decide_eq_true_eq, List.all_eq_true]
  exact ⟨h.1, fun c hc => decide_eq_true (h.2 c hc)⟩
def keyOf : PV → Option Key
  | .int i => some (.inl i)
  | .str s => if okSb s then some (.inr (strP s)) else none
  | _ => none
def keysOf : List PV → Option (List Key)
  | [] => some []
  | p :: ps => (match keyOf p with
    | none => none
    | some k => (match keysOf ps with | none => none | some ks => some (k :: ks)))
/-- the dict at a, its values xs; its keys ints and texts -/
def DicAt (H : Hp) (a : Addr) (t : Bool) (ks : List PV) (xs : List V) : Prop :=
  t = false ∧ ∃ kvs : List (Key × V), H a = some (.dK kvs) ∧ (kvs.map fun kv => some kv.1) = ks.map keyOf ∧ xs = kvs.map (·.2)
theorem DicAt.of {H H' : Hp} {a : Addr} {t : Bool} {ks : List PV} {xs : List V} (h : DicAt H a t ks xs) (e : ∀ o, H a = some o → H' a = some o) : DicAt H' a t ks xs := by
  obtain ⟨h0, kvs, h1, h2⟩ := h
  exact ⟨h0, kvs, e _ h1, h2⟩
theorem DicAt.there {H : Hp} {a : Addr} {t : Bool} {ks : List PV} {xs : List V} (h : DicAt H a t ks xs) : ∃ o, H a = some o := by
  obtain ⟨_, kvs, h1, _⟩ := h
  exact ⟨_, h1⟩
/-- keys, where they stand, values, entries -/
inductive Ent : List PV → List V → List V → Xs → Prop
  | nil : Ent [] [] [] []
  | cons {k : PV} {ks : List PV} {b : Addr} {bs : List V} {y : V} {ys : List V} {u : Value} {xs : Xs} : RelV y u → Ent ks bs ys xs → Ent (k :: ks) (.ref b :: bs) (y :: ys) ((nk k, b, u) :: xs)
/-- .. its keys tuples, that stand at bs -/
def DicT (w : World) (H : Hp) (a : Addr) (t : Bool) (ks : List PV) (bs ys : List V) : Prop :=
  t = true ∧ ∃ xs : Xs, H a = some (.ext (dEx a w xs)) ∧ Ent ks bs ys xs ∧ (ks.map nk).Nodup ∧ ks.all isTupP = true
theorem DicT.of {w : World} {H H' : Hp} {a : Addr} {t : Bool} {ks : List PV} {bs ys : List V} (h : DicT w H a t ks bs ys) (e : ∀ o, H a = some o → H' a = some o) : DicT w H' a t ks bs ys := by
  obtain ⟨h0, xs, h1, h2⟩ := h
  exact ⟨h0, xs, e _ h1, h2⟩
theorem DicT.there {w : World} {H : Hp} {a : Addr} {t : Bool} {ks : List PV} {bs ys : List V} (h : DicT w H a t ks bs ys) : ∃ o, H a = some o := by
  obtain ⟨_, xs, h1, _⟩ := h
  exact ⟨_, h1⟩
/-- a table of the module, its keys texts: texts and values by turns -/
def tabX (K : Frg) (a : Addr) : List V → Prop
  | .str z :: y :: r => (∃ u, PySem.W.nsIn K.1 a z = some (some u) ∧ RelV y u) ∧ tabX K a r
  | [] => True
  | _ => False
def KTab (K : Frg) (a : Addr) (xs : List V) : Prop := (∃ es n, KDict K.1 K.2 a es n) ∧ tabX K a xs
mutual
def dat : PV → PyData
  | .non => .none
  | .bl b => .bool b
  | .int i => .int i
  | .str s => .str (strP s)
  | .tup l => .tuple (datL l)
  | .lst l => .list (datL l)
  | .dict _ _ _ => .none
  | .set _ => .none
  | .scr _ => .none
def datL : List PV → List PyData
  | [] => []
  | x :: xs => dat x :: datL xs
end
mutual
inductive Rep (K : Frg) (F : Hp) : V → PV → Prop
  | non : Rep K F .non .non
  | bl (b : Bool) : Rep K F (.bl b) (.bl b)
  | int (i : Int) : Rep K F (.int i) (.int i)
  | str (s : List Nat) : OkS s → Rep K F (.str (strP s)) (.str s)
  | tup {a : Addr} {xs : List V} {l : List PV} : SqT K.1 F a xs → RepL K F xs l → Rep K F (.ref a) (.tup l)
  | lst {a : Addr} {xs : List V} {l : List PV} : F a = some (.lst xs) → RepL K F xs l → Rep K F (.ref a) (.lst l)
  | scr {a : Addr} {l : List Int} : SqL K.1 F a (l.map V.int) → Rep K F (.ref a) (.scr l)
  | dic {a : Addr} {t : Bool} {ks vs : List PV} {xs : List V} : DicAt F a t ks xs → RepL K F xs vs → Rep K F (.ref a) (.dict t ks vs)
  | dct {a : Addr} {t : Bool} {ks vs : List PV} {bs xs : List V} : DicT K.2 F a t ks bs xs → RepL K F bs ks → RepL K F xs vs → Rep K F (.ref a) (.dict t ks vs)
  | tab {a : Addr} {xs : List V} {l : List PV} : KTab K a xs → RepL K F xs l → Rep K F (.ref a) (.set l)
  /-- a text that repr gave -/
  | rpr {S : Str} {v : PV} : (dat v).shown = S → Rep K F (.str S) (.set [.non, v])
inductive RepL (K : Frg) (F : Hp) : List V → List PV → Prop
  | nil : RepL K F [] []
  | cons {v : V} {vs : List V} {p : PV} {ps : List PV} : Rep K F v p → RepL K F vs ps → RepL K F (v :: vs) (p :: ps)
end
/-- what a list of one's own holds -/
def MRep (K : Frg) (F H : Hp) (a : Addr) : PV → Prop
  | .lst l => ∃ xs, H a = some (.lst xs) ∧ RepL K F xs l
  | .dict t ks vs => (∃ xs, DicAt H a t ks xs ∧ RepL K F xs vs) ∨ ∃ bs xs, DicT K.2 H a t ks bs xs ∧ RepL K F bs ks ∧ RepL K F xs vs
  | _ => False

section
variable {K : Frg} {F F' H H' : Hp}
mutual
theorem Rep.mono (e : Ext F F') : ∀ (p : PV) (v : V), Rep K F v p → Rep K F' v p
  | .non, _, h => by cases h; exact .non
  | .bl _, _, h => by cases h; exact .bl _
  | .int _, _, h => by cases h; exact .int _
  | .str _, _, h => by cases h with | str _ q => exact .str _ q
  | .tup l, _, h => by cases h with | tup q r => exact .tup (e.seqT q) (RepL.mono e l _ r)
  | .lst l, _, h => by cases h with | lst q r => exact .lst (e _ _ q) (RepL.mono e l _ r)
  | .scr l, _, h => by cases h with | scr q => exact .scr (e.seqL q)
  | .dict _ ks vs, _, h => by
    cases h with
    | dic q r => exact .dic (q.of fun o z => e _ o z) (RepL.mono e vs _ r)
    | dct q r1 r2 => exact .dct (q.of fun o z => e _ o z) (RepL.mono e ks _ r1) (RepL.mono e vs _ r2)
  | .set l, _, h => by
    cases h with
    | tab q r => exact .tab q (RepL.mono e l _ r)
    | rpr z => exact .rpr z
theorem RepL.mono (e : Ext F F') : ∀ (ps : List PV) (vs : List V), RepL K F vs ps → RepL K F' vs ps
  | [], _, h => by cases h; exact .nil
  | p :: ps, _, h => by cases h with | cons q r => exact .cons (Rep.mono e p _ q) (RepL.mono e ps _ r)
end
theorem RepL.length : ∀ {vs : List V} {ps : List PV}, RepL K F vs ps → vs.length = ps.length
  | _, _, .nil => rfl
  | _, _, .cons _ t => by rw [List.length_cons, List.length_cons, RepL.length t]
theorem RepL.get : ∀ {vs : List V} {ps : List PV} {i : Nat} {p : PV}, RepL K F vs ps → ps[i]? = some p → ∃ v, vs[i]? = some v ∧ Rep K F v p
  | _, _, _, _, .nil, e => by simp at e
  | _, _, 0, _, .cons r _, e => by simp at e; subst e; exact ⟨_, rfl, r⟩
  | _, _, i + 1, p, .cons _ t, e => by
    obtain ⟨v, h1, h2⟩ := RepL.get (i := i) (p := p) t (by simpa using e)
    exact ⟨v, by simpa using h1, h2⟩
theorem RepL.append : ∀ {vs ws : List V} {ps qs : List PV}, RepL K F vs ps → RepL K F ws qs → RepL K F (vs ++ ws) (ps ++ qs)
  | _, _, _, _, .nil, s => s
  | _, _, _, _, .cons r t, s => .cons r (RepL.append t s)
theorem RepL.take : ∀ {vs : List V} {ps : List PV} (n : Nat), RepL K F vs ps → RepL K F (vs.take n) (ps.take n)
  | _, _, 0, _ => .nil
  | _, _, _ + 1, .nil => .nil
  | _, _, n + 1, .cons r t => .cons r (RepL.take n t)
theorem RepL.drop : ∀ {vs : List V} {ps : List PV} (n : Nat), RepL K F vs ps → RepL K F (vs.drop n) (ps.drop n)
  | _, _, 0, r => r
  | _, _, _ + 1, .nil => .nil
  | _, _, n + 1, .cons _ t => RepL.drop n t
theorem RepL.set : ∀ {vs : List V} {ps : List PV} {v : V} {p : PV} (i : Nat), Rep K F v p → RepL K F vs ps → RepL K F (vs.set i v) (ps.set i p)
  | _, _, _, _, _, _, .nil => .nil
  | _, _, _, _, 0, q, .cons _ t => .cons q t
  | _, _, _, _, i + 1, q, .cons r t => .cons r (RepL.set i q t)
theorem RepL.dropLast {vs : List V} {ps : List PV} (h : RepL K F vs ps) : RepL K F vs.dropLast ps.dropLast := by
  rw [List.dropLast_eq_take, List.dropLast_eq_take, h.length]; exact h.take _
theorem RepL.eraseIdx : ∀ {vs : List V} {ps : List PV} (i : Nat), RepL K F vs ps → RepL K F (vs.eraseIdx i) (ps.eraseIdx i)
  | _, _, _, .nil => .nil
  | _, _, 0, .cons _ t => t
  | _, _, i + 1, .cons r t => .cons r (RepL.eraseIdx i t)
theorem RepL.reverse : ∀ {vs : List V} {ps : List PV}, RepL K F vs ps → RepL K F vs.reverse ps.reverse
  | _, _, .nil => .nil
  | _, _, .cons r t => by
    rw [List.reverse_cons, List.reverse_cons]
    exact RepL.append (RepL.reverse t) (.cons r .nil)
theorem RepL.rep {vs : List V} {ps : List PV} (h : RepL K F vs ps) : ∀ n : Nat, RepL K F (List.replicate n vs).flatten (List.replicate n ps).flatten
  | 0 => .nil
  | n + 1 => by
    rw [List.replicate_succ, List.replicate_succ, List.flatten_cons, List.flatten_cons]
    exact h.append (h.rep n)
theorem RepL.ints : ∀ (l : List Int), RepL K F (l.map V.int) (l.map PV.int)
  | [] => .nil
  | _ :: r => .cons (.int _) (RepL.ints r)
theorem RepL.mem : ∀ {vs : List V} {ps : List PV} {p : PV}, RepL K F vs ps → p ∈ ps → ∃ v, v ∈ vs ∧ Rep K F v p
  | _, _, _, .nil, h => by simp at h
  | _, _, _, .cons r t, h => by
    rcases List.mem_cons.mp h with rfl | h
    · exact ⟨_, List.mem_cons_self, r⟩
    · obtain ⟨v, h1, h2⟩ := RepL.mem t h
      exact ⟨v, List.mem_cons_of_mem _ h1, h2⟩
theorem MRep.mono {a : Addr} {p : PV} (e : Ext F F') (hH : H' a = H a) (h : MRep K F H a p) : MRep K F' H' a p := by
  cases p with
  | lst l =>
    obtain ⟨xs, q, r⟩ := h
    exact ⟨xs, by rw [hH]; exact q, r.mono e _ _⟩
  | dict t ks vs =>
    rcases h with ⟨xs, q, r⟩ | ⟨bs, xs, q, r1, r2⟩
    · exact .inl ⟨xs, q.of fun o z => by rw [hH]; exact z, r.mono e _ _⟩
    · exact .inr ⟨bs, xs, q.of fun o z => by rw [hH]; exact z, r1.mono e _ _, r2.mono e _ _⟩
  | _ => exact h.elim
theorem MRep.there {a : Addr} {p : PV} (h : MRep K F H a p) : ∃ o, H a = some o := by
  cases p with
  | lst l => obtain ⟨xs, q, _⟩ := h; exact ⟨_, q⟩
  | dict t ks vs =>
    rcases h with ⟨xs, q, _⟩ | ⟨_, _, q, _⟩
    · exact q.there
    · exact q.there
  | _ => exact h.elim
/-- what can change -/
def isMut (o : HO) : Prop := (∃ xs, o = .lst xs) ∨ (∃ kvs, o = .dK kvs) ∨ ∃ φ, o = .ext φ
theorem MRep.mut {a : Addr} {p : PV} (h : MRep K F H a p) : ∃ o, H a = some o ∧ isMut o := by
  cases p with
  | lst l => obtain ⟨xs, q, _⟩ := h; exact ⟨_, q, .inl ⟨_, rfl⟩⟩
  | dict t ks vs =>
    rcases h with ⟨xs, ⟨_, kvs, h1, _⟩, _⟩ | ⟨_, _, ⟨_, xs, h1, _⟩, _⟩
    · exact ⟨_, h1, .inr (.inl ⟨_, rfl⟩)⟩
    · exact ⟨_, h1, .inr (.inr ⟨_, rfl⟩)⟩
  | _ => exact h.elim
/-- frozen -/
theorem MRep.fz {a : Addr} {p : PV} (h : MRep K F H a p) (hF : F a = none) : ∃ o, H a = some o ∧ Rep K (upd F a o) (.ref a) p := by
  cases p with
  | lst l =>
    obtain ⟨xs, q, r⟩ := h
    exact ⟨_, q, .lst upd_same (r.mono (Ext.upd hF) _ _)⟩
  | dict t ks vs =>
    rcases h with ⟨xs, q, r⟩ | ⟨bs, xs, q, r1, r2⟩
    · obtain ⟨o, ho⟩ := q.there
      exact ⟨o, ho, .dic (q.of fun u z => by rw [ho] at z; cases z; exact upd_same) (r.mono (Ext.upd hF) _ _)⟩
    · obtain ⟨o, ho⟩ := q.there
      exact ⟨o, ho, .dct (q.of fun u z => by rw [ho] at z; cases z; exact upd_same) (r1.mono (Ext.upd hF) _ _) (r2.mono (Ext.upd hF) _ _)⟩
  | _ => exact h.elim

/-- a key that is there -/
theorem strP_inj0 {s t : List Nat} (h : strP s = strP t) : s = t := by
  unfold strP at h
  injection h with h
  exact Array.toList_inj.mpr h |> fun e => by simpa using e
theorem keyOf_str {t : List Nat} {k : Key} (h : keyOf (.str t) = some k) : okSb t = true ∧ k = .inr (strP t) := by
  have h : (if okSb t = true then some (Sum.inr (strP t)) else none) = some k := h
  by_cases e : okSb t = true
  · rw [if_pos e] at h
    exact ⟨e, (Option.some.inj h).symm⟩
  · rw [if_neg e] at h; cases h
theorem keyOf_int {i : Int} {k : Key} (h : keyOf (.int i) = some k) : k = .inl i := (Option.some.inj h).symm
theorem key_eq {p y : PV} {k k' : Key} (h1 : keyOf p = some k) (h2 : keyOf y = some k') : eqv p y = decide (k = k') := by
  cases p with
  | int i =>
    obtain rfl := keyOf_int h1
    cases y with
    | int j =>
      obtain rfl := keyOf_int h2
      have e : eqv (.int i) (.int j) = decide (i = j) := rfl
      rw [e]
      exact decide_eq_decide.mpr ⟨fun e => by rw [e], fun e => Sum.inl.inj e⟩
    | str t =>
      obtain ⟨_, rfl⟩ := keyOf_str h2
      exact (decide_eq_false (fun e => by cases e)).symm
    | _ => cases h2
  | str s =>
    obtain ⟨_, rfl⟩ := keyOf_str h1
    cases y with
    | int j =>
      obtain rfl := keyOf_int h2
      exact (decide_eq_false (fun e => by cases e)).symm
    | str t =>
      obtain ⟨_, rfl⟩ := keyOf_str h2
      have e : eqv (.str s) (.str t) = decide (s = t) := rfl
      rw [e]
      exact decide_eq_decide.mpr ⟨fun e => by rw [e], fun e => strP_inj0 (Sum.inr.inj e)⟩
    | _ => cases h2
  | _ => cases h1
theorem repl_keys : ∀ (ks : List PV) (kvs : List (Key × V)), (kvs.map fun kv => some kv.1) = ks.map keyOf → RepL K F (kvs.map fun kv => kV kv.1) ks
  | [], [], _ => .nil
  | [], kv :: kvs, e => by simp at e
  | p :: ks, [], e => by simp at e
  | p :: ks, kv :: kvs, e => by
    rw [List.map_cons, List.map_cons] at e
    injection e with e1 e2
    rw [List.map_cons]
    refine .cons ?_ (repl_keys ks kvs e2)
    cases p with
    | int i =>
      have := keyOf_int e1.symm
      rw [this]; exact .int i
    | str t =>
      obtain ⟨h1, h2⟩ := keyOf_str e1.symm
      rw [h2]; exact .str t (okSb_ok h1)
    | _ => cases e1
theorem look_rel {y : PV} {k : Key} (hy : keyOf y = some k) : ∀ (ks vs : List PV) (kvs : List (Key × V)), (kvs.map fun kv => some kv.1) = ks.map keyOf → RepL K F (kvs.map (·.2)) vs →
    (lookV y ks vs = none → valV kvs k = none) ∧ (∀ v, lookV y ks vs = some v → ∃ x, valV kvs k = some x ∧ Rep K F x v)
  | [], vs, [], _, r => ⟨fun _ => rfl, fun v h => by cases vs <;> cases h⟩
  | [], vs, kv :: kvs, e, _ => by simp at e
  | p :: ks, vs, [], e, _ => by simp at e
  | p :: ks, [], kv :: kvs, _, r => by cases r
  | p :: ks, v :: vs, kv :: kvs, e, r => by
    rw [List.map_cons, List.map_cons] at e
    injection e with e1 e2
    cases r with
    | cons r0 r =>
      obtain ⟨ih1, ih2⟩ := look_rel hy ks vs kvs e2 r
      have q := key_eq e1.symm hy
      have ev : valV (kv :: kvs) k = if kv.1 = k then some kv.2 else valV kvs k := by
        unfold valV
        rw [List.find?_cons]
        by_cases h : kv.1 = k
        · rw [if_pos h, decide_eq_true h]; rfl
        · rw [if_neg h, decide_eq_false h]
      have el : lookV y (p :: ks) (v :: vs) = if eqv p y then some v else lookV y ks vs := rfl
      rw [ev, el, q]
      by_cases h : kv.1 = k
      · rw [if_pos h, decide_eq_true h]
        exact ⟨fun z => by simp at z, fun w z => ⟨kv.2, rfl, by simp at z; subst z; exact r0⟩⟩
      · rw [if_neg h, decide_eq_false h]
        exact ⟨fun z => ih1 (by simpa using z), fun w z => ih2 w (by simpa using z)⟩

theorem any_rel {y : PV} {k : Key} (hy : keyOf y = some k) : ∀ (ks : List PV) (kvs : List (Key × V)), (kvs.map fun kv => some kv.1) = ks.map keyOf → (kvs.any fun kv => decide (kv.1 = k)) = ks.any (fun p => eqv p y)
  | [], [], _ => rfl
  | [], kv :: kvs, e => by simp at e
  | p :: ks, [], e => by simp at e
  | p :: ks, kv :: kvs, e => by
    rw [List.map_cons, List.map_cons] at e
    injection e with e1 e2
    rw [List.any_cons, List.any_cons, any_rel hy ks kvs e2, key_eq e1.symm hy]
theorem putAt_rel {y v : PV} {x : V} {k : Key} (hy : keyOf y = some k) (rx : Rep K F x v) : ∀ (ks vs : List PV) (kvs : List (Key × V)), (kvs.map fun kv => some kv.1) = ks.map keyOf → RepL K F (kvs.map (·.2)) vs →
    ((kvs.map fun kv => if kv.1 = k then (kv.1, x) else kv).map fun kv => some kv.1) = ks.map keyOf ∧ RepL K F ((kvs.map fun kv => if kv.1 = k then (kv.1, x) else kv).map (·.2)) (putAt y v ks vs)
  | [], vs, [], _, r => ⟨rfl, r⟩
  | [], vs, kv :: kvs, e, _ => by simp at e
  | p :: ks, vs, [], e, _ => by simp at e
  | p :: ks, [], kv :: kvs, _, r => by cases r
  | p :: ks, w :: vs, kv :: kvs, e, r => by
    rw [List.map_cons, List.map_cons] at e
    injection e with e1 e2
    cases r with
    | cons r0 r =>
      obtain ⟨h1, h2⟩ := putAt_rel hy rx ks vs kvs e2 r
      have q := key_eq e1.symm hy
      have ep : putAt y v (p :: ks) (w :: vs) = (if eqv p y then v else w) :: putAt y v ks vs := rfl
      rw [ep, q]
      simp only [List.map_cons]
      by_cases h : kv.1 = k
      · rw [if_pos h, decide_eq_true h]
        exact ⟨by rw [h1, e1], .cons rx h2⟩
      · rw [if_neg h, decide_eq_false h]
        exact ⟨by rw [h1, e1], .cons r0 h2⟩
theorem put_rel {y v : PV} {x : V} {k : Key} (hy : keyOf y = some k) (rx : Rep K F x v) {ks vs : List PV} {kvs : List (Key × V)} (e : (kvs.map fun kv => some kv.1) = ks.map keyOf) (r : RepL K F (kvs.map (·.2)) vs) :
    ((putK kvs k x).map fun kv => some kv.1) = (putKs y ks).map keyOf ∧ RepL K F ((putK kvs k x).map (·.2)) (putVs y v ks vs) := by
  unfold putK putKs putVs
  rw [any_rel hy ks kvs e]
  by_cases h : ks.any (fun p => eqv p y) = true
  · rw [if_pos h, if_pos h, if_pos h]
    exact putAt_rel hy rx ks vs kvs e r
  · rw [if_neg h, if_neg h, if_neg h, List.map_append, List.map_append, List.map_append, e]
    refine ⟨?_, r.append (.cons rx .nil)⟩
    show ks.map keyOf ++ [some k] = ks.map keyOf ++ [keyOf y]
    rw [hy]

/-! ### the state -/
structure Gh where
  K : Frg
  H0 : Hp
  F0 : Hp
  io : Option Addr
structure SOk (G : Gh) (σ : L2.St) (H : Hp) (ρ : Env) (F : Hp) : Prop where
  len : ρ.length = σ.length
  sub : Ext F H
  keep : ∀ a o, G.H0 a = some o → G.io ≠ some a → H a = some o
  sh : ∀ i v, slotAt ρ i = .sh v → ∃ x, σ[i]? = some (some x) ∧ Rep G.K F x v
  own : ∀ i v, slotAt ρ i = .own v → ∃ a, σ[i]? = some (some (.ref a)) ∧ F a = none ∧ MRep G.K F H a v ∧ (G.H0 a = none ∨ G.io = some a)
  sep : ∀ i j v w a, slotAt ρ i = .own v → slotAt ρ j = .own w → σ[i]? = some (some (.ref a)) → σ[j]? = some (some (.ref a)) → i = j
  pin : ∀ a, G.io = some a → σ[0]? = some (some (.ref a)) ∧ ∃ o, H a = some o
  old : ∀ a o, G.H0 a = some o → G.io ≠ some a → F a = G.F0 a
/-- what an expression hands on -/
def RR (G : Gh) (σ : L2.St) (H F : Hp) (ρ : Env) (x : V) : R → Prop
  | .sh v => Rep G.K F x v
  | .own v => ∃ a, x = .ref a ∧ F a = none ∧ MRep G.K F H a v ∧ G.H0 a = none ∧ G.io ≠ some a ∧ ∀ i w, slotAt ρ i = .own w → σ[i]? ≠ some (some (.ref a))
  | .slot i => σ[i]? = some (some x)
/-- what waits -/
def WR (K : Frg) (σ : L2.St) (F : Hp) (x : V) : R → Prop
  | .sh v => Rep K F x v
  | .own _ => False
  | .slot i => σ[i]? = some (some x)
/-- what is looked at -/
def PR (K : Frg) (F H : Hp) (x : V) (v : PV) : Prop := Rep K F x v ∨ ∃ a, x = .ref a ∧ F a = none ∧ MRep K F H a v
inductive PRL (K : Frg) (F H : Hp) : List V → List PV → Prop
  | nil : PRL K F H [] []
  | cons {v : V} {vs : List V} {p : PV} {ps : List PV} : PR K F H v p → PRL K F H vs ps → PRL K F H (v :: vs) (p :: ps)
inductive WRL (K : Frg) (σ : L2.St) (F : Hp) : List V → List R → Prop
  | nil : WRL K σ F [] []
  | cons {v : V} {vs : List V} {r : R} {rs : List R} : WR K σ F v r → WRL K σ F vs rs → WRL K σ F (v :: vs) (r :: rs)

variable {G : Gh} {σ : L2.St} {ρ ρ' : Env} {x : V} {r : R} {v : PV}
theorem WR.mono (e : Ext F F') (h : WR K σ F x r) : WR K σ F' x r := by
  cases r with
  | sh v => exact Rep.mono e _ _ h
  | own _ => exact h.elim
  | slot i => exact h
theorem WRL.mono (e : Ext F F') : ∀ {xs : List V} {rs : List R}, WRL K σ F xs rs → WRL K σ F' xs rs
  | _, _, .nil => .nil
  | _, _, .cons h t => .cons (h.mono e) (WRL.mono e t)
/-- a new frozen object, not a slot's own -/
theorem SOk.freeze (S : SOk G σ H ρ F) {a : Addr} {o : HO} (hF : F a = none) (hH : H a = some o) (h0 : G.H0 a = none) (hs : ∀ i w, slotAt ρ i = .own w → σ[i]? ≠ some (some (.ref a))) : SOk G σ H ρ (upd F a o) where
  len := S.len
  sub := fun b u e => by
    by_cases hb : b = a
    · subst hb; rw [upd_same] at e; rw [hH]; exact e
    · rw [upd_ne hb] at e; exact S.sub _ _ e
  keep := S.keep
  sh := fun i v e => by
    obtain ⟨x, h1, h2⟩ := S.sh i v e
    exact ⟨x, h1, h2.mono (Ext.upd hF) _ _⟩
  own := fun i v e => by
    obtain ⟨b, h1, h2, h3, h4⟩ := S.own i v e
    have hb : b ≠ a := fun z => hs i v e (by rw [← z]; exact h1)
    exact ⟨b, h1, by rw [upd_ne hb]; exact h2, h3.mono (Ext.upd hF) rfl, h4⟩
  sep := S.sep
  pin := S.pin
  old := fun b u e h => by
    have hb : b ≠ a := fun z => by rw [z, h0] at e; cases e
    rw [upd_ne hb]; exact S.old b u e h
theorem RR.wait (S : SOk G σ H ρ F) (h : RR G σ H F ρ x r) : ∃ F', Ext F F' ∧ SOk G σ H ρ F' ∧ WR G.K σ F' x (wt r) := by
  cases r with
  | sh v => exact ⟨F, Ext.refl F, S, h⟩
  | own v =>
    obtain ⟨a, rfl, hF, hM, h0, _, hs⟩ := h
    obtain ⟨o, hH, hR⟩ := hM.fz hF
    exact ⟨_, Ext.upd hF, S.freeze hF hH h0 hs, hR⟩
  | slot i => exact ⟨F, Ext.refl F, S, h⟩
theorem WR.rr (h : WR G.K σ F x r) : RR G σ H F ρ x r := by
  cases r with
  | sh v => exact h
  | own v => exact h.elim
  | slot i => exact h
theorem RR.peek (S : SOk G σ H ρ F) (h : RR G σ H F ρ x r) (e : pk r ρ = some v) : PR G.K F H x v := by
  cases r with
  | sh w =>
    obtain rfl : w = v := Option.some.inj e
    exact .inl h
  | own w =>
    obtain rfl : w = v := Option.some.inj e
    obtain ⟨a, rfl, hF, hM, _⟩ := h
    exact .inr ⟨a, rfl, hF, hM⟩
  | slot i =>
    have e' : (match slotAt ρ i with | .none => none | .sh v => some v | .own v => some v) = some v := e
    have h' : σ[i]? = some (some x) := h
    cases q : slotAt ρ i with
    | none => rw [q] at e'; cases e'
    | sh w =>
      rw [q] at e'
      obtain rfl : w = v := Option.some.inj e'
      obtain ⟨y, h1, h2⟩ := S.sh i w q
      rw [h'] at h1
      obtain rfl : x = y := by simpa using h1
      exact .inl h2
    | own w =>
      rw [q] at e'
      obtain rfl : w = v := Option.some.inj e'
      obtain ⟨a, h1, h2, h3, _⟩ := S.own i w q
      rw [h'] at h1
      obtain rfl : x = .ref a := by simpa using h1
      exact .inr ⟨a, rfl, h2, h3⟩
theorem WRL.peek (S : SOk G σ H ρ F) : ∀ {xs : List V} {rs : List R} {vs : List PV}, WRL G.K σ F xs rs → pkL rs ρ = some vs → PRL G.K F H xs vs
  | _, _, _, .nil, e => by
    obtain rfl := Option.some.inj e
    exact .nil
  | _, _, _, .cons (r := r) (rs := rs) h t, e => by
    unfold pkL at e
    cases q : pk r ρ with
    | none => rw [q] at e; cases e
    | some v =>
      rw [q] at e
      cases q2 : pkL rs ρ with
      | none => simp only [q2] at e; cases e
      | some vs' =>
        simp only [q2] at e
        obtain rfl := Option.some.inj e
        exact .cons ((WR.rr h : RR G σ H F ρ _ r).peek S q) (WRL.peek S t q2)
theorem slotAt_set {i j : Nat} {s : Slot} (hi : i < ρ.length) : slotAt (ρ.set i s) j = if i = j then s else slotAt ρ j := by
  unfold slotAt
  rw [List.getD_eq_getElem?_getD, List.getD_eq_getElem?_getD, List.getElem?_set]
  by_cases h : i = j
  · subst h
    simp [hi]
  · simp [h]
theorem slotAt_lt {i : Nat} {s : Slot} (h : slotAt ρ i = s) (hs : s ≠ .none) : i < ρ.length := by
  by_cases hi : i < ρ.length
  · exact hi
  · exfalso
    apply hs
    rw [← h]
    unfold slotAt
    rw [List.getD_eq_getElem?_getD, List.getElem?_eq_none (by omega)]
    rfl
/-- a slot of one's own is frozen -/
theorem SOk.slot (S : SOk G σ H ρ F) {i : Nat} {w : PV} (q : slotAt ρ i = .own w) : ∃ F' a, σ[i]? = some (some (.ref a)) ∧ Ext F F' ∧ SOk G σ H (ρ.set i (.sh w)) F' ∧ Rep G.K F' (.ref a) w := by
  obtain ⟨a, h1, h2, h3, h4⟩ := S.own i w q
  obtain ⟨o, hH, hR⟩ := h3.fz h2
  have hi := slotAt_lt q (by simp)
  refine ⟨upd F a o, a, h1, Ext.upd h2, ?_, hR⟩
  refine ⟨by rw [List.length_set]; exact S.len, fun b u e => ?_, S.keep, fun j v e => ?_, fun j v e => ?_, fun j k v w' b e1 e2 e3 e4 => ?_, S.pin, fun b u e hio => ?_⟩
  · by_cases hb : b = a
    · subst hb; rw [upd_same] at e; rw [hH]; exact e
    · rw [upd_ne hb] at e; exact S.sub _ _ e
  · rw [slotAt_set hi] at e
    by_cases hj : i = j
    · subst hj
      rw [if_pos rfl] at e
      obtain rfl : w = v := by simpa using e
      exact ⟨_, h1, hR⟩
    · rw [if_neg hj] at e
      obtain ⟨x, g1, g2⟩ := S.sh j v e
      exact ⟨x, g1, g2.mono (Ext.upd h2) _ _⟩
  · rw [slotAt_set hi] at e
    by_cases hj : i = j
    · rw [if_pos hj] at e; cases e
    · rw [if_neg hj] at e
      obtain ⟨b, g1, g2, g3, g4⟩ := S.own j v e
      have hb : b ≠ a := fun z => hj (S.sep i j w v a q e h1 (by rw [← z]; exact g1))
      exact ⟨b, g1, by rw [upd_ne hb]; exact g2, g3.mono (Ext.upd h2) rfl, g4⟩
  · rw [slotAt_set hi] at e1 e2
    by_cases hj : i = j
    · rw [if_pos hj] at e1; cases e1
    · rw [if_neg hj] at e1
      by_cases hk : i = k
      · rw [if_pos hk] at e2; cases e2
      · rw [if_neg hk] at e2
        exact S.sep j k v w' b e1 e2 e3 e4
  · have hb : b ≠ a := fun z => by
      subst z
      rcases h4 with h4 | h4
      · rw [h4] at e; cases e
      · exact hio h4
    rw [upd_ne hb]; exact S.old b u e hio
theorem RR.frz (S : SOk G σ H ρ F) (h : RR G σ H F ρ x r) (e : fz r ρ = some (v, ρ')) : ∃ F', Ext F F' ∧ SOk G σ H ρ' F' ∧ Rep G.K F' x v := by
  cases r with
  | sh w =>
    obtain ⟨rfl, rfl⟩ : w = v ∧ ρ = ρ' := by simpa [fz] using e
    exact ⟨F, Ext.refl F, S, h⟩
  | own w =>
    obtain ⟨rfl, rfl⟩ : w = v ∧ ρ = ρ' := by simpa [fz] using e
    exact RR.wait S h
  | slot i =>
    have e' : (match slotAt ρ i with | .none => none | .sh v => some (v, ρ) | .own v => some (v, ρ.set i (.sh v))) = some (v, ρ') := e
    have h' : σ[i]? = some (some x) := h
    cases q : slotAt ρ i with
    | none => rw [q] at e'; cases e'
    | sh w =>
      rw [q] at e'
      obtain ⟨rfl, rfl⟩ : w = v ∧ ρ = ρ' := by simpa using e'
      obtain ⟨y, h1, h2⟩ := S.sh i w q
      rw [h'] at h1
      obtain rfl : x = y := by simpa using h1
      exact ⟨F, Ext.refl F, S, h2⟩
    | own w =>
      rw [q] at e'
      obtain ⟨rfl, rfl⟩ : w = v ∧ ρ.set i (.sh w) = ρ' := by simpa using e'
      obtain ⟨F', a, g1, g2, g3, g4⟩ := S.slot q
      rw [h'] at g1
      obtain rfl : x = .ref a := by simpa using g1
      exact ⟨F', g2, g3, g4⟩
theorem WRL.frz : ∀ {ρ ρ' : Env} {F : Hp} {xs : List V} {rs : List R} {vs : List PV}, SOk G σ H ρ F → WRL G.K σ F xs rs → fzL rs ρ = some (vs, ρ') → ∃ F', Ext F F' ∧ SOk G σ H ρ' F' ∧ RepL G.K F' xs vs
  | ρ, ρ', F, _, _, _, S, .nil, e => by
    obtain ⟨rfl, rfl⟩ : [] = _ ∧ ρ = ρ' := by simpa [fzL] using e
    exact ⟨F, Ext.refl F, S, .nil⟩
  | ρ, ρ', F, _, _, _, S, .cons (r := r) (rs := rs) h t, e => by
    unfold fzL at e
    cases q : fz r ρ with
    | none => rw [q] at e; cases e
    | some p =>
      obtain ⟨v, ρ1⟩ := p
      simp only [q] at e
      cases q2 : fzL rs ρ1 with
      | none => simp only [q2] at e; cases e
      | some p2 =>
        obtain ⟨vs', ρ2⟩ := p2
        simp only [q2] at e
        obtain ⟨rfl, rfl⟩ : v :: vs' = _ ∧ ρ2 = ρ' := by simpa using e
        obtain ⟨F1, e1, S1, R1⟩ := (WR.rr h : RR G σ H F ρ _ r).frz S q
        obtain ⟨F2, e2, S2, R2⟩ := WRL.frz S1 (WRL.mono e1 t) q2
        exact ⟨F2, e1.trans e2, S2, .cons (R1.mono e2 _ _) R2⟩
end
end Py

/-! Pv1a: tuples as keys. -/
namespace Py
open PySem PySem.Spec PyProof.Rows L2
section
variable {X : Cx} {K : Frg} {F H : Hp} {x : V} {p : PV} {G : Gh}
mutual
theorem nested_of {pins : List (Addr × Obj)} {σ : L2.St} {s : Shared} (I : Inv X pins σ H s) (e : Ext F H) : ∀ (n : Nat) (p : PV) (x : V) (u : Value), pureD n p = true → Rep X.kw F x p → RelV x u → NestedIs s.heap (nk p) u
  | _, .non, _, _, _, .non, r => by cases r; exact .none
  | _, .bl b, _, _, _, .bl _, r => by cases r; exact .bool (by cases b <;> rfl)
  | _, .int i, _, _, _, .int _, r => by obtain ⟨t, rfl⟩ := r; exact .int i t
  | _, .str y, _, _, _, .str _ _, r => by obtain ⟨t, rfl⟩ := r; exact .text _ t
  | 0, .tup _, _, _, h, _, _ => by cases h
  | n + 1, .tup l, _, _, h, .tup q r, ru => by
    cases ru
    obtain ⟨its, v, ⟨o, ho, hc, m, hd⟩, _⟩ := I.tuple (e.seqT q)
    exact .tup ho hc hd (by rw [List.toList_toArray]; exact nested_all I e n l _ its (fun p hp => List.all_eq_true.mp h p hp) r v)
  | 0, .lst _, _, _, h, _, _ => by cases h
  | _ + 1, .lst _, _, _, h, _, _ => by cases h
  | 0, .scr _, _, _, h, _, _ => by cases h
  | _ + 1, .scr _, _, _, h, _, _ => by cases h
  | 0, .dict _ _ _, _, _, h, _, _ => by cases h
  | _ + 1, .dict _ _ _, _, _, h, _, _ => by cases h
  | 0, .set _, _, _, h, _, _ => by cases h
  | _ + 1, .set _, _, _, h, _, _ => by cases h
theorem nested_all {pins : List (Addr × Obj)} {σ : L2.St} {s : Shared} (I : Inv X pins σ H s) (e : Ext F H) : ∀ (n : Nat) (l : List PV) (xs : List V) (us : List Value), (∀ p ∈ l, pureD n p = true) → RepL X.kw F xs l → Vals xs us → NestedAll s.heap (nkL l) us
  | _, [], _, _, _, .nil, .nil => .nil
  | n, p :: l, _, _, h, .cons r t, .cons v w => .cons (nested_of I e n p _ _ (h p List.mem_cons_self) r v) (nested_all I e n l _ _ (fun z hz => h z (List.mem_cons_of_mem _ hz)) t w)
end
/-! ### dicts whose keys are tuples -/
theorem isTup_pure {p : PV} (h : isTupP p = true) : pureD 8 p = true := by
  cases p with
  | tup l => exact h
  | _ => cases h
theorem isTup_ref {K : Frg} {F : Hp} {x : V} {p : PV} (h : isTupP p = true) (r : Rep K F x p) : ∃ b, x = .ref b := by
  cases p with
  | tup l => cases r with | tup _ _ => exact ⟨_, rfl⟩
  | _ => cases h
theorem Ent.fst : ∀ {ks : List PV} {bs ys : List V} {xs : Xs}, Ent ks bs ys xs → xs.map (·.1) = ks.map nk
  | _, _, _, _, .nil => rfl
  | _, _, _, _, .cons _ t => by rw [List.map_cons, List.map_cons, Ent.fst t]
theorem Ent.len : ∀ {ks : List PV} {bs ys : List V} {xs : Xs}, Ent ks bs ys xs → xs.length = ks.length
  | _, _, _, _, .nil => rfl
  | _, _, _, _, .cons _ t => by rw [List.length_cons, List.length_cons, Ent.len t]
theorem key_is {pins : List (Addr × Obj)} {σ : L2.St} {s : Shared} (I : Inv X pins σ H s) (e : Ext F H) {k : PV} {b : Addr} (hk : isTupP k = true) (r : Rep X.kw F (.ref b) k) : (nestedKind X.prog X.w).is s.heap (nk k) b :=
  ⟨nested_of I e 8 k _ _ (isTup_pure hk) r rfl, nk_depth 8 k (isTup_pure hk)⟩
theorem Ent.is {pins : List (Addr × Obj)} {σ : L2.St} {s : Shared} (I : Inv X pins σ H s) (e : Ext F H) : ∀ {ks : List PV} {bs ys : List V} {xs : Xs}, Ent ks bs ys xs → RepL X.kw F bs ks → ks.all isTupP = true → ∀ x ∈ xs, (nestedKind X.prog X.w).is s.heap x.1 x.2.1
  | _, _, _, _, .nil, _, _, x, hx => by cases hx
  | _, _, _, _, .cons _ t, .cons r rs, h, x, hx => by
    rw [List.all_cons, Bool.and_eq_true] at h
    rcases List.mem_cons.mp hx with rfl | hx
    · exact key_is I e h.1 r
    · exact Ent.is I e t rs h.2 x hx
/-- the dict in the heap -/
theorem dct_at {pins : List (Addr × Obj)} {σ : L2.St} {s : Shared} (I : Inv X pins σ H s) (e : Ext F H) {a : Addr} {ks : List PV} {bs ys : List V} {xs : Xs} (h1 : H a = some (.ext (dEx a X.w xs))) (en : Ent ks bs ys xs) (nd : (ks.map nk).Nodup) (ht : ks.all isTupP = true) (r : RepL X.kw F bs ks) :
    (a == sysModules) = false ∧ s.heap.DictOfH (nestedKind X.prog X.w) a xs := by
  obtain ⟨⟨z, o, es, ep, q1, q2, q3, q4⟩, _, _⟩ := (show ObjOk X.prog X.w H s.heap a (.ext (dEx a X.w xs)) from I.hok a _ h1)
  exact ⟨z, o, es, ep, q1, q2, q3, q4, en.is I e r ht, by rw [en.fst]; exact nd⟩
theorem ent_look {F : Hp} {K : Frg} {k : PV} (hk : isTupP k = true) : ∀ {ks vs : List PV} {bs ys : List V} {xs : Xs}, Ent ks bs ys xs → RepL K F ys vs → ks.all isTupP = true →
    (lookV k ks vs = none → atKey xs (nk k) = none) ∧ (∀ v, lookV k ks vs = some v → ∃ b u y, atKey xs (nk k) = some (b, u) ∧ RelV y u ∧ Rep K F y v)
  | _, vs, _, _, _, .nil, _, _ => ⟨fun _ => rfl, fun v h => by cases vs <;> cases h⟩
  | _, _, _, _, _, .cons (k := k0) (ks := ks0) (b := b0) (u := u0) (y := y0) (xs := xs0) hu t, .cons r rs, h => by
    rw [List.all_cons, Bool.and_eq_true] at h
    obtain ⟨ih1, ih2⟩ := ent_look hk t rs h.2
    have eq := eqv_iff (isTup_pure h.1) (isTup_pure hk)
    have ea : atKey ((nk k0, b0, u0) :: xs0) (nk k) = if nk k0 = nk k then some (b0, u0) else atKey xs0 (nk k) := by
      unfold atKey
      rw [List.find?_cons]
      by_cases c : nk k0 = nk k
      · rw [if_pos c, decide_eq_true c]; rfl
      · rw [if_neg c, decide_eq_false c]
    rw [ea]
    have el : ∀ (w : PV) (ws : List PV), lookV k (k0 :: ks0) (w :: ws) = if eqv k0 k then some w else lookV k ks0 ws := fun _ _ => rfl
    rw [el]
    by_cases c : eqv k0 k = true
    · rw [if_pos (eq.mp c), if_pos c]
      exact ⟨fun z => (by cases z), fun v z => ⟨b0, u0, y0, rfl, hu, (by cases z; exact r)⟩⟩
    · rw [if_neg (fun z => c (eq.mpr z)), if_neg c]
      exact ⟨ih1, ih2⟩
/-! storing -/
def repY (k : PV) (v : V) : List PV → List V → List V
  | [], ys => ys
  | p :: ks, ys => (match ys with | [] => [] | y :: ys => (if eqv p k then v else y) :: repY k v ks ys)
def putBs (k : PV) (b : V) (ks : List PV) (bs : List V) : List V := if ks.any (fun p => eqv p k) then bs else bs ++ [b]
def putYs (k : PV) (v : V) (ks : List PV) (ys : List V) : List V := if ks.any (fun p => eqv p k) then repY k v ks ys else ys ++ [v]
theorem ent_any {k : PV} (hk : isTupP k = true) : ∀ {ks : List PV} {bs ys : List V} {xs : Xs}, Ent ks bs ys xs → ks.all isTupP = true → (atKey xs (nk k)).isSome = ks.any (fun p => eqv p k)
  | _, _, _, _, .nil, _ => rfl
  | _, _, _, _, .cons (k := k0) (ks := ks0) (b := b0) (u := u0) (xs := xs0) hu t, h => by
    rw [List.all_cons, Bool.and_eq_true] at h
    have ih := ent_any hk t h.2
    have eq := eqv_iff (isTup_pure h.1) (isTup_pure hk)
    rw [List.any_cons, ← ih]
    unfold atKey
    rw [List.find?_cons]
    by_cases c : nk k0 = nk k
    · rw [decide_eq_true c, eq.mpr c]; rfl
    · have c2 : eqv k0 k = false := by
        cases z : eqv k0 k with
        | false => rfl
        | true => exact absurd (eq.mp z) c
      rw [decide_eq_false c, c2, Bool.false_or]
theorem ent_rep {k : PV} (hk : isTupP k = true) {v : V} {u : Value} (rv : RelV v u) : ∀ {ks : List PV} {bs ys : List V} {xs : Xs}, Ent ks bs ys xs → ks.all isTupP = true → Ent ks bs (repY k v ks ys) (xs.map (PySem.putAt (nk k) u))
  | _, _, _, _, .nil, _ => .nil
  | _, _, _, _, .cons (k := k0) (b := b0) (u := u0) (y := y0) hu t, h => by
    rw [List.all_cons, Bool.and_eq_true] at h
    have ih := ent_rep hk rv t h.2
    have eq := eqv_iff (isTup_pure h.1) (isTup_pure hk)
    rw [List.map_cons]
    by_cases c : nk k0 = nk k
    · have e1 : PySem.putAt (nk k) u (nk k0, b0, u0) = (nk k0, b0, u) := if_pos c
      rw [e1]
      show Ent _ _ ((if eqv k0 k then v else y0) :: _) _
      rw [if_pos (eq.mpr c)]
      exact .cons rv ih
    · have e1 : PySem.putAt (nk k) u (nk k0, b0, u0) = (nk k0, b0, u0) := if_neg c
      rw [e1]
      show Ent _ _ ((if eqv k0 k then v else y0) :: _) _
      rw [if_neg (fun z => c (eq.mp z))]
      exact .cons hu ih
theorem ent_snoc {k : PV} {b : Addr} {v : V} {u : Value} (rv : RelV v u) : ∀ {ks : List PV} {bs ys : List V} {xs : Xs}, Ent ks bs ys xs → Ent (ks ++ [k]) (bs ++ [.ref b]) (ys ++ [v]) (xs ++ [(nk k, b, u)])
  | _, _, _, _, .nil => .cons rv .nil
  | _, _, _, _, .cons hu t => .cons hu (ent_snoc rv t)
theorem ent_put {k : PV} (hk : isTupP k = true) {b : Addr} {v : V} {u : Value} (rv : RelV v u) {ks : List PV} {bs ys : List V} {xs : Xs} (t : Ent ks bs ys xs) (h : ks.all isTupP = true) :
    Ent (putKs k ks) (putBs k (.ref b) ks bs) (putYs k v ks ys) (storedH xs (nk k) b u) := by
  unfold putKs putBs putYs storedH
  rw [ent_any hk t h]
  by_cases c : ks.any (fun p => eqv p k) = true
  · rw [if_pos c, if_pos c, if_pos c, if_pos c]; exact ent_rep hk rv t h
  · rw [if_neg c, if_neg c, if_neg c, if_neg c]; exact ent_snoc rv t
theorem putKs_all {k : PV} (hk : isTupP k = true) {ks : List PV} (h : ks.all isTupP = true) : (putKs k ks).all isTupP = true := by
  unfold putKs
  by_cases c : ks.any (fun p => eqv p k) = true
  · rw [if_pos c]; exact h
  · rw [if_neg c, List.all_append, h]; simp [hk]
theorem putKs_nd {k : PV} (hk : isTupP k = true) {ks : List PV} (h : ks.all isTupP = true) (nd : (ks.map nk).Nodup) : ((putKs k ks).map nk).Nodup := by
  unfold putKs
  by_cases c : ks.any (fun p => eqv p k) = true
  · rw [if_pos c]; exact nd
  · rw [if_neg c, List.map_append]
    refine List.nodup_append.mpr ⟨nd, List.nodup_cons.mpr ⟨fun z => (by cases z), List.nodup_nil⟩, fun x hx y hy e => ?_⟩
    have hy : y = nk k := by simpa using hy
    obtain ⟨p, hp, rfl⟩ := List.mem_map.mp hx
    refine c (List.any_eq_true.mpr ⟨p, hp, ?_⟩)
    exact (eqv_iff (isTup_pure (List.all_eq_true.mp h p hp)) (isTup_pure hk)).mpr (e.trans hy)
theorem rep_putBs {K : Frg} {F : Hp} {k : PV} {b : V} (rb : Rep K F b k) {ks : List PV} {bs : List V} (r : RepL K F bs ks) : RepL K F (putBs k b ks bs) (putKs k ks) := by
  unfold putBs putKs
  by_cases c : ks.any (fun p => eqv p k) = true
  · rw [if_pos c, if_pos c]; exact r
  · rw [if_neg c, if_neg c]; exact r.append (.cons rb .nil)
theorem rep_repY {K : Frg} {F : Hp} {k w : PV} {v : V} (rv : Rep K F v w) : ∀ {ks : List PV} {vs : List PV} {ys : List V}, RepL K F ys vs → RepL K F (repY k v ks ys) (Py.putAt k w ks vs)
  | [], _, _, r => r
  | _ :: _, _, _, .nil => .nil
  | p :: ks, _, _, .cons r rs => by
    show RepL K F ((if eqv p k then v else _) :: repY k v ks _) ((if eqv p k then w else _) :: Py.putAt k w ks _)
    by_cases c : eqv p k = true
    · rw [if_pos c, if_pos c]; exact .cons rv (rep_repY rv rs)
    · rw [if_neg c, if_neg c]; exact .cons r (rep_repY rv rs)
theorem rep_putYs {K : Frg} {F : Hp} {k w : PV} {v : V} (rv : Rep K F v w) {ks vs : List PV} {ys : List V} (r : RepL K F ys vs) : RepL K F (putYs k v ks ys) (putVs k w ks vs) := by
  unfold putYs putVs
  by_cases c : ks.any (fun p => eqv p k) = true
  · rw [if_pos c, if_pos c]; exact rep_repY rv r
  · rw [if_neg c, if_neg c]; exact r.append (.cons rv .nil)
theorem dEx_obj {P : Program} {w : World} {H : Hp} {h : Heap} {a : Addr} {xs : Xs} (z : (a == sysModules) = false) (d : h.DictOfH (nestedKind P w) a xs) : ObjOk P w H h a (.ext (dEx a w xs)) := by
  obtain ⟨o, es, ep, q1, q2, q3, q4, _, _⟩ := d
  exact ⟨⟨z, o, es, ep, q1, q2, q3, q4⟩, ⟨o, q1⟩, fun h1 h2 ⟨_, o', es', ep', k1, k2, k3, k4⟩ hk => ⟨z, o', es', ep', hk _ k1, k2, k3, k4⟩⟩
end
end Py

/-! Pv2: the operations on values. -/
namespace Py
open PySem PySem.Spec PyProof.Rows L2

/-! ### what stands behind an operation -/
def ResOk (K : Frg) (F' H H' : Hp) (x : V) : Res → Prop
  | .sh v => Rep K F' x v
  | .own v => ∃ a, x = .ref a ∧ H a = none ∧ F' a = none ∧ MRep K F' H' a v
def Post (K : Frg) (F H : Hp) (res : Res) (Q : VK) : Prop :=
  ∀ x H' F', Ext H H' → Ext F F' → Ext F' H' → (∀ a o, H a = some o → F' a = F a) → ResOk K F' H H' x res → Q x H'
section
variable {K : Frg} {F H : Hp} {Q : VK} {x y : V} {v p q : PV}
theorem Post.sh (h : Post K F H (.sh v) Q) (e : Ext F H) (r : Rep K F x v) : Q x H := h x H F (Ext.refl H) (Ext.refl F) e (fun _ _ _ => rfl) r
theorem Ext.both {F H : Hp} (e : Ext F H) {a : Addr} {o : HO} : Ext (L2.upd F a o) (L2.upd H a o) := fun b u q => by
  by_cases hb : b = a
  · subst hb; rw [upd_same] at q ⊢; exact q
  · rw [upd_ne hb] at q ⊢; exact e _ _ q
theorem Ext.none {F H : Hp} (e : Ext F H) {a : Addr} (h : H a = Option.none) : F a = Option.none := by
  cases q : F a with
  | none => rfl
  | some o => have := e _ _ q; rw [h] at this; cases this
theorem Post.newT {l : List PV} {xs : List V} (h : Post K F H (.sh (.tup l)) Q) (e : Ext F H) (r : RepL K F xs l) {a : Addr} (n : H a = none) : Q (.ref a) (upd H a (.tup xs)) :=
  h _ _ (upd F a (.tup xs)) (Ext.upd n) (Ext.upd (e.none n)) e.both (fun b o q => by rw [upd_ne (ne_of_none q n)])
    (.tup (.inl (.inl upd_same)) (r.mono (Ext.upd (e.none n)) _ _))
theorem Post.newL {l : List PV} {xs : List V} (h : Post K F H (.own (.lst l)) Q) (e : Ext F H) (r : RepL K F xs l) {a : Addr} (n : H a = none) : Q (.ref a) (upd H a (.lst xs)) :=
  h _ _ F (Ext.upd n) (Ext.refl F) (e.trans (Ext.upd n)) (fun b o q => rfl) ⟨a, rfl, n, e.none n, xs, upd_same, r⟩
theorem Post.newD {t : Bool} {ks vs : List PV} {xs : List V} {o : HO} (h : Post K F H (.own (.dict t ks vs)) Q) (e : Ext F H) {a : Addr} (d : DicAt (upd H a o) a t ks xs) (r : RepL K F xs vs) (n : H a = none) : Q (.ref a) (upd H a o) :=
  h _ _ F (Ext.upd n) (Ext.refl F) (e.trans (Ext.upd n)) (fun b o q => rfl) ⟨a, rfl, n, e.none n, .inl ⟨xs, d, r⟩⟩
theorem Post.newDT {t : Bool} {ks vs : List PV} {bs xs : List V} {o : HO} (h : Post K F H (.own (.dict t ks vs)) Q) (e : Ext F H) {a : Addr} (d : DicT K.2 (upd H a o) a t ks bs xs) (r1 : RepL K F bs ks) (r : RepL K F xs vs) (n : H a = none) : Q (.ref a) (upd H a o) :=
  h _ _ F (Ext.upd n) (Ext.refl F) (e.trans (Ext.upd n)) (fun b o q => rfl) ⟨a, rfl, n, e.none n, .inr ⟨bs, xs, d, r1, r⟩⟩
theorem PR.int {i : Int} (h : PR K F H x (.int i)) : x = .int i := by
  rcases h with h | ⟨_, _, _, h⟩
  · cases h; rfl
  · exact h.elim
theorem PR.non (h : PR K F H x .non) : x = .non := by
  rcases h with h | ⟨_, _, _, h⟩
  · cases h; rfl
  · exact h.elim
theorem PR.bl {b : Bool} (h : PR K F H x (.bl b)) : x = .bl b := by
  rcases h with h | ⟨_, _, _, h⟩
  · cases h; rfl
  · exact h.elim
theorem PR.str {s : List Nat} (h : PR K F H x (.str s)) : x = .str (strP s) ∧ OkS s := by
  rcases h with h | ⟨_, _, _, h⟩
  · cases h with | str _ q => exact ⟨rfl, q⟩
  · exact h.elim
theorem PR.tup {l : List PV} (h : PR K F H x (.tup l)) : ∃ a xs, x = .ref a ∧ SqT K.1 F a xs ∧ RepL K F xs l := by
  rcases h with h | ⟨_, _, _, h⟩
  · cases h with | tup q r => exact ⟨_, _, rfl, q, r⟩
  · exact h.elim
theorem PR.lst (e : Ext F H) {l : List PV} (h : PR K F H x (.lst l)) : ∃ a xs, x = .ref a ∧ H a = some (.lst xs) ∧ RepL K F xs l := by
  rcases h with h | ⟨a, rfl, _, xs, q, r⟩
  · cases h with | lst q r => exact ⟨_, _, rfl, e _ _ q, r⟩
  · exact ⟨_, _, rfl, q, r⟩
theorem PR.dic (e : Ext F H) {ks vs : List PV} (h : PR K F H x (.dict false ks vs)) : ∃ a xs, x = .ref a ∧ DicAt H a false ks xs ∧ RepL K F xs vs := by
  rcases h with h | ⟨a, rfl, _, ⟨xs, q, r⟩ | ⟨_, _, ⟨z, _⟩, _⟩⟩
  · cases h with
    | dic q r => exact ⟨_, _, rfl, q.of fun o z => e _ _ z, r⟩
    | dct q _ _ => obtain ⟨z, _⟩ := q; cases z
  · exact ⟨_, _, rfl, q, r⟩
  · cases z
theorem PR.dct (e : Ext F H) {ks vs : List PV} (h : PR K F H x (.dict true ks vs)) : ∃ a bs xs, x = .ref a ∧ DicT K.2 H a true ks bs xs ∧ RepL K F bs ks ∧ RepL K F xs vs := by
  rcases h with h | ⟨a, rfl, _, ⟨_, ⟨z, _⟩, _⟩ | ⟨bs, xs, q, r1, r2⟩⟩
  · cases h with
    | dic q r => obtain ⟨z, _⟩ := q; cases z
    | dct q r1 r2 => exact ⟨_, _, _, rfl, q.of fun o z => e _ _ z, r1, r2⟩
  · cases z
  · exact ⟨_, _, _, rfl, q, r1, r2⟩
theorem PR.scr {l : List Int} (h : PR K F H x (.scr l)) : ∃ a, x = .ref a ∧ SqL K.1 F a (l.map V.int) := by
  rcases h with h | ⟨_, _, _, h⟩
  · cases h with | scr q => exact ⟨_, rfl, q⟩
  · exact h.elim

/-! ### data -/
theorem strP_beq (s t : List Nat) : (strP s == strP t) = decide (s = t) := by
  by_cases h : s = t
  · subst h; simp
  · have : ¬ strP s = strP t := fun e => h (strP_inj e)
    rw [decide_eq_false h]
    exact beq_eq_false_iff_ne.mpr this
theorem all_plain {n : Nat} {l : List PV} (h : l.all (plainD n) = true) : ∀ p ∈ l, plainD n p = true := List.all_eq_true.mp h
mutual
theorem eqv_dat : ∀ (n m : Nat) (p q : PV), plainD n p = true → plainD m q = true → PyData.eqv (dat p) (dat q) = eqv p q
  | n, m, .non, q, _, hq => by cases q <;> first | rfl | (cases m <;> cases hq)
  | n, m, .bl a, q, _, hq => by
    cases q with
    | int j => cases a <;> (simp only [dat, PyData.eqv, eqv, b2i]; rw [Bool.beq_eq_decide_eq]; rfl)
    | dict _ _ => cases m <;> cases hq
    | set _ => cases m <;> cases hq
    | scr _ => cases m <;> cases hq
    | _ => simp [dat, PyData.eqv, eqv]
  | n, m, .int i, q, _, hq => by
    cases q with
    | int j => simp only [dat, PyData.eqv, eqv]; rw [Bool.beq_eq_decide_eq]
    | bl b => cases b <;> (simp only [dat, PyData.eqv, eqv, b2i]; rw [Bool.beq_eq_decide_eq]; rfl)
    | dict _ _ => cases m <;> cases hq
    | set _ => cases m <;> cases hq
    | scr _ => cases m <;> cases hq
    | _ => simp [dat, PyData.eqv, eqv]
  | n, m, .str s, q, _, hq => by
    cases q with
    | str t => simp only [dat, PyData.eqv, eqv]; exact strP_beq s t
    | dict _ _ => cases m <;> cases hq
    | set _ => cases m <;> cases hq
    | scr _ => cases m <;> cases hq
    | _ => simp [dat, PyData.eqv, eqv]
  | 0, m, .tup l, q, h, hq => by cases h
  | n + 1, m, .tup l, q, h, hq => by
    cases q with
    | tup k =>
      cases m with
      | zero => cases hq
      | succ m =>
        simp only [dat, PyData.eqv, eqv]
        exact eqvL_dat n m l k (all_plain h) (all_plain hq)
    | dict _ _ => cases m <;> cases hq
    | set _ => cases m <;> cases hq
    | scr _ => cases m <;> cases hq
    | _ => simp [dat, PyData.eqv, eqv]
  | 0, m, .lst l, q, h, hq => by cases h
  | n + 1, m, .lst l, q, h, hq => by
    cases q with
    | lst k =>
      cases m with
      | zero => cases hq
      | succ m =>
        simp only [dat, PyData.eqv, eqv]
        exact eqvL_dat n m l k (all_plain h) (all_plain hq)
    | dict _ _ => cases m <;> cases hq
    | set _ => cases m <;> cases hq
    | scr _ => cases m <;> cases hq
    | _ => simp [dat, PyData.eqv, eqv]
  | n, _, .dict _ _ _, _, h, _ => by cases n <;> cases h
  | n, _, .set _, _, h, _ => by cases n <;> cases h
  | n, _, .scr _, _, h, _ => by cases n <;> cases h
theorem eqvL_dat : ∀ (n m : Nat) (l k : List PV), (∀ p ∈ l, plainD n p = true) → (∀ p ∈ k, plainD m p = true) → PyData.eqvAll (datL l) (datL k) = eqvL l k
  | n, m, [], k, _, _ => by cases k <;> simp [datL, PyData.eqvAll, eqvL]
  | n, m, x :: l, k, h, hk => by
    cases k with
    | nil => simp [datL, PyData.eqvAll, eqvL]
    | cons y k =>
      simp only [datL, PyData.eqvAll, eqvL]
      rw [eqv_dat n m x y (h x List.mem_cons_self) (hk y List.mem_cons_self), eqvL_dat n m l k (fun p hp => h p (List.mem_cons_of_mem _ hp)) (fun p hp => hk p (List.mem_cons_of_mem _ hp))]
end
mutual
theorem depth_dat : ∀ (n : Nat) (p : PV), plainD n p = true → (dat p).depth ≤ n
  | n, .non, _ => by simp [dat, PyData.depth]
  | n, .bl _, _ => by simp [dat, PyData.depth]
  | n, .int _, _ => by simp [dat, PyData.depth]
  | n, .str _, _ => by simp [dat, PyData.depth]
  | 0, .tup l, h => by cases h
  | n + 1, .tup l, h => by simp only [dat, PyData.depth]; have := depthL_dat n l (all_plain h); omega
  | 0, .lst l, h => by cases h
  | n + 1, .lst l, h => by simp only [dat, PyData.depth]; have := depthL_dat n l (all_plain h); omega
  | n, .dict _ _ _, h => by cases n <;> cases h
  | n, .set _, h => by cases n <;> cases h
  | n, .scr _, h => by cases n <;> cases h
theorem depthL_dat : ∀ (n : Nat) (l : List PV), (∀ p ∈ l, plainD n p = true) → PyData.depthAll (datL l) ≤ n
  | n, [], _ => by simp [datL, PyData.depthAll]
  | n, x :: l, h => by
    simp only [datL, PyData.depthAll]
    have h1 := depth_dat n x (h x List.mem_cons_self)
    have h2 := depthL_dat n l (fun p hp => h p (List.mem_cons_of_mem _ hp))
    omega
end
theorem strOk_P {s : List Nat} (h : OkS s) : PyData.strOk (strP s) = true := by
  unfold PyData.strOk strP
  rw [Array.all_eq_true']
  intro c hc
  exact decide_eq_true (h.2 c (by simpa using hc))
mutual
theorem canLay_dat : ∀ (n : Nat) (p : PV) (v : V), plainD n p = true → Rep K F v p → (dat p).canLay0 = true
  | n, .non, _, _, _ => by simp [dat, PyData.canLay0]
  | n, .bl _, _, _, _ => by simp [dat, PyData.canLay0]
  | n, .int _, _, _, _ => by simp [dat, PyData.canLay0]
  | n, .str s, _, _, r => by
    cases r with | str _ q => simp only [dat, PyData.canLay0]; exact strOk_P q
  | 0, .tup l, _, h, _ => by cases h
  | n + 1, .tup l, _, h, r => by
    cases r with | tup _ q => simp only [dat, PyData.canLay0]; exact canLayL_dat n l _ (all_plain h) q
  | 0, .lst l, _, h, _ => by cases h
  | n + 1, .lst l, _, h, r => by
    cases r with | lst _ q => simp only [dat, PyData.canLay0]; exact canLayL_dat n l _ (all_plain h) q
  | n, .dict _ _ _, _, h, _ => by cases n <;> cases h
  | n, .set _, _, h, _ => by cases n <;> cases h
  | n, .scr _, _, h, _ => by cases n <;> cases h
theorem canLayL_dat : ∀ (n : Nat) (l : List PV) (vs : List V), (∀ p ∈ l, plainD n p = true) → RepL K F vs l → PyData.canLayAll0 (datL l) = true
  | n, [], _, _, _ => by simp [datL, PyData.canLayAll0]
  | n, x :: l, _, h, r => by
    cases r with
    | cons r t =>
      simp only [datL, PyData.canLayAll0, Bool.and_eq_true]
      exact ⟨canLay_dat n x _ (h x List.mem_cons_self) r, canLayL_dat n l _ (fun p hp => h p (List.mem_cons_of_mem _ hp)) t⟩
end
mutual
theorem dp_dat (e : Ext F H) : ∀ (n : Nat) (p : PV) (v : V), plainD n p = true → Rep K F v p → Dp K.1 H v (dat p)
  | n, .non, _, _, r => by cases r; simp only [dat]; exact .non
  | n, .bl _, _, _, r => by cases r; simp only [dat]; exact .bl _
  | n, .int _, _, _, r => by cases r; simp only [dat]; exact .int _
  | n, .str s, _, _, r => by cases r; simp only [dat]; exact .str _
  | 0, .tup l, _, h, _ => by cases h
  | n + 1, .tup l, _, h, r => by
    cases r with | tup s q => simp only [dat]; exact .tup (e.seqT s) (dpL_dat e n l _ (all_plain h) q)
  | 0, .lst l, _, h, _ => by cases h
  | n + 1, .lst l, _, h, r => by
    cases r with | lst s q => simp only [dat]; exact .lst (SqL.of (e _ _ s)) (dpL_dat e n l _ (all_plain h) q)
  | n, .dict _ _ _, _, h, _ => by cases n <;> cases h
  | n, .set _, _, h, _ => by cases n <;> cases h
  | n, .scr _, _, h, _ => by cases n <;> cases h
theorem dpL_dat (e : Ext F H) : ∀ (n : Nat) (l : List PV) (vs : List V), (∀ p ∈ l, plainD n p = true) → RepL K F vs l → DpAll K.1 H vs (datL l)
  | n, [], _, _, r => by cases r; simp only [datL]; exact .nil
  | n, x :: l, _, h, r => by
    cases r with
    | cons r t =>
      simp only [datL]
      exact .cons (dp_dat e n x _ (h x List.mem_cons_self) r) (dpL_dat e n l _ (fun p hp => h p (List.mem_cons_of_mem _ hp)) t)
end
/-- what is looked at, as data -/
theorem PR.dp (e : Ext F H) {n : Nat} (hp : plainD n p = true) (h : PR K F H x p) : Dp K.1 H x (dat p) ∧ (dat p).canLay0 = true ∧ (dat p).depth ≤ n := by
  refine ⟨?_, ?_, depth_dat n p hp⟩
  · rcases h with h | ⟨a, rfl, _, h⟩
    · exact dp_dat e n p x hp h
    · cases p with
      | lst l =>
        obtain ⟨xs, q, r⟩ := h
        cases n with
        | zero => cases hp
        | succ n => simp only [dat]; exact .lst (SqL.of q) (dpL_dat e n l _ (all_plain hp) r)
      | dict _ _ _ => cases n <;> cases hp
      | _ => exact h.elim
  · rcases h with h | ⟨a, rfl, _, h⟩
    · exact canLay_dat n p x hp h
    · cases p with
      | lst l =>
        obtain ⟨xs, q, r⟩ := h
        cases n with
        | zero => cases hp
        | succ n => simp only [dat, PyData.canLay0]; exact canLayL_dat n l _ (all_plain hp) r
      | dict _ _ _ => cases n <;> cases hp
      | _ => exact h.elim
theorem PR.shaped (e : Ext F H) (hp : plain p = true) (h : PR K F H x p) : SeqAt.shaped (dat p) = true := by
  obtain ⟨_, h2, h3⟩ := h.dp e hp
  unfold SeqAt.shaped
  rw [h2, Bool.true_and]
  exact decide_eq_true (by omega)
end

/-! ### two operands -/
section
variable {X : Cx}
def rd2 (K : Frg) (d : PV → PV → Option Res) : R2 := fun x y H Q => ∃ F px py res, Ext F H ∧ PR K F H x px ∧ PR K F H y py ∧ d px py = some res ∧ Post K F H res Q
def rdB (K : Frg) (d : PV → PV → Option Bool) : R2 := fun x y H Q => ∃ F px py k, Ext F H ∧ PR K F H x px ∧ PR K F H y py ∧ d px py = some k ∧ Q (.bl k) H
def rd1 (K : Frg) (d : PV → Option Res) : V → Hp → VK → Prop := fun x H Q => ∃ F px res, Ext F H ∧ PR K F H x px ∧ d px = some res ∧ Post K F H res Q
def bop : BiOp → Operator
  | .add => .Add
  | .sub => .Sub
  | .mul => .Mult
  | .fdiv => .FloorDiv
  | .mod => .Mod
theorem okS_append {s t : List Nat} (h1 : OkS s) (h2 : OkS t) (h : s.length + t.length ≤ line) : OkS (s ++ t) :=
  ⟨by rw [List.length_append]; exact h, fun c hc => (List.mem_append.mp hc).elim (h1.2 c) (h2.2 c)⟩
theorem strP_append (s t : List Nat) : strP s ++ strP t = strP (s ++ t) := by
  show (⟨(s.toArray ++ t.toArray)⟩ : Str) = ⟨(s ++ t).toArray⟩
  simp
theorem strP_length (s : List Nat) : (strP s).length = s.length := by
  show s.toArray.size = s.length
  simp
theorem mulOk_c {i j : Int} (h : mulOk i j = true) : CMul i j := by
  unfold mulOk at h
  rw [Bool.or_eq_true, decide_eq_true_eq, decide_eq_true_eq] at h
  unfold CMul
  rcases h with h | h
  · left; omega
  · right; omega
theorem divOk_c {j : Int} (h : divOk j = true) : CDivN 0 j := by
  unfold divOk at h
  rw [Bool.and_eq_true, decide_eq_true_eq, decide_eq_true_eq] at h
  exact h
theorem repS_length (n : Nat) (s : List Nat) : (repS n s).length = s.length * n := by
  unfold repS
  rw [List.length_flatten, List.map_replicate, List.sum_replicate_nat, Nat.mul_comm]
theorem okS_rep {s : List Nat} {n : Nat} (h : OkS s) (hl : s.length * n ≤ line) : OkS (repS n s) := by
  refine ⟨by rw [repS_length]; exact hl, fun c hc => ?_⟩
  unfold repS at hc
  obtain ⟨l, h1, h2⟩ := List.mem_flatten.mp hc
  rw [(List.mem_replicate.mp h1).2] at h2
  exact h.2 c h2
theorem foldl_repS (s : List Nat) : ∀ (k : Nat) (acc : List Nat), List.foldl (fun x1 x2 => x1 ++ x2) acc.toArray (List.replicate k s.toArray) = (acc ++ repS k s).toArray
  | 0, acc => by simp [repS]
  | k + 1, acc => by
    have e : acc.toArray ++ s.toArray = (acc ++ s).toArray := by simp
    have e2 : (acc ++ s) ++ repS k s = acc ++ repS (k + 1) s := by
      unfold repS
      rw [List.replicate_succ, List.flatten_cons, List.append_assoc]
    rw [← e2, ← foldl_repS s k (acc ++ s), ← e, List.replicate_succ, List.foldl_cons]
/-- text * int -/
theorem op_mulS : OpR X (binaryOp .Mult) (fun x y H Q => ∃ (a : List Nat) (j : Int), x = .str (strP a) ∧ y = .int j ∧ a.length * j.toNat ≤ line ∧ j.natAbs < 1000000 ∧ Q (.str (strP (repS j.toNat a))) H) := by
  intro pins s σ H x y v u Q I rx ry h
  obtain ⟨a, j, rfl, rfl, hl, hj, q⟩ := h
  obtain ⟨t, rfl⟩ := rx
  obtain ⟨t', rfl⟩ := ry
  have hl' : a.length * j.toNat ≤ 16777216 := hl
  have ha : j ≥ 1 → a.length ≤ 16777216 := fun h => by
    have : a.length * 1 ≤ a.length * j.toNat := Nat.mul_le_mul_left _ (by omega)
    omega
  refine PySem.P.mul_str ?_ (fun h1 h2 => ?_) (fun h1 h2 => ?_) ?_
  · have e1 : ¬ j < -(2 ^ 63 : Int) := by omega
    have e2 : ¬ j ≥ 2 ^ 63 := by omega
    rw [decide_eq_false e1, decide_eq_false e2]
    rfl
  · rw [strP_length]
    have hz := ha (by omega)
    have h3 : (16777216 : Int) ≤ (2 ^ 63 - 1) / j := by
      rw [Int.le_ediv_iff_mul_le (by omega)]
      omega
    omega
  · rw [strP_length]
    unfold Builtin.Str.tooLong
    exact decide_eq_false (by rw [sizeLine_eq] <;> omega)
  · by_cases h1 : j < 1
    · rw [if_pos h1]
      have e0 : j.toNat = 0 := by omega
      rw [e0] at q
      exact ⟨by decide, .str (strP []), H, I.tok _, ⟨_, rfl⟩, q⟩
    · rw [if_neg h1]
      by_cases h2 : (j == 1 || (strP a).length == 0) = true
      · rw [if_pos h2]
        refine ⟨.str (strP a), H, I, ⟨t, rfl⟩, ?_⟩
        have : repS j.toNat a = a := by
          rw [Bool.or_eq_true, beq_iff_eq, beq_iff_eq, strP_length] at h2
          rcases h2 with h2 | h2
          · subst h2
            simp [repS]
          · obtain rfl : a = [] := List.eq_nil_of_length_eq_zero h2
            simp [repS]
        rw [this] at q
        exact q
      · rw [if_neg h2]
        have e3 : (⟨(List.replicate j.toNat (strP a).cps).foldl (· ++ ·) #[]⟩ : Str) = strP (repS j.toNat a) := by
          have := foldl_repS a j.toNat []
          rw [List.nil_append] at this
          exact congrArg Str.mk this
        rw [e3]
        refine ⟨?_, .str _, H, I.tok _, ⟨_, rfl⟩, q⟩
        rw [strP_length, repS_length, ← line_eq]
        exact hl
theorem divW_c {j : Int} (h : divW j = true) : j ≠ 0 ∧ j.natAbs.log2 < 9000 := by
  unfold divW at h
  rw [Bool.and_eq_true, decide_eq_true_eq, decide_eq_true_eq] at h
  refine ⟨h.1, ?_⟩
  have h0 : j.natAbs ≠ 0 := by have := h.1; omega
  have h2 : j.natAbs < 2 ^ 256 := Nat.lt_of_lt_of_le h.2 (by decide)
  have := (Nat.log2_lt h0).mpr h2
  omega
theorem op_divW : OpR X (binaryOp .FloorDiv) (rI (fun _ j => j ≠ 0 ∧ j.natAbs.log2 < 9000) fun i j => .int (i.fdiv j)) := opI fun _ _ _ _ _ _ _ hc q => floordiv_int hc.1 q (.inl (PyProof.noPylong_of_log2 hc.2))
/-- () + t -/
theorem op_bin (o : BiOp) : OpR X (binaryOp (bop o)) (rd2 X.kw (bin2 o)) := by
  intro pins s σ H x y v u Q I rx ry h
  obtain ⟨F, px, py, res, e, hx, hy, hd, P⟩ := h
  cases o with
  | add =>
    cases px with
    | int i =>
      cases py with
      | int j =>
        obtain rfl := hx.int
        obtain rfl := hy.int
        obtain rfl := Option.some.inj hd
        exact op_add pins s σ H _ _ v u Q I rx ry ⟨i, j, rfl, rfl, P.sh e (.int _)⟩
      | _ => cases hd
    | str a =>
      cases py with
      | str b =>
        obtain ⟨rfl, o1⟩ := hx.str
        obtain ⟨rfl, o2⟩ := hy.str
        have hd' : (if a.length + b.length ≤ line then some (Res.sh (.str (a ++ b))) else none) = some res := hd
        by_cases hl : a.length + b.length ≤ line
        · rw [if_pos hl] at hd'
          obtain rfl := Option.some.inj hd'
          refine op_add_str pins s σ H _ _ v u Q I rx ry ⟨_, _, rfl, rfl, by rw [strP_length, strP_length, ← line_eq]; exact hl, ?_⟩
          rw [strP_append]
          exact P.sh e (.str _ (okS_append o1 o2 hl))
        · rw [if_neg hl] at hd'; cases hd'
      | _ => cases hd
    | tup a =>
      cases py with
      | tup b =>
        obtain ⟨a1, xs, rfl, s1, r1⟩ := hx.tup
        obtain ⟨b1, ys, rfl, s2, r2⟩ := hy.tup
        have hd' : (if a.length + b.length ≤ line then some (Res.sh (.tup (a ++ b))) else none) = some res := hd
        by_cases hl : a.length + b.length ≤ line
        · rw [if_pos hl] at hd'
          obtain rfl := Option.some.inj hd'
          refine op_catA pins s σ H _ _ v u Q I rx ry ⟨a1, b1, xs, ys, rfl, rfl, e.seqT s1, e.seqT s2, by rw [r1.length, r2.length, ← line_eq]; exact hl, fun z => ?_, fun _ z => ?_, fun _ _ p n => P.newT e (r1.append r2) n⟩
          · subst z
            cases r1
            exact P.sh e (.tup s2 r2)
          · subst z
            cases r2
            rw [List.append_nil] at P
            exact P.sh e (.tup s1 r1)
        · rw [if_neg hl] at hd'; cases hd'
      | _ => cases hd
    | lst a =>
      cases py with
      | lst b =>
        obtain ⟨a1, xs, rfl, s1, r1⟩ := hx.lst e
        obtain ⟨b1, ys, rfl, s2, r2⟩ := hy.lst e
        have hd' : (if a.length + b.length ≤ line then some (Res.own (.lst (a ++ b))) else none) = some res := hd
        by_cases hl : a.length + b.length ≤ line
        · rw [if_pos hl] at hd'
          obtain rfl := Option.some.inj hd'
          exact op_cat pins s σ H _ _ v u Q I rx ry ⟨a1, b1, xs, ys, rfl, rfl, s1, s2, by rw [r1.length, r2.length, ← line_eq]; exact hl, fun p n => P.newL e (r1.append r2) n⟩
        · rw [if_neg hl] at hd'; cases hd'
      | _ => cases hd
    | _ => cases hd
  | sub =>
    cases px with
    | int i =>
      cases py with
      | int j =>
        obtain rfl := hx.int
        obtain rfl := hy.int
        obtain rfl := Option.some.inj hd
        exact op_sub pins s σ H _ _ v u Q I rx ry ⟨i, j, rfl, rfl, P.sh e (.int _)⟩
      | _ => cases hd
    | _ => cases hd
  | mul =>
    cases px with
    | int i =>
      cases py with
      | int j =>
        obtain rfl := hx.int
        obtain rfl := hy.int
        have hd' : (if mulOk i j = true then some (Res.sh (.int (i * j))) else none) = some res := hd
        by_cases hl : mulOk i j = true
        · rw [if_pos hl] at hd'
          obtain rfl := Option.some.inj hd'
          exact op_mul pins s σ H _ _ v u Q I rx ry ⟨i, j, rfl, rfl, mulOk_c hl, P.sh e (.int _)⟩
        · rw [if_neg hl] at hd'; cases hd'
      | _ => cases hd
    | lst a =>
      cases py with
      | int j =>
        obtain ⟨a1, xs, rfl, s1, r1⟩ := hx.lst e
        obtain rfl := hy.int
        have hd' : (if (decide (a.length * j.toNat ≤ line) && decide (j.natAbs < 1000000)) = true then some (Res.own (.lst (repL j.toNat a))) else none) = some res := hd
        by_cases hl : (decide (a.length * j.toNat ≤ line) && decide (j.natAbs < 1000000)) = true
        · rw [if_pos hl] at hd'
          obtain rfl := Option.some.inj hd'
          rw [Bool.and_eq_true, decide_eq_true_eq, decide_eq_true_eq] at hl
          exact op_rep pins s σ H _ _ v u Q I rx ry ⟨a1, j, xs, rfl, rfl, s1, by omega, by omega, by rw [r1.length, ← line_eq]; exact hl.1, fun p n => P.newL e (r1.rep j.toNat) n⟩
        · rw [if_neg hl] at hd'; cases hd'
      | _ => cases hd
    | str a =>
      cases py with
      | int j =>
        obtain ⟨rfl, o1⟩ := hx.str
        obtain rfl := hy.int
        have hd' : (if (decide (a.length * j.toNat ≤ line) && decide (j.natAbs < 1000000)) = true then some (Res.sh (.str (repS j.toNat a))) else none) = some res := hd
        by_cases hl : (decide (a.length * j.toNat ≤ line) && decide (j.natAbs < 1000000)) = true
        · rw [if_pos hl] at hd'
          obtain rfl := Option.some.inj hd'
          rw [Bool.and_eq_true, decide_eq_true_eq, decide_eq_true_eq] at hl
          exact op_mulS pins s σ H _ _ v u Q I rx ry ⟨a, j, rfl, rfl, hl.1, hl.2, P.sh e (.str _ (okS_rep o1 hl.1))⟩
        · rw [if_neg hl] at hd'; cases hd'
      | _ => cases hd
    | tup a =>
      cases py with
      | int j =>
        obtain ⟨a1, xs, rfl, s1, r1⟩ := hx.tup
        obtain rfl := hy.int
        have hd' : (if ((!a.isEmpty) && decide (2 ≤ j) && decide (j ≤ 1000) && decide (a.length ≤ 1000)) = true then some (Res.sh (.tup (repL j.toNat a))) else none) = some res := hd
        by_cases hl : ((!a.isEmpty) && decide (2 ≤ j) && decide (j ≤ 1000) && decide (a.length ≤ 1000)) = true
        · rw [if_pos hl] at hd'
          obtain rfl := Option.some.inj hd'
          rw [Bool.and_eq_true, Bool.and_eq_true, Bool.and_eq_true, decide_eq_true_eq, decide_eq_true_eq, decide_eq_true_eq] at hl
          refine op_repT pins s σ H _ _ v u Q I rx ry ⟨a1, j, xs, rfl, rfl, e.seqT s1, fun z => ?_, hl.1.1.2, hl.1.2, by rw [r1.length]; exact hl.2, fun p n => P.newT e (r1.rep j.toNat) n⟩
          subst z
          cases r1
          exact absurd hl.1.1.1 (by simp)
        · rw [if_neg hl] at hd'; cases hd'
      | _ => cases hd
    | _ => cases hd
  | fdiv =>
    cases px with
    | int i =>
      cases py with
      | int j =>
        obtain rfl := hx.int
        obtain rfl := hy.int
        have hd' : (if divW j = true then some (Res.sh (.int (i.fdiv j))) else none) = some res := hd
        by_cases hl : divW j = true
        · rw [if_pos hl] at hd'
          obtain rfl := Option.some.inj hd'
          exact op_divW pins s σ H _ _ v u Q I rx ry ⟨i, j, rfl, rfl, divW_c hl, P.sh e (.int _)⟩
        · rw [if_neg hl] at hd'; cases hd'
      | _ => cases hd
    | _ => cases hd
  | mod =>
    cases px with
    | int i =>
      cases py with
      | int j =>
        obtain rfl := hx.int
        obtain rfl := hy.int
        have hd' : (if j = 0 then none else some (Res.sh (.int (i.fmod j)))) = some res := hd
        by_cases hl : j = 0
        · rw [if_pos hl] at hd'; cases hd'
        · rw [if_neg hl] at hd'
          obtain rfl := Option.some.inj hd'
          exact op_modN pins s σ H _ _ v u Q I rx ry ⟨i, j, rfl, rfl, hl, P.sh e (.int _)⟩
      | _ => cases hd
    | _ => cases hd
end
end Py

/-! Pv3: comparisons, truth. -/
namespace Py
open PySem PySem.Spec PyProof.Rows L2

mutual
theorem alike_dat : ∀ (n m : Nat) (p q : PV), plainD n p = true → plainD m q = true → PySem.W.alike (dat p) (dat q) = alk p q
  | n, m, .non, q, _, hq => by cases q <;> first | rfl | (cases m <;> cases hq) | (simp [dat, PySem.W.alike, alk]; done)
  | n, m, .bl a, q, _, hq => by cases q <;> first | (cases m <;> cases hq; done) | (simp [dat, PySem.W.alike, alk]; done)
  | n, m, .int a, q, _, hq => by cases q <;> first | (cases m <;> cases hq; done) | (simp [dat, PySem.W.alike, alk]; done)
  | n, m, .str a, q, _, hq => by cases q <;> first | (cases m <;> cases hq; done) | (simp [dat, PySem.W.alike, alk]; done)
  | 0, m, .tup l, q, h, hq => by cases h
  | n + 1, m, .tup l, q, h, hq => by
    cases q with
    | tup k =>
      cases m with
      | zero => cases hq
      | succ m =>
        simp only [dat, PySem.W.alike, alk]
        exact alikeL_dat n m l k (all_plain h) (all_plain hq)
    | dict _ _ => cases m <;> cases hq
    | set _ => cases m <;> cases hq
    | scr _ => cases m <;> cases hq
    | _ => simp [dat, PySem.W.alike, alk]
  | 0, m, .lst l, q, h, hq => by cases h
  | n + 1, m, .lst l, q, h, hq => by
    cases q with
    | lst k =>
      cases m with
      | zero => cases hq
      | succ m =>
        simp only [dat, PySem.W.alike, alk]
        exact alikeL_dat n m l k (all_plain h) (all_plain hq)
    | dict _ _ => cases m <;> cases hq
    | set _ => cases m <;> cases hq
    | scr _ => cases m <;> cases hq
    | _ => simp [dat, PySem.W.alike, alk]
  | n, _, .dict _ _ _, _, h, _ => by cases n <;> cases h
  | n, _, .set _, _, h, _ => by cases n <;> cases h
  | n, _, .scr _, _, h, _ => by cases n <;> cases h
theorem alikeL_dat : ∀ (n m : Nat) (l k : List PV), (∀ p ∈ l, plainD n p = true) → (∀ p ∈ k, plainD m p = true) → PySem.W.alikeAll (datL l) (datL k) = alkL l k
  | n, m, [], k, _, _ => by cases k <;> simp [datL, PySem.W.alikeAll, alkL]
  | n, m, x :: l, k, h, hk => by
    cases k with
    | nil => simp [datL, PySem.W.alikeAll, alkL]
    | cons y k =>
      simp only [datL, PySem.W.alikeAll, alkL]
      rw [alike_dat n m x y (h x List.mem_cons_self) (hk y List.mem_cons_self), alikeL_dat n m l k (fun p hp => h p (List.mem_cons_of_mem _ hp)) (fun p hp => hk p (List.mem_cons_of_mem _ hp))]
end
theorem natsLt_eq : ∀ s t : List Nat, decide (s < t) = natsLt s t
  | [], [] => by simp [natsLt]
  | [], _ :: _ => by simp [natsLt]
  | _ :: _, [] => by simp [natsLt]
  | x :: s, y :: t => by
    have ih := natsLt_eq s t
    show decide (x :: s < y :: t) = (if x = y then natsLt s t else decide (x < y))
    by_cases h : x = y
    · subst h
      rw [if_pos rfl, ← ih]
      simp
    · rw [if_neg h]
      have : (x :: s < y :: t) ↔ x < y := by
        rw [List.cons_lt_cons_iff]
        constructor
        · rintro (q | ⟨q, _⟩)
          · exact q
          · exact absurd q h
        · exact .inl
      simp only [this]
theorem toks_nil_nil : PyProof.Rows.lexLt itemOrd (PySem.W.keyToksAll []) (PySem.W.keyToksAll []) = false := lex_irrefl _
theorem toks_nil_cons (y : PyData) (ys : List PyData) : PyProof.Rows.lexLt itemOrd (PySem.W.keyToksAll []) (PySem.W.keyToksAll (y :: ys)) = true := by
  rw [PySem.W.toks_all_cons]
  simp only [PySem.W.keyToksAll]
  rw [lex_diff (O := itemOrd) (by simp)]
  rfl
theorem toks_cons_nil (y : PyData) (ys : List PyData) : PyProof.Rows.lexLt itemOrd (PySem.W.keyToksAll (y :: ys)) (PySem.W.keyToksAll []) = false := by
  rw [PySem.W.toks_all_cons]
  simp only [PySem.W.keyToksAll]
  rw [lex_diff (O := itemOrd) (by simp)]
  rfl
mutual
theorem lt_dat : ∀ (n m : Nat) (p q : PV), plainD n p = true → plainD m q = true → alk p q = true → PySem.W.dataLt (dat p) (dat q) = ltv p q
  | n, m, .non, q, _, hq, ha => by
    cases q with
    | non => rfl
    | _ => cases ha
  | n, m, .bl a, q, _, hq, ha => by
    cases q with
    | bl b => cases a <;> cases b <;> (simp only [dat]; rw [PySem.W.dataLt_bool]; rfl)
    | _ => cases ha
  | n, m, .int a, q, _, hq, ha => by
    cases q with
    | int b => simp only [dat]; rw [PySem.W.dataLt_int]; rfl
    | _ => cases ha
  | n, m, .str a, q, _, hq, ha => by
    cases q with
    | str b =>
      simp only [dat]
      rw [PySem.W.dataLt_str]
      simp only [ltv]
      rw [← natsLt_eq]
      exact decide_eq_decide.mpr (by simp [strP])
    | _ => cases ha
  | 0, m, .tup l, q, h, hq, _ => by cases h
  | n + 1, m, .tup l, q, h, hq, ha => by
    cases q with
    | tup k =>
      cases m with
      | zero => cases hq
      | succ m =>
        simp only [dat, ltv]
        rw [PySem.W.dataLt_tuple]
        exact ltL_dat n m l k (all_plain h) (all_plain hq) ha
    | _ => cases ha
  | 0, m, .lst l, q, h, hq, _ => by cases h
  | n + 1, m, .lst l, q, h, hq, ha => by
    cases q with
    | lst k =>
      cases m with
      | zero => cases hq
      | succ m =>
        simp only [dat, ltv]
        rw [PySem.W.dataLt_list]
        exact ltL_dat n m l k (all_plain h) (all_plain hq) ha
    | _ => cases ha
  | n, _, .dict _ _ _, _, h, _, _ => by cases n <;> cases h
  | n, _, .set _, _, h, _, _ => by cases n <;> cases h
  | n, _, .scr _, _, h, _, _ => by cases n <;> cases h
theorem ltL_dat : ∀ (n m : Nat) (l k : List PV), (∀ p ∈ l, plainD n p = true) → (∀ p ∈ k, plainD m p = true) → alkL l k = true →
    PyProof.Rows.lexLt itemOrd (PySem.W.keyToksAll (datL l)) (PySem.W.keyToksAll (datL k)) = ltvL l k
  | n, m, [], k, _, _, _ => by
    cases k with
    | nil => simp only [datL, ltvL]; exact toks_nil_nil
    | cons y k => simp only [datL, ltvL]; exact toks_nil_cons _ _
  | n, m, x :: l, k, h, hk, ha => by
    cases k with
    | nil => simp only [datL, ltvL]; exact toks_cons_nil _ _
    | cons y k =>
      have ha' : (alk x y && alkL l k) = true := by simpa only [alkL] using ha
      rw [Bool.and_eq_true] at ha'
      have hx := h x List.mem_cons_self
      have hy := hk y List.mem_cons_self
      simp only [datL, ltvL]
      rw [PySem.W.dataLt_cons (by rw [alike_dat n m x y hx hy]; exact ha'.1), eqv_dat n m x y hx hy,
        ltL_dat n m l k (fun p hp => h p (List.mem_cons_of_mem _ hp)) (fun p hp => hk p (List.mem_cons_of_mem _ hp)) ha'.2, lt_dat n m x y hx hy ha'.1]
end
theorem datL_any (n m : Nat) {x : PV} (hx : plainD n x = true) : ∀ l : List PV, (∀ p ∈ l, plainD m p = true) → (datL l).any (fun y => PyData.eqv y (dat x)) = memV x l
  | [], _ => rfl
  | y :: l, h => by
    have ih := datL_any n m hx l (fun p hp => h p (List.mem_cons_of_mem _ hp))
    simp only [datL, memV, List.any_cons]
    rw [eqv_dat m n y x (h y List.mem_cons_self) hx, ih]
    rfl

section
variable {X : Cx} {K : Frg} {F H : Hp} {x y : V} {p q : PV}
theorem PR.isNon (h : PR K F H x p) : decide (x = .non) = (match p with | .non => true | _ => false) := by
  rcases h with h | ⟨a, rfl, _, h⟩
  · cases h <;> simp
  · cases p with
    | lst l => simp
    | dict _ _ _ => rfl
    | _ => exact h.elim
def cop : CmOp → CmpOp
  | .eq => .Eq
  | .ne => .NotEq
  | .lt => .Lt
  | .le => .LtE
  | .gt => .Gt
  | .ge => .GtE
  | .isN => .Is
  | .notN => .IsNot
  | .isT => .Is
  | .notT => .IsNot
  | .inn => .In
  | .nin => .NotIn
theorem ite_some {α : Type} {c : Bool} {a b : α} (h : (if c = true then some a else none) = some b) : c = true ∧ a = b := by
  cases c with
  | true => exact ⟨rfl, by simpa using h⟩
  | false => simp at h
theorem and_tt {a b : Bool} (h : (a && b) = true) : a = true ∧ b = true := Bool.and_eq_true_iff.mp h
theorem lt_gen {pins : List (Addr × Obj)} {s : Shared} {σ : L2.St} {Q : VK} {v u : Value} {k : Bool} (hu : X.A.units + 64 < cLine) (I : Inv X pins σ H s) (rx : RelV x v) (ry : RelV y u) (e : Ext F H) (hx : PR X.kw F H x p) (hy : PR X.kw F H y q)
    (hn : p ≠ .non) (hd : (if (plain p && plain q && alk p q) = true then some (ltv p q) else none) = some k) (hQ : Q (.bl k) H) :
    wpAny (model X.prog X.w) X.A (compareOp .Lt v u) (EP X pins σ Q) X.xe s := by
  obtain ⟨h1, rfl⟩ := ite_some hd
  obtain ⟨h1, h2⟩ := and_tt h1
  obtain ⟨h1, h3⟩ := and_tt h1
  obtain ⟨d1, c1, e1⟩ := hx.dp e h1
  obtain ⟨d2, c2, e2⟩ := hy.dp e h3
  obtain ⟨as, r1⟩ := Dp.reads I _ _ v d1 rx
  obtain ⟨bs, r2⟩ := Dp.reads I _ _ u d2 ry
  have R := PySem.W.rcLt_alike (dat p) (dat q) X.A s v u as bs r1 r2 (by rw [alike_dat 20 20 p q h1 h3]; exact h2) (by
    intro z
    cases p with
    | non => exact hn rfl
    | dict _ _ => cases h1
    | set _ => cases h1
    | scr _ => cases h1
    | _ => simp [dat] at z) (by
    have : min (dat p).depth (dat q).depth ≤ (dat p).depth := Nat.min_le_left _ _
    omega)
  rw [lt_dat 20 20 p q h1 h3 h2] at R
  exact R X.prog X.w X.xe (EP X pins σ Q) ⟨.bl _, H, I, rfl, hQ⟩
theorem leaf_key {K : Frg} {F H : Hp} {y : V} {p : PV} (h : leafK p = true) (hy : PR K F H y p) : ∃ k, keyOf p = some k ∧ y = kV k := by
  cases p with
  | int i => obtain rfl := hy.int; exact ⟨.inl i, rfl, rfl⟩
  | str s =>
    obtain ⟨rfl, _⟩ := hy.str
    have h : okSb s = true := h
    exact ⟨.inr (strP s), if_pos h, rfl⟩
  | _ => cases h
theorem rp_text {K : Frg} {F H : Hp} {x : V} {a : PV} (h : PR K F H x (.set [.non, a])) : x = .str (dat a).shown := by
  rcases h with h | ⟨_, _, _, h⟩
  · cases h with
    | tab q r =>
      exfalso
      obtain ⟨_, t⟩ := q
      cases r with
      | cons r1 r2 => cases r1; exact t.elim
    | rpr z => rw [z]
  · exact h.elim
theorem rp_same {K : Frg} {F H : Hp} {x y : V} {p q : PV} (h : rpEq p q = true) (hx : PR K F H x p) (hy : PR K F H y q) : ∃ S, x = .str S ∧ y = .str S := by
  unfold rpEq at h
  split at h
  · split at h
    · have e := sameV_eq _ _ h
      subst e
      exact ⟨_, rp_text hx, rp_text hy⟩
    · cases h
  · cases h
theorem op_cmp (hu : X.A.units + 65 < cLine) (o : CmOp) : OpR X (compareOp (cop o)) (rdB X.kw (cmpB o)) := by
  intro pins s σ H x y v u Q I rx ry h
  obtain ⟨F, px, py, k, e, hx, hy, hd, hQ⟩ := h
  have hu' : X.A.units + 64 < cLine := by omega
  cases o with
  | eq =>
    have hd' : (if (plain px && plain py) = true then some (eqv px py) else if rpEq px py = true then some true else none) = some k := hd
    by_cases h0 : (plain px && plain py) = true
    · rw [if_pos h0] at hd'
      obtain rfl := Option.some.inj hd'
      obtain ⟨h1, h2⟩ := and_tt h0
      refine op_eqD hu' pins s σ H x y v u Q I rx ry ⟨dat px, dat py, (hx.dp e h1).1, (hy.dp e h2).1, hx.shaped e h1, hy.shaped e h2, ?_⟩
      rw [eqv_dat 20 20 px py h1 h2]
      exact hQ
    · rw [if_neg h0] at hd'
      obtain ⟨h1, rfl⟩ := ite_some hd'
      obtain ⟨S, rfl, rfl⟩ := rp_same h1 hx hy
      exact op_eq pins s σ H _ _ v u Q I rx ry ⟨rfl, by rw [decide_eq_true rfl]; exact hQ⟩
  | ne =>
    have hd' : (if (plain px && plain py) = true then some (!eqv px py) else if rpEq px py = true then some false else none) = some k := hd
    by_cases h0 : (plain px && plain py) = true
    · rw [if_pos h0] at hd'
      obtain rfl := Option.some.inj hd'
      obtain ⟨h1, h2⟩ := and_tt h0
      refine op_neD hu' pins s σ H x y v u Q I rx ry ⟨dat px, dat py, (hx.dp e h1).1, (hy.dp e h2).1, hx.shaped e h1, hy.shaped e h2, ?_⟩
      rw [eqv_dat 20 20 px py h1 h2]
      exact hQ
    · rw [if_neg h0] at hd'
      obtain ⟨h1, rfl⟩ := ite_some hd'
      obtain ⟨S, rfl, rfl⟩ := rp_same h1 hx hy
      exact op_ne pins s σ H _ _ v u Q I rx ry ⟨rfl, by rw [decide_eq_true rfl]; exact hQ⟩
  | lt =>
    cases px with
    | int i =>
      cases py with
      | int j =>
        obtain rfl := hx.int
        obtain rfl := hy.int
        obtain rfl := Option.some.inj hd
        exact op_lt pins s σ H _ _ v u Q I rx ry ⟨i, j, rfl, rfl, hQ⟩
      | _ => cases hd
    | non => cases hd
    | _ => exact lt_gen hu' I rx ry e hx hy (by simp) hd hQ
  | le =>
    cases px with
    | int i =>
      cases py with
      | int j =>
        obtain rfl := hx.int
        obtain rfl := hy.int
        obtain rfl := Option.some.inj hd
        exact op_le pins s σ H _ _ v u Q I rx ry ⟨i, j, rfl, rfl, hQ⟩
      | _ => cases hd
    | _ => cases hd
  | gt =>
    cases px with
    | int i =>
      cases py with
      | int j =>
        obtain rfl := hx.int
        obtain rfl := hy.int
        obtain rfl := Option.some.inj hd
        exact op_gt pins s σ H _ _ v u Q I rx ry ⟨i, j, rfl, rfl, hQ⟩
      | _ => cases hd
    | _ => cases hd
  | ge =>
    cases px with
    | int i =>
      cases py with
      | int j =>
        obtain rfl := hx.int
        obtain rfl := hy.int
        obtain rfl := Option.some.inj hd
        exact op_ge pins s σ H _ _ v u Q I rx ry ⟨i, j, rfl, rfl, hQ⟩
      | _ => cases hd
    | _ => cases hd
  | isN =>
    cases py with
    | non =>
      obtain rfl := hy.non
      obtain rfl := Option.some.inj hd
      refine op_isN pins s σ H _ _ v u Q I rx ry ⟨rfl, ?_⟩
      rw [hx.isNon]
      cases px <;> exact hQ
    | _ => cases hd
  | notN =>
    cases py with
    | non =>
      obtain rfl := hy.non
      obtain rfl := Option.some.inj hd
      refine op_notN pins s σ H _ _ v u Q I rx ry ⟨rfl, ?_⟩
      rw [hx.isNon]
      cases px <;> exact hQ
    | _ => cases hd
  | isT =>
    cases py with
    | bl b =>
      cases px with
      | bl a =>
        obtain rfl := hx.bl
        obtain rfl := hy.bl
        obtain rfl := Option.some.inj hd
        refine op_is_bl pins s σ H _ _ v u Q I rx ry ⟨a, b, rfl, rfl, ?_⟩
        rw [← Bool.beq_eq_decide_eq]
        exact hQ
      | _ => cases hd
    | _ => cases hd
  | notT =>
    cases py with
    | bl b =>
      cases px with
      | bl a =>
        obtain rfl := hx.bl
        obtain rfl := hy.bl
        obtain rfl := Option.some.inj hd
        refine op_isnot_bl pins s σ H _ _ v u Q I rx ry ⟨a, b, rfl, rfl, ?_⟩
        rw [← Bool.beq_eq_decide_eq]
        exact hQ
      | _ => cases hd
    | _ => cases hd
  | inn =>
    cases py with
    | dict t ks vs =>
      have hd' : (if keyB t px = true then some ((lookV px ks vs).isSome) else none) = some k := hd
      obtain ⟨hlf, rfl⟩ := ite_some hd'
      cases t with
      | true =>
        have hlf : isTupP px = true := hlf
        obtain ⟨a, bs, ys, rfl, ⟨_, xs, h1, h2, h3, h4⟩, r0, r1⟩ := hy.dct e
        obtain ⟨z, hm⟩ := dct_at I e h1 h2 h3 h4 r0
        have hx' : Rep X.kw F x px := by
          rcases hx with hx | ⟨_, _, _, hx⟩
          · exact hx
          · cases px <;> first | exact hx.elim | cases hlf
        obtain ⟨b, rfl⟩ := isTup_ref hlf hx'
        obtain ⟨l1, l2⟩ := ent_look hlf h2 r1 h4
        have hs : (valueAt (pairsH xs) (nk px)).isSome = (lookV px ks vs).isSome := by
          rw [valueAt_pairsH, Option.isSome_map]
          cases q : lookV px ks vs with
          | none => rw [l1 q]; rfl
          | some v0 =>
            obtain ⟨_, _, _, hz, _⟩ := l2 v0 q
            rw [hz]; rfl
        cases ry
        cases rx
        refine in_keyed (knd := nestedKind X.prog X.w) (k := nk px) (by show X.A.units + 1 + 8 < cLine; omega) (key_is I e hlf hx') z ⟨xs, hm, rfl⟩ ?_
        exact ⟨.bl _, H, I.tok _, rfl, by rw [hs]; exact hQ⟩
      | false =>
        obtain ⟨a, xs, rfl, s1, r1⟩ := hy.dic e
        obtain ⟨_, kvs, h1, h2, rfl⟩ := s1
        obtain ⟨kk, hk, rfl⟩ := leaf_key hlf hx
        obtain ⟨l1, l2⟩ := look_rel hk ks vs kvs h2 r1
        have hs : (valV kvs kk).isSome = (lookV px ks vs).isSome := by
          cases q : lookV px ks vs with
          | none => rw [l1 q]; rfl
          | some v0 =>
            obtain ⟨z, hz, _⟩ := l2 v0 q
            rw [hz]; rfl
        cases ry
        have g : DGet H a (kV kk) (valV kvs kk) := DGet.k h1
        exact d_in (by omega) I g rx fun s3 I3 => ⟨.bl _, H, I3, rfl, by rw [hs]; exact hQ⟩
    | lst l =>
      have hd' : (if (plain px && plain (.lst l)) = true then some (memV px l) else none) = some k := hd
      obtain ⟨h1, rfl⟩ := ite_some hd'
      obtain ⟨h1, h2⟩ := and_tt h1
      obtain ⟨d1, c1, e1⟩ := hx.dp e h1
      obtain ⟨d2, c2, e2⟩ := hy.dp e h2
      obtain ⟨as, r1⟩ := Dp.reads I _ _ v d1 rx
      obtain ⟨bs, r2⟩ := Dp.reads I _ _ u d2 ry
      simp only [dat] at r2 c2
      have hz : X.A.units + 1 + min (PyData.depthAll (datL l)) (dat px).depth < cLine := by
        have : min (PyData.depthAll (datL l)) (dat px).depth ≤ (dat px).depth := Nat.min_le_right _ _
        omega
      refine SeqAt.in_list_reads r2 r1 (by simpa [PyData.canLay0] using c2) c1 hz ?_
      rw [datL_any 20 19 h1 l (all_plain h2)]
      exact ⟨.bl _, H, I, rfl, hQ⟩
    | tup l =>
      have hd' : (if (plain px && plain (.tup l)) = true then some (memV px l) else none) = some k := hd
      obtain ⟨h1, rfl⟩ := ite_some hd'
      obtain ⟨h1, h2⟩ := and_tt h1
      obtain ⟨d1, c1, e1⟩ := hx.dp e h1
      obtain ⟨d2, c2, e2⟩ := hy.dp e h2
      obtain ⟨as, r1⟩ := Dp.reads I _ _ v d1 rx
      obtain ⟨bs, r2⟩ := Dp.reads I _ _ u d2 ry
      simp only [dat] at r2 c2
      have hz : X.A.units + 1 + min (PyData.depthAll (datL l)) (dat px).depth < cLine := by
        have : min (PyData.depthAll (datL l)) (dat px).depth ≤ (dat px).depth := Nat.min_le_right _ _
        omega
      refine SeqAt.in_tuple_reads r2 r1 (by simpa [PyData.canLay0] using c2) c1 hz ?_
      rw [datL_any 20 19 h1 l (all_plain h2)]
      exact ⟨.bl _, H, I, rfl, hQ⟩
    | str t =>
      cases px with
      | str z =>
        match z, hx, hd with
        | [c], hx, hd =>
          obtain ⟨rfl, _⟩ := hx.str
          obtain ⟨rfl, _⟩ := hy.str
          obtain rfl := Option.some.inj hd
          refine op_in_sign pins s σ H _ _ v u Q I rx ry ⟨c, strP t, rfl, rfl, ?_⟩
          have ee : decide (c ∈ (strP t).cps.toList) = decide (c ∈ t) := decide_eq_decide.mpr (by simp [strP])
          rw [ee]
          exact hQ
        | [], _, hd => cases hd
        | _ :: _ :: _, _, hd => cases hd
      | _ => cases hd
    | _ => cases hd
  | nin =>
    cases py with
    | dict t ks vs =>
      have hd' : (if keyB t px = true then some (!(lookV px ks vs).isSome) else none) = some k := hd
      obtain ⟨hlf, rfl⟩ := ite_some hd'
      cases t with
      | true =>
        have hlf : isTupP px = true := hlf
        obtain ⟨a, bs, ys, rfl, ⟨_, xs, h1, h2, h3, h4⟩, r0, r1⟩ := hy.dct e
        obtain ⟨z, hm⟩ := dct_at I e h1 h2 h3 h4 r0
        have hx' : Rep X.kw F x px := by
          rcases hx with hx | ⟨_, _, _, hx⟩
          · exact hx
          · cases px <;> first | exact hx.elim | cases hlf
        obtain ⟨b, rfl⟩ := isTup_ref hlf hx'
        obtain ⟨l1, l2⟩ := ent_look hlf h2 r1 h4
        have hs : (valueAt (pairsH xs) (nk px)).isSome = (lookV px ks vs).isSome := by
          rw [valueAt_pairsH, Option.isSome_map]
          cases q : lookV px ks vs with
          | none => rw [l1 q]; rfl
          | some v0 =>
            obtain ⟨_, _, _, hz, _⟩ := l2 v0 q
            rw [hz]; rfl
        cases ry
        cases rx
        refine notIn_keyed (knd := nestedKind X.prog X.w) (k := nk px) (by show X.A.units + 1 + 8 < cLine; omega) (key_is I e hlf hx') z ⟨xs, hm, rfl⟩ ?_
        exact ⟨.bl _, H, I.tok _, rfl, by rw [hs]; exact hQ⟩
      | false =>
        obtain ⟨a, xs, rfl, s1, r1⟩ := hy.dic e
        obtain ⟨_, kvs, h1, h2, rfl⟩ := s1
        obtain ⟨kk, hk, rfl⟩ := leaf_key hlf hx
        obtain ⟨l1, l2⟩ := look_rel hk ks vs kvs h2 r1
        have hs : (valV kvs kk).isSome = (lookV px ks vs).isSome := by
          cases q : lookV px ks vs with
          | none => rw [l1 q]; rfl
          | some v0 =>
            obtain ⟨z, hz, _⟩ := l2 v0 q
            rw [hz]; rfl
        cases ry
        have g : DGet H a (kV kk) (valV kvs kk) := DGet.k h1
        exact d_notIn (by omega) I g rx fun s3 I3 => ⟨.bl _, H, I3, rfl, by rw [hs]; exact hQ⟩
    | lst l =>
      have hd' : (if (plain px && plain (.lst l)) = true then some (!memV px l) else none) = some k := hd
      obtain ⟨h1, rfl⟩ := ite_some hd'
      obtain ⟨h1, h2⟩ := and_tt h1
      obtain ⟨d1, c1, e1⟩ := hx.dp e h1
      obtain ⟨d2, c2, e2⟩ := hy.dp e h2
      obtain ⟨as, r1⟩ := Dp.reads I _ _ v d1 rx
      obtain ⟨bs, r2⟩ := Dp.reads I _ _ u d2 ry
      simp only [dat] at r2 c2
      have hz : X.A.units + 1 + min (PyData.depthAll (datL l)) (dat px).depth < cLine := by
        have : min (PyData.depthAll (datL l)) (dat px).depth ≤ (dat px).depth := Nat.min_le_right _ _
        omega
      refine SeqAt.notIn_list_reads r2 r1 (by simpa [PyData.canLay0] using c2) c1 hz ?_
      rw [datL_any 20 19 h1 l (all_plain h2)]
      exact ⟨.bl _, H, I, rfl, hQ⟩
    | tup l =>
      have hd' : (if (plain px && plain (.tup l)) = true then some (!memV px l) else none) = some k := hd
      obtain ⟨h1, rfl⟩ := ite_some hd'
      obtain ⟨h1, h2⟩ := and_tt h1
      obtain ⟨d1, c1, e1⟩ := hx.dp e h1
      obtain ⟨d2, c2, e2⟩ := hy.dp e h2
      obtain ⟨as, r1⟩ := Dp.reads I _ _ v d1 rx
      obtain ⟨bs, r2⟩ := Dp.reads I _ _ u d2 ry
      simp only [dat] at r2 c2
      have hz : X.A.units + 1 + min (PyData.depthAll (datL l)) (dat px).depth < cLine := by
        have : min (PyData.depthAll (datL l)) (dat px).depth ≤ (dat px).depth := Nat.min_le_right _ _
        omega
      refine SeqAt.notIn_tuple_reads r2 r1 (by simpa [PyData.canLay0] using c2) c1 hz ?_
      rw [datL_any 20 19 h1 l (all_plain h2)]
      exact ⟨.bl _, H, I, rfl, hQ⟩
    | str t =>
      cases px with
      | str z =>
        match z, hx, hd with
        | [c], hx, hd =>
          obtain ⟨rfl, _⟩ := hx.str
          obtain ⟨rfl, _⟩ := hy.str
          obtain rfl := Option.some.inj hd
          refine op_notIn_sign pins s σ H _ _ v u Q I rx ry ⟨c, strP t, rfl, rfl, ?_⟩
          have ee : decide (c ∈ (strP t).cps.toList) = decide (c ∈ t) := decide_eq_decide.mpr (by simp [strP])
          rw [ee]
          exact hQ
        | [], _, hd => cases hd
        | _ :: _ :: _, _, hd => cases hd
      | _ => cases hd
    | _ => cases hd
/-- truth -/
theorem PR.tru (e : Ext F H) (h : PR K F H x p) {k : Bool} (hd : truV p = some k) : TruV K.1 x H k := by
  cases p with
  | non => obtain rfl := h.non; obtain rfl := Option.some.inj hd; rfl
  | bl b => obtain rfl := h.bl; obtain rfl := Option.some.inj hd; rfl
  | int i =>
    obtain rfl := h.int
    obtain rfl := Option.some.inj hd
    show decide (i ≠ 0) = (i != 0)
    rw [bne, Bool.beq_eq_decide_eq, decide_not]
  | str s =>
    obtain ⟨rfl, o⟩ := h.str
    obtain rfl := Option.some.inj hd
    refine ⟨by rw [strP_length, ← line_eq]; exact o.1, ?_⟩
    rw [strP_length]
    cases s <;> simp; omega
  | tup l =>
    obtain ⟨a, xs, rfl, s, r⟩ := h.tup
    obtain rfl := Option.some.inj hd
    refine .inr (.inl ⟨xs, e.seqT s, ?_⟩)
    cases r <;> rfl
  | lst l =>
    obtain ⟨a, xs, rfl, s, r⟩ := h.lst e
    obtain rfl := Option.some.inj hd
    refine .inl ⟨xs, SqL.of s, ?_⟩
    cases r <;> rfl
  | _ => cases hd
end
end Py

/-! Pv4: indices, slices, built-ins. -/
namespace Py
open PySem PySem.Spec PyProof.Rows L2

section
variable {X : Cx} {K : Frg} {F H : Hp} {x y : V} {p q : PV}
theorem opt_map {α β : Type} {o : Option α} {f : α → β} {b : β} (h : o.map f = some b) : ∃ a, o = some a ∧ f a = b := Option.map_eq_some_iff.mp h
theorem RepL.at {vs : List V} {ps : List PV} {i : Int} {p : PV} (r : RepL K F vs ps) (h : atV ps i = some p) : ∃ v, atI vs i = some v ∧ Rep K F v p := by
  unfold atV at h
  cases e : Py.ixN ps.length i with
  | none => rw [e] at h; cases h
  | some j =>
    rw [e] at h
    obtain ⟨v, h1, h2⟩ := r.get (show ps[j]? = some p from h)
    refine ⟨v, ?_, h2⟩
    unfold atI
    rw [r.length, show L2.ixN ps.length i = some j from e]
    exact h1
theorem tail_builtin {value slice : Expr} {o i : Value} {T id : String} {prog : Program} {w : World} {A : Around} {E : Value → Shared → Prop} {s : Shared} {Q : Value → Shared → Prop} (hT : s.TypeIs o T) (hl : typeLookup (.type T) "__getitem__" = pure (some (.builtin id))) (hs : subscripted slice false o i = operate [o, i] (getItem o i))
    (h : wpAny (model prog w) A (getItem o i) Q E s) : wpAny (model prog w) A (subscriptTail value slice o i) Q E s := by
  unfold subscriptTail
  refine wpAny_bind ?_
  rw [getitemInPython_of_ne hT.not_modules]
  refine wpAny_bind (wpAny_specialOf hT hl ?_)
  have fin : wpAny (model prog w) A (subscripted slice false o i) (fun r s₃ => wpAny (model prog w) A (letTemporaryGo value o r >>= fun _ => pure r) Q E s₃) E s := by
    rw [hs]
    exact wpAny_operating (wpAny_mono h (fun r s₃ h₃ => wpAny_bind (wpAny_letTemporaryGo (wpAny_pure h₃))) fun _ _ x => x)
  first
    | exact wpAny_pure (wpAny_bind fin)
    | exact wpAny_bind (wpAny_pure (wpAny_bind fin))
    | exact wpAny_bind fin
theorem tab_at {K : Frg} {F : Hp} {a : Addr} {z : List Nat} : ∀ {xs : List V} {l : List PV} {v : PV}, tabX K a xs → RepL K F xs l → tabAt z l = some v → ∃ y u, PySem.W.nsIn K.1 a (strP z) = some (some u) ∧ RelV y u ∧ Rep K F y v
  | _, [], v, _, r, h => by cases h
  | _, p :: [], v, _, r, h => by unfold tabAt at h; split at h <;> first | (cases h; done) | (rename_i e; cases e)
  | _, p :: q :: l, v, t, .cons r1 (.cons r2 r3), h => by
    cases p with
    | str s =>
      cases r1 with
      | str _ ok =>
        have t' : (∃ u, PySem.W.nsIn K.1 a (strP s) = some (some u) ∧ RelV _ u) ∧ tabX K a _ := t
        obtain ⟨⟨u, h1, h2⟩, t2⟩ := t'
        have h' : (if s = z then some q else tabAt z l) = some v := h
        by_cases e : s = z
        · rw [if_pos e] at h'
          obtain rfl := Option.some.inj h'
          exact ⟨_, u, e ▸ h1, h2, r2⟩
        · rw [if_neg e] at h'
          exact tab_at t2 r3 h'
    | _ => exact (by unfold tabAt at h; cases h)
theorem ix_any (hu : X.A.units + 65 < cLine) : IxR X (rd2 X.kw ix2) := by
  intro value slice pins s σ H x y v u Q I rx ry h hs
  obtain ⟨F, px, py, res, e, hx, hy, hd, P⟩ := h
  cases px with
  | dict t ks vs =>
    have hd : (if keyB t py = true then (lookV py ks vs).map Res.sh else none) = some res := hd
    have hlf : keyB t py = true := Classical.byContradiction fun z => by rw [if_neg z] at hd; cases hd
    rw [if_pos hlf] at hd
    obtain ⟨v0, hv0, rfl⟩ := opt_map hd
    cases t with
    | true =>
      have hlf : isTupP py = true := hlf
      obtain ⟨a, bs, ys, rfl, ⟨_, xs, h1, h2, h3, h4⟩, r0, r1⟩ := hx.dct e
      obtain ⟨z, hm⟩ := dct_at I e h1 h2 h3 h4 r0
      have hy' : Rep X.kw F y py := by
        rcases hy with hy | ⟨_, _, _, hy⟩
        · exact hy
        · cases py <;> first | exact hy.elim | cases hlf
      obtain ⟨b, rfl⟩ := isTup_ref hlf hy'
      obtain ⟨b', u', y', hz, ru, rz⟩ := (ent_look hlf h2 r1 h4).2 v0 hv0
      cases rx
      cases ry
      refine tail_builtin hm.typeIs PySem.F.slot_dict_getitem.lookup hs (wpAny_getItem_heap (knd := nestedKind X.prog X.w) (k := nk py) (by show X.A.units + 1 + 8 < cLine; omega) (key_is I e hlf hy') hm hz ?_)
      exact ⟨y', H, I.tok _, ru, P.sh e rz⟩
    | false =>
      obtain ⟨a, xs, rfl, s1, r1⟩ := hx.dic e
      obtain ⟨_, kvs, h1, h2, rfl⟩ := s1
      obtain ⟨k, hk, rfl⟩ := leaf_key hlf hy
      obtain ⟨z, hz, rz⟩ := (look_rel hk ks vs kvs h2 r1).2 v0 hv0
      cases rx
      have g : DGet H a (kV k) (some z) := by rw [← hz]; exact DGet.k h1
      exact tail_builtin (dict_typeIs I g) PySem.F.slot_dict_getitem.lookup hs (d_getItem (by omega) I g ry fun w' s3 I3 rw' => ⟨z, H, I3, rw', P.sh e rz⟩)
  | set l =>
    cases py with
    | str z =>
      obtain ⟨v0, hv0, rfl⟩ := opt_map (show (tabAt z l).map Res.sh = some res from hd)
      obtain ⟨rfl, _⟩ := hy.str
      have hx' : Rep X.kw F x (.set l) := by
        rcases hx with h | ⟨_, _, _, h⟩
        · exact h
        · exact h.elim
      cases hx' with
      | tab q r =>
        obtain ⟨⟨es, n, D⟩, t⟩ := q
        obtain ⟨y0, u0, h1, h2, h3⟩ := tab_at t r hv0
        exact ix_kdict value slice pins s σ H _ _ v u Q I rx ry ⟨_, _, y0, rfl, rfl, ⟨es, n, u0, D.at_, D.lit, h1, h2⟩, P.sh e h3⟩ hs
      | rpr z => exact absurd (show tabAt _ [.non, _] = some v0 from hv0) (by simp [tabAt])
    | _ => cases hd
  | lst l =>
    cases py with
    | int i =>
      obtain ⟨a, xs, rfl, s1, r1⟩ := hx.lst e
      obtain rfl := hy.int
      obtain ⟨w, hw, rfl⟩ := opt_map (show (atV l i).map Res.sh = some res from hd)
      obtain ⟨z, hz, rz⟩ := r1.at hw
      exact ix_list value slice pins s σ H _ _ v u Q I rx ry ⟨a, xs, i, z, rfl, rfl, SqL.of s1, hz, P.sh e rz⟩ hs
    | _ => cases hd
  | tup l =>
    cases py with
    | int i =>
      obtain ⟨a, xs, rfl, s1, r1⟩ := hx.tup
      obtain rfl := hy.int
      obtain ⟨w, hw, rfl⟩ := opt_map (show (atV l i).map Res.sh = some res from hd)
      obtain ⟨z, hz, rz⟩ := r1.at hw
      exact ix_tup value slice pins s σ H _ _ v u Q I rx ry ⟨a, xs, i, z, rfl, rfl, e.seqT s1, hz, P.sh e rz⟩ hs
    | _ => cases hd
  | str t =>
    cases py with
    | int i =>
      obtain ⟨rfl, o1⟩ := hx.str
      obtain rfl := hy.int
      obtain ⟨c, hc, rfl⟩ := opt_map (show (atV t i).map (fun c => Res.sh (.str [c])) = some res from hd)
      have hc' : atI (strP t).cps.toList i = some c := by
        unfold atV at hc
        unfold atI
        have e1 : (strP t).cps.toList = t := by simp [strP]
        rw [e1]
        exact hc
      have ho : OkS [c] := by
        refine ⟨by show 1 ≤ 16777216; decide, fun d hd => ?_⟩
        obtain rfl : d = c := by simpa using hd
        unfold atV at hc
        cases e2 : Py.ixN t.length i with
        | none => rw [e2] at hc; cases hc
        | some j =>
          rw [e2] at hc
          exact o1.2 _ (List.mem_of_getElem? (show t[j]? = some d from hc))
      exact ix_str value slice pins s σ H _ _ v u Q I rx ry ⟨strP t, i, c, rfl, rfl, by rw [strP_length, ← line_eq]; exact o1.1, hc', P.sh e (.str [c] ho)⟩ hs
    | _ => cases hd
  | _ => cases hd

/-! ### slices -/
def rdS (K : Frg) : V → Option Int → Option Int → Hp → VK → Prop := fun x lo hi H Q => ∃ F px res, Ext F H ∧ PR K F H x px ∧ sl3 px lo hi = some res ∧ Post K F H res Q
theorem okS_cut {s : List Nat} (o : OkS s) (lo hi : Option Int) : OkS (cutL s lo hi) := by
  unfold cutL
  refine ⟨?_, fun c hc => o.2 c (List.mem_of_mem_drop (List.mem_of_mem_take hc))⟩
  rw [List.length_take, List.length_drop]
  have := o.1
  omega
theorem RepL.cut {vs : List V} {ps : List PV} (r : RepL K F vs ps) (lo hi : Option Int) : RepL K F (cutV vs lo hi) (cutL ps lo hi) := by
  unfold cutV cutL
  rw [r.length]
  exact (r.drop _).take _
theorem cutL_map {α β : Type} (f : α → β) (l : List α) (lo hi : Option Int) : cutL (l.map f) lo hi = (cutL l lo hi).map f := by
  unfold cutL
  rw [List.length_map, ← List.map_drop, ← List.map_take]
theorem cutV_ints (l : List Int) (lo hi : Option Int) : cutV (l.map V.int) lo hi = (cutL l lo hi).map V.int := by
  unfold cutV cutL
  rw [List.length_map, ← List.map_drop, ← List.map_take]
  rfl
theorem sl_any : SlR X (rdS X.kw) := by
  intro pins s σ H x v vl vu lo hi sl Q I rx hs pl pu h
  obtain ⟨F, px, res, e, hx, hd, P⟩ := h
  cases px with
  | lst l =>
    obtain ⟨a, xs, rfl, s1, r1⟩ := hx.lst e
    obtain rfl := Option.some.inj hd
    exact sl_list pins s σ H _ v vl vu lo hi sl Q I rx hs pl pu ⟨a, xs, rfl, SqL.of s1, fun p n => P.newL e (r1.cut lo hi) n⟩
  | tup l =>
    obtain ⟨a, xs, rfl, s1, r1⟩ := hx.tup
    obtain rfl := Option.some.inj hd
    refine sl_tupA pins s σ H _ v vl vu lo hi sl Q I rx hs pl pu ⟨a, xs, rfl, e.seqT s1, fun w => ?_, fun _ p n => P.newT e (r1.cut lo hi) n⟩
    have ec : cutL l lo hi = l := by
      unfold cutL
      rw [show cutAt l.length 0 lo = 0 by rw [← r1.length]; exact w.1, show cutAt l.length l.length hi = l.length by rw [← r1.length]; exact w.2]
      simp
    rw [ec] at P
    exact P.sh e (.tup s1 r1)
  | str t =>
    obtain ⟨rfl, o1⟩ := hx.str
    obtain rfl := Option.some.inj hd
    refine sl_str pins s σ H _ v vl vu lo hi sl Q I rx hs pl pu ⟨strP t, rfl, by rw [strP_length, ← line_eq]; exact o1.1, ?_⟩
    have ec : cutS (strP t) lo hi = strP (cutL t lo hi) := by
      unfold cutS strP cutL
      have e1 : Str.length (⟨t.toArray⟩ : Str) = t.length := by show t.toArray.size = _; simp
      rw [e1]
      rfl
    rw [ec]
    exact P.sh e (.str _ (okS_cut o1 lo hi))
  | scr l =>
    obtain ⟨a, rfl, s1⟩ := hx.scr
    obtain rfl := Option.some.inj hd
    refine sl_list pins s σ H _ v vl vu lo hi sl Q I rx hs pl pu ⟨a, l.map V.int, rfl, e.seqL s1, fun p n => ?_⟩
    rw [cutV_ints]
    exact P.newL e (RepL.ints _) n
  | _ => cases hd

/-! ### one operand -/
def uop : UnOp → UnaryOp
  | .neg => .USub
theorem un_any (o : UnOp) : UnR X (unaryOp (uop o)) (rd1 X.kw (un1 o)) := by
  intro pins s σ H x v Q I rx h
  obtain ⟨F, px, res, e, hx, hd, P⟩ := h
  cases o with
  | neg =>
    cases px with
    | int i =>
      obtain rfl := hx.int
      obtain rfl := Option.some.inj hd
      exact un_neg pins s σ H _ v Q I rx ⟨i, rfl, P.sh e (.int _)⟩
    | _ => cases hd

/-! ### lists of ints, truth values, texts -/
theorem intsOf_eq : ∀ {l : List PV} {is : List Int}, intsOf l = some is → l = is.map .int
  | [], is, h => by
    obtain rfl := Option.some.inj h
    rfl
  | .int i :: r, is, h => by
    obtain ⟨js, h1, rfl⟩ := opt_map (show (intsOf r).map (i :: ·) = some is from h)
    rw [intsOf_eq h1]
    rfl
  | .non :: _, _, h => by cases h
  | .bl _ :: _, _, h => by cases h
  | .str _ :: _, _, h => by cases h
  | .tup _ :: _, _, h => by cases h
  | .lst _ :: _, _, h => by cases h
  | .dict _ _ _ :: _, _, h => by cases h
  | .set _ :: _, _, h => by cases h
  | .scr _ :: _, _, h => by cases h
theorem blsOf_eq : ∀ {l : List PV} {is : List Bool}, blsOf l = some is → l = is.map .bl
  | [], is, h => by
    obtain rfl := Option.some.inj h
    rfl
  | .bl i :: r, is, h => by
    obtain ⟨js, h1, rfl⟩ := opt_map (show (blsOf r).map (i :: ·) = some is from h)
    rw [blsOf_eq h1]
    rfl
  | .non :: _, _, h => by cases h
  | .int _ :: _, _, h => by cases h
  | .str _ :: _, _, h => by cases h
  | .tup _ :: _, _, h => by cases h
  | .lst _ :: _, _, h => by cases h
  | .dict _ _ _ :: _, _, h => by cases h
  | .set _ :: _, _, h => by cases h
  | .scr _ :: _, _, h => by cases h
theorem strsOf_eq : ∀ {l : List PV} {is : List (List Nat)}, strsOf l = some is → l = is.map .str
  | [], is, h => by
    obtain rfl := Option.some.inj h
    rfl
  | .str i :: r, is, h => by
    obtain ⟨js, h1, rfl⟩ := opt_map (show (strsOf r).map (i :: ·) = some is from h)
    rw [strsOf_eq h1]
    rfl
  | .non :: _, _, h => by cases h
  | .bl _ :: _, _, h => by cases h
  | .int _ :: _, _, h => by cases h
  | .tup _ :: _, _, h => by cases h
  | .lst _ :: _, _, h => by cases h
  | .dict _ _ _ :: _, _, h => by cases h
  | .set _ :: _, _, h => by cases h
  | .scr _ :: _, _, h => by cases h
theorem RepL.vints : ∀ {vs : List V} {is : List Int}, RepL K F vs (is.map .int) → vs = is.map V.int
  | _, [], h => by cases h; rfl
  | _, i :: r, h => by cases h with | cons q t => cases q; rw [RepL.vints t]; rfl
theorem RepL.vbls : ∀ {vs : List V} {is : List Bool}, RepL K F vs (is.map .bl) → vs = is.map V.bl
  | _, [], h => by cases h; rfl
  | _, i :: r, h => by cases h with | cons q t => cases q; rw [RepL.vbls t]; rfl
theorem RepL.vstrs : ∀ {vs : List V} {is : List (List Nat)}, RepL K F vs (is.map .str) → vs = (is.map strP).map V.str ∧ ∀ s ∈ is, OkS s
  | _, [], h => by cases h; exact ⟨rfl, fun _ q => nomatch q⟩
  | _, i :: r, h => by
    cases h with
    | cons q t =>
      cases q with
      | str _ o =>
        obtain ⟨h1, h2⟩ := RepL.vstrs t
        exact ⟨by rw [h1]; rfl, fun s hs => (List.mem_cons.mp hs).elim (fun e => e ▸ o) (h2 s)⟩
theorem maxI_le : ∀ (l : List Int) (m : Int), m ≤ maxI m l ∧ ∀ y ∈ l, y ≤ maxI m l
  | [], m => ⟨Int.le_refl _, fun _ h => nomatch h⟩
  | i :: r, m => by
    obtain ⟨h1, h2⟩ := maxI_le r (if m < i then i else m)
    show m ≤ maxI (if m < i then i else m) r ∧ ∀ y ∈ i :: r, y ≤ maxI (if m < i then i else m) r
    by_cases h : m < i
    · simp only [if_pos h] at h1 h2 ⊢
      exact ⟨by omega, fun y hy => (List.mem_cons.mp hy).elim (fun e => by omega) (h2 y)⟩
    · simp only [if_neg h] at h1 h2 ⊢
      exact ⟨h1, fun y hy => (List.mem_cons.mp hy).elim (fun e => by omega) (h2 y)⟩
theorem maxI_mem : ∀ (l : List Int) (m : Int), maxI m l = m ∨ maxI m l ∈ l
  | [], m => .inl rfl
  | i :: r, m => by
    show maxI (if m < i then i else m) r = m ∨ maxI (if m < i then i else m) r ∈ i :: r
    by_cases h : m < i
    · simp only [if_pos h]
      rcases maxI_mem r i with q | q
      · rw [q]; exact .inr List.mem_cons_self
      · exact .inr (List.mem_cons_of_mem _ q)
    · simp only [if_neg h]
      rcases maxI_mem r m with q | q
      · exact .inl q
      · exact .inr (List.mem_cons_of_mem _ q)
theorem minI_le : ∀ (l : List Int) (m : Int), minI m l ≤ m ∧ ∀ y ∈ l, minI m l ≤ y
  | [], m => ⟨Int.le_refl _, fun _ h => nomatch h⟩
  | i :: r, m => by
    obtain ⟨h1, h2⟩ := minI_le r (if i < m then i else m)
    show minI (if i < m then i else m) r ≤ m ∧ ∀ y ∈ i :: r, minI (if i < m then i else m) r ≤ y
    by_cases h : i < m
    · simp only [if_pos h] at h1 h2 ⊢
      exact ⟨by omega, fun y hy => (List.mem_cons.mp hy).elim (fun e => by omega) (h2 y)⟩
    · simp only [if_neg h] at h1 h2 ⊢
      exact ⟨h1, fun y hy => (List.mem_cons.mp hy).elim (fun e => by omega) (h2 y)⟩
theorem minI_mem : ∀ (l : List Int) (m : Int), minI m l = m ∨ minI m l ∈ l
  | [], m => .inl rfl
  | i :: r, m => by
    show minI (if i < m then i else m) r = m ∨ minI (if i < m then i else m) r ∈ i :: r
    by_cases h : i < m
    · simp only [if_pos h]
      rcases minI_mem r i with q | q
      · rw [q]; exact .inr List.mem_cons_self
      · exact .inr (List.mem_cons_of_mem _ q)
    · simp only [if_neg h]
      rcases minI_mem r m with q | q
      · exact .inl q
      · exact .inr (List.mem_cons_of_mem _ q)

/-! ### sorted -/
section
variable {prog : Program} {w : World} {A : Around} {E : Value → Shared → Prop} {s : Shared}
/-- the items of a tuple, gathered -/
theorem coll_T {l : Addr} {its : List Value} {Q : List Value → Shared → Prop} (hl : s.heap.IsTuple l its.toArray) (hz : its.length ≤ sizeLine)
    (h : Q its { s with heap := Heap.update (Heap.push s.heap (seqObj "list" #[] 0)) s.heap.objs.size (Obj.mapSeq fun x => x ++ its.toArray) }) : wpAny (model prog w) A (collect (.ref l)) Q E s := by
  obtain ⟨o, ho, cl, n, dt⟩ := id hl
  have gl : Heap.get? (Heap.push s.heap (seqObj "list" #[] 0)) l = some o := ho |> Heap.get?_push_of_some _
  have tt : (Value.type "tuple" == Value.type "tuple") = true := rfl
  unfold collect
  refine wpAny_bind (wpAny_runValue (codeAny_builtin entry_proto_collect' ?_))
  show wpAny _ _ (newList [] >>= fun r => again (.builtin "list.__iadd__" ⟨[r, .ref l], []⟩)) _ _ s
  refine wpAny_bind (wpAny_newList (wpAny_pure ⟨Code.quiet_builtin _ (by decide +kernel), codeAny_builtin entry_list_iadd' ?_⟩))
  show wpAny _ _ (Builtin.List.listExtendWith (.ref s.heap.objs.size) (.ref l) (.ref s.heap.objs.size)) _ _ { s with heap := Heap.push s.heap (seqObj "list" #[] 0) }
  unfold Builtin.List.listExtendWith
  refine wpAny_bind (wpAny_typeOf (T := "tuple") ⟨o, gl, cl⟩ ?_)
  rw [if_pos (by rw [tt, Bool.or_true])]
  refine wpAny_bind (listItems_at gl dt ?_)
  have g0 : (Heap.push s.heap (seqObj "list" #[] 0)).get? s.heap.objs.size = some (seqObj "list" #[] 0) := Heap.get?_push_size _ rfl
  refine wpAny_bind (listItems_at (n := 0) (xs := #[]) g0 rfl ?_)
  rw [if_neg (by simp)]
  refine wpAny_bind (listUpdate_at (n := 0) (xs := #[]) g0 rfl ?_ (Nat.zero_le _) (by show (#[] ++ its.toArray).size ≤ sizeLine + 1; rw [Array.size_append]; simp; omega))
  refine wpAny_pure ?_
  show wpAny _ A (load s.heap.objs.size >>= fun o => match o.data with | .seq xs _ => pure xs.toList | _ => unsupported "internal:collect") Q E { s with heap := Heap.update (Heap.push s.heap (seqObj "list" #[] 0)) s.heap.objs.size (Obj.mapSeq fun x => x ++ its.toArray) }
  refine wpAny_bind (wpAny_load (get?_update_seq g0 _) ?_)
  have ei : ((#[] : Array Value) ++ its.toArray).toList = its := by simp
  show wpAny _ _ (pure ((#[] : Array Value) ++ its.toArray).toList) Q E _
  rw [ei]
  exact wpAny_pure h
open PySem.W in
/-- sorted of a tuple: what sorts the list of its items sorts it -/
theorem sorted_T {β : Type} {vs : List Value} {bs : List β} {enc : β → PyData} {R : Value → β → Prop} {l : Addr} {Q : Value → Shared → Prop} (hl : s.heap.IsTuple l vs.toArray) (e : EachIs R vs bs) (er : EachIs (fun v b => ∃ as, Reads s.heap v (enc b) as) vs bs) (hal : AllAlike (bs.map enc)) (hk : Sortable (bs.map enc)) (hL : bs.length ≤ sizeLine)
    (hu : ∀ b ∈ bs, A.units + 2 + (enc b).depth < cLine) (h : ∀ out, out.length = bs.length → EachIs R out (bs.mergeSort (dataLe false enc)) → Q (.ref (s.heap.objs.size + 1)) { s with heap := sortedAll s.heap vs (List.toArray out) }) : wpAny (model prog w) A (call (.builtin "sorted") [.ref l]) Q E s := by
  have el := e.length
  have er2 := er.mono (R' := fun v b => ∃ as, Reads (sortingHeap (copyHeap s.heap vs) (s.heap.objs.size + 1) vs) v (enc b) as) fun _ _ ⟨as, r⟩ => ⟨as, PyProof.Rows.Reads.keeps (fun _ _ => sorting_copy_old) r⟩
  have S := SortsAt.data (prog := prog) (w := w) (A := A.in1.in1) (s := { s with heap := sortingHeap (copyHeap s.heap vs) (s.heap.objs.size + 1) vs }) (each_map (R := fun v d => ∃ as, Reads (sortingHeap (copyHeap s.heap vs) (s.heap.objs.size + 1) vs) v d as) enc er2) hal hk (bound_map hu)
  refine PyProof.Rows.call_function_entry_kw kind_sorted plain_sorted entry_sorted (args_sorted1 _) ?_
  unfold Builtin.«sorted»
  refine wpAny_bind (m := checkCount "sorted" 1 1 _) (wpAny_pure ?_)
  refine wpAny_bind (coll_T hl (by omega) ?_)
  refine wpAny_bind (wpAny_newList ?_ (by omega))
  have hs : (Heap.update (Heap.push s.heap (seqObj "list" #[] 0)) s.heap.objs.size (Obj.mapSeq fun x => x ++ vs.toArray)).objs.size = s.heap.objs.size + 1 := (Heap.size_update ..).trans (size_push' ..)
  show wpAny _ _ _ _ _ { s with heap := copyHeap s.heap vs }
  rw [hs]
  refine wpAny_bind (wpAny_holding (wpAny_call_entry_kw slot_list_sort ⟨_, copyHeap_at s.heap vs, rfl⟩ entry_list_sort ?body (args_list_sort _)))
  show wpAny (model prog w) A.in1.in1 (Builtin.«list.sort» ⟨[.ref (s.heap.objs.size + 1)], []⟩) _ _ _
  refine list_sort_vals (s := { s with heap := copyHeap s.heap vs }) (copyHeap_at s.heap vs) S (by omega) ?_
  exact ⟨_, rfl, wpAny_pure ⟨_, rfl, h _ ((PySem.W.sortVals_length false rfl).trans el) (sortVals_data false e er2 hal)⟩⟩
end
section
variable {α : Type} (le : α → α → Bool)
def insG (x : α) : List α → List α
  | [] => [x]
  | y :: ys => if le x y then x :: y :: ys else y :: insG x ys
def sortG : List α → List α
  | [] => []
  | x :: xs => insG le x (sortG xs)
theorem insG_mem {x z : α} : ∀ {l : List α}, z ∈ insG le x l → z = x ∨ z ∈ l
  | [], h => by simpa [insG] using h
  | y :: ys, h => by
    unfold insG at h
    by_cases c : le x y = true
    · rw [if_pos c] at h
      simpa using h
    · rw [if_neg c] at h
      rcases List.mem_cons.mp h with q | q
      · exact .inr (by rw [q]; exact List.mem_cons_self)
      · rcases insG_mem q with q | q
        · exact .inl q
        · exact .inr (List.mem_cons_of_mem _ q)
theorem insG_pw (T : PySem.W.TotalLe le) {x : α} : ∀ {l : List α}, l.Pairwise (fun a b => le a b = true) → (insG le x l).Pairwise (fun a b => le a b = true)
  | [], _ => by simp [insG]
  | y :: ys, h => by
    obtain ⟨h1, h2⟩ := List.pairwise_cons.mp h
    unfold insG
    by_cases c : le x y = true
    · rw [if_pos c]
      exact List.pairwise_cons.mpr ⟨fun z hz => (List.mem_cons.mp hz).elim (fun e => e ▸ c) (fun q => T.trans _ _ _ c (h1 z q)), h⟩
    · rw [if_neg c]
      refine List.pairwise_cons.mpr ⟨fun z hz => ?_, insG_pw T h2⟩
      rcases insG_mem le hz with q | q
      · rw [q]; exact (T.total x y).resolve_left c
      · exact h1 z q
theorem sortG_pw (T : PySem.W.TotalLe le) : ∀ l : List α, (sortG le l).Pairwise (fun a b => le a b = true)
  | [] => List.Pairwise.nil
  | x :: xs => insG_pw le T (sortG_pw T xs)
theorem insG_filter (T : PySem.W.TotalLe le) {x c : α} : ∀ l : List α, (insG le x l).filter (PySem.W.sameRank le c) = (x :: l).filter (PySem.W.sameRank le c)
  | [] => rfl
  | y :: ys => by
    unfold insG
    by_cases k : le x y = true
    · rw [if_pos k]
    · rw [if_neg k, List.filter_cons, insG_filter T ys]
      by_cases h : PySem.W.sameRank le c x = true
      · have hy : ¬ PySem.W.sameRank le c y = true := fun q => by
          unfold PySem.W.sameRank at h q
          rw [Bool.and_eq_true] at h q
          exact k (T.trans _ _ _ h.2 q.1)
        rw [if_neg hy, List.filter_cons, List.filter_cons, if_pos h, if_pos h, List.filter_cons, if_neg hy]
      · rw [List.filter_cons, List.filter_cons (x := x), if_neg h, List.filter_cons, if_neg h]
theorem sortG_filter (T : PySem.W.TotalLe le) (c : α) : ∀ l : List α, (sortG le l).filter (PySem.W.sameRank le c) = l.filter (PySem.W.sameRank le c)
  | [] => rfl
  | x :: xs => by
    show (insG le x (sortG le xs)).filter _ = _
    rw [insG_filter le T, List.filter_cons, List.filter_cons, sortG_filter T c xs]
theorem sortG_merge (T : PySem.W.TotalLe le) (l : List α) : sortG le l = l.mergeSort le := PySem.W.sort_unique T (sortG_pw le T l) fun c => sortG_filter le T c l
theorem sortG_mem {z : α} : ∀ {l : List α}, z ∈ sortG le l → z ∈ l
  | [], h => h
  | x :: xs, h => by
    rcases insG_mem le (show z ∈ insG le x (sortG le xs) from h) with q | q
    · rw [q]; exact List.mem_cons_self
    · exact List.mem_cons_of_mem _ (sortG_mem q)
end
theorem insV_eq {le : PV → PV → Bool} {x : PV} : ∀ {l : List PV}, (∀ y ∈ l, le x y = !ltv y x) → insV x l = insG le x l
  | [], _ => rfl
  | y :: ys, h => by
    unfold insV insG
    rw [h y List.mem_cons_self]
    cases ltv y x with
    | true =>
      show y :: insV x ys = y :: insG le x ys
      rw [insV_eq (le := le) fun z hz => h z (List.mem_cons_of_mem _ hz)]
    | false => rfl
theorem sortV_eq {le : PV → PV → Bool} : ∀ {l : List PV}, (∀ x ∈ l, ∀ y ∈ l, le x y = !ltv y x) → sortV l = sortG le l
  | [], _ => rfl
  | x :: xs, h => by
    show insV x (sortV xs) = insG le x (sortG le xs)
    have hs : sortV xs = sortG le xs := sortV_eq fun a ha b hb => h a (List.mem_cons_of_mem _ ha) b (List.mem_cons_of_mem _ hb)
    rw [hs]
    exact insV_eq fun y hy => h x List.mem_cons_self y (List.mem_cons_of_mem _ (sortG_mem le hy))
theorem alikeL_all : ∀ {l : List PV}, alikeL l = true → (∀ x ∈ l, alk x x = true) → ∀ x ∈ l, ∀ y ∈ l, alk x y = true
  | [], _, _ => fun _ h => nomatch h
  | a :: r, h, hs => by
    unfold alikeL at h
    obtain ⟨h1, h2⟩ := and_tt h
    have ih := alikeL_all h2 fun x hx => hs x (List.mem_cons_of_mem _ hx)
    have h3 : ∀ y ∈ r, alk a y = true ∧ alk y a = true := fun y hy => and_tt (List.all_eq_true.mp h1 y hy)
    intro x hx y hy
    rcases List.mem_cons.mp hx with ex | hx
    · rcases List.mem_cons.mp hy with ey | hy
      · rw [ex, ey]; exact hs _ List.mem_cons_self
      · rw [ex]; exact (h3 y hy).1
    · rcases List.mem_cons.mp hy with ey | hy
      · rw [ey]; exact (h3 x hx).2
      · exact ih x hx y hy
theorem each_back {l : List PV} : ∀ {out : List Value} {bs : List PV}, PySem.W.EachIs (fun v b => ∃ x, RelV x v ∧ Rep K F x b) out bs → ∃ xs, Vals xs out ∧ RepL K F xs bs
  | _, _, .nil => ⟨[], .nil, .nil⟩
  | _, _, .cons ⟨x, h1, h2⟩ t => by
    obtain ⟨xs, g1, g2⟩ := each_back (l := l) t
    exact ⟨x :: xs, .cons h1 g1, .cons h2 g2⟩
theorem datL_map : ∀ l : List PV, datL l = l.map dat
  | [] => rfl
  | x :: l => by simp only [datL, List.map_cons]; rw [datL_map l]
theorem each_reads {pins : List (Addr × Obj)} {σ : L2.St} {s : Shared} (I : Inv X pins σ H s) (e : Ext F H) {n : Nat} : ∀ {its : List Value} {xs : List V} {l : List PV}, (∀ p ∈ l, plainD n p = true) → Vals xs its → RepL X.kw F xs l →
    PySem.W.EachIs (fun v b => ∃ as, Reads s.heap v (dat b) as) its l ∧ PySem.W.EachIs (fun v b => ∃ x, RelV x v ∧ Rep X.kw F x b) its l
  | _, _, [], _, .nil, .nil => ⟨.nil, .nil⟩
  | _, _, p :: l, h, .cons r t, .cons q u => by
    obtain ⟨h1, h2⟩ := each_reads I e (fun z hz => h z (List.mem_cons_of_mem _ hz)) t u
    exact ⟨.cons (Dp.reads I _ _ _ (dp_dat e n p _ (h p List.mem_cons_self) q) r) h1, .cons ⟨_, r, q⟩ h2⟩
theorem sorted_core (hu : X.A.units + 65 < cLine) {pins : List (Addr × Obj)} {s : Shared} {σ : L2.St} {Q : VK} {l : List PV} {a : Addr} {xs : List V} {its : List Value} (I : Inv X pins σ H s) (e : Ext F H) (r1 : RepL X.kw F xs l) (rv : Vals xs its) (hz : xs.length ≤ sizeLine) (pl : s.heap.IsList a its.toArray ∨ s.heap.IsTuple a its.toArray) (hk : sortOk l = true)
    (P : Post X.kw F H (.own (.lst (sortV l))) Q) : wpAny (model X.prog X.w) X.A (call (.builtin "sorted") [.ref a]) (EP X pins σ Q) X.xe s := by
  unfold sortOk at hk
  obtain ⟨hk, k4⟩ := and_tt hk
  obtain ⟨hk, k3⟩ := and_tt hk
  obtain ⟨k1, k2⟩ := and_tt hk
  have hp : ∀ p ∈ l, plainD 19 p = true := all_plain k3
  have hself : ∀ p ∈ l, alk p p = true := List.all_eq_true.mp k2
  have hal := alikeL_all k1 hself
  obtain ⟨E1, E2⟩ := each_reads I e hp rv r1
  have hle : ∀ x ∈ l, ∀ y ∈ l, PySem.W.dataLe false dat x y = !ltv y x := fun x hx y hy => by
    rw [PySem.W.dataLe_eq]
    show (!PySem.W.dataLt (dat y) (dat x)) = _
    rw [lt_dat 19 19 y x (hp y hy) (hp x hx) (hal y hy x hx)]
  have hsort : l.mergeSort (PySem.W.dataLe false dat) = sortV l := by
    rw [sortV_eq (le := PySem.W.dataLe false dat) hle]
    exact (sortG_merge _ (PySem.W.sortLe_total _ _ _) l).symm
  have f1 : PySem.W.AllAlike (l.map dat) := by
    intro d hd d' hd'
    obtain ⟨p, hp1, rfl⟩ := List.mem_map.mp hd
    obtain ⟨q, hq1, rfl⟩ := List.mem_map.mp hd'
    rw [alike_dat 19 19 p q (hp p hp1) (hp q hq1)]
    exact hal p hp1 q hq1
  have f2 : PySem.W.Sortable (l.map dat) := by
    cases l with
    | nil => exact .inl fun d hd => nomatch hd
    | cons b r =>
      by_cases hb : ∃ ts, b = .tup ts
      · obtain ⟨ts, rfl⟩ := hb
        refine .inl fun d hd => ?_
        obtain ⟨p, hp1, rfl⟩ := List.mem_map.mp hd
        have ha := hal _ List.mem_cons_self p hp1
        have hn := List.all_eq_true.mp k4 p hp1
        cases p with
        | tup us =>
          cases us with
          | nil => cases hn
          | cons w us => exact ⟨dat w, datL us, by simp only [dat, datL]⟩
        | _ => cases ha
      · refine .inr fun d hd => ?_
        obtain ⟨p, hp1, rfl⟩ := List.mem_map.mp hd
        have ha := hal p hp1 _ List.mem_cons_self
        have hn := List.all_eq_true.mp k4 p hp1
        cases p with
        | non => cases hn
        | tup us =>
          cases b with
          | tup ts => exact absurd ⟨ts, rfl⟩ hb
          | _ => cases ha
        | dict _ _ => cases ha
        | set _ => cases ha
        | scr _ => cases ha
        | _ => exact ⟨by simp [dat], by simp [dat]⟩
  have f3 : ∀ b ∈ l, X.A.units + 2 + (dat b).depth < cLine := fun b hb => by
    have := depth_dat 19 b (hp b hb)
    omega
  have f4 : l.length ≤ sizeLine := by rw [← r1.length]; exact hz
  have f5 : ∀ out : List Value, out.length = l.length → PySem.W.EachIs (fun v b => ∃ x, RelV x v ∧ Rep X.kw F x b) out (l.mergeSort (PySem.W.dataLe false dat)) → EP X pins σ Q (.ref (s.heap.objs.size + 1)) { s with heap := sortedAll s.heap its (List.toArray out) } := fun out h1 h2 => by
    rw [hsort] at h2
    obtain ⟨ys, v2, r2⟩ := each_back (l := l) h2
    obtain ⟨ep, he'⟩ := PyProof.Rows.sortedAll_at s.heap its out.toArray
    have hlen : ys.length ≤ sizeLine := by rw [v2.length, h1, ← r1.length]; exact hz
    exact ⟨.ref _, L2.upd H (s.heap.objs.size + 1) (.lst ys), I.laid (t' := s.toks) (fun _ _ => PyProof.Rows.sortedAll_old) (Nat.le_succ _) ⟨hlen, out, ep, v2, he'⟩, rfl, P.newL e r2 (I.hok.fresh (Nat.le_succ _))⟩
  rcases pl with pl | pl
  · exact PySem.W.sorted_data (bs := l) (enc := dat) (R := fun v b => ∃ x, RelV x v ∧ Rep X.kw F x b) pl E2 E1 f1 f2 f4 f3 f5
  · exact sorted_T (bs := l) (enc := dat) (R := fun v b => ∃ x, RelV x v ∧ Rep X.kw F x b) pl E2 E1 f1 f2 f4 f3 f5
theorem argBest_same {f g : Nat → Nat → Bool} : ∀ k, (∀ i j, i ≤ k → j ≤ k → f i j = g i j) → argBest f k = argBest g k ∧ argBest f k ≤ k
  | 0, _ => ⟨rfl, Nat.le_refl _⟩
  | k + 1, h => by
    obtain ⟨h1, h2⟩ := argBest_same k fun i j hi hj => h i j (by omega) (by omega)
    have e := h (k + 1) (argBest f k) (Nat.le_refl _) (by omega)
    rw [argBest, argBest, ← h1, ← e]
    refine ⟨rfl, ?_⟩
    by_cases c : f (k + 1) (argBest f k) = true
    · rw [if_pos c]; exact Nat.le_refl _
    · rw [if_neg c]; omega
theorem minV_fold : ∀ (r : List PV) (p : PV), r.foldl (fun a y => if ltv y a then y else a) p = minV p r
  | [], _ => rfl
  | y :: r, p => minV_fold r _
theorem each_at {R : Value → PV → Prop} : ∀ {vs : List Value} {bs : List PV}, PySem.W.EachIs R vs bs → ∀ (i : Nat) (v : Value), vs[i]? = some v → ∃ b, bs[i]? = some b ∧ R v b
  | _, _, .nil, _, _, hv => by simp at hv
  | _, _, .cons (b := b) h t, 0, v, hv => ⟨b, rfl, by rw [← Option.some.inj (show some _ = some v from hv)]; exact h⟩
  | _, _, .cons h t, i + 1, v, hv => each_at t i v (by simpa using hv)
theorem min_at {prog : Program} {w : World} {A : Around} {E : Value → Shared → Prop} {s : Shared} {l : Addr} {vs : Array Value} {x : PyData} {xs : List PyData} {as : List Addr} {Q : Value → Shared → Prop} (hh : A.handled = none) (hl : s.heap.IsList l vs) (hr : ReadsAll s.heap vs.toList (x :: xs) as) (ha : PySem.W.AlikeAll (x :: xs)) (hu : A.units + 1 + PyData.depthAll (x :: xs) < cLine)
    (h : ∀ v h' tk, vs[argBest (fun i j => PySem.W.dataLt ((x :: xs).getD i .none) ((x :: xs).getD j .none)) xs.length]? = some v → (∀ b o, s.heap.get? b = some o → h'.get? b = some o) → Q v { s with heap := h', toks := tk }) :
    wpAny (model prog w) A (call (.builtin "min") [.ref l]) Q E s := by
  have hn : vs.size = xs.length + 1 := PySem.W.readsAll_len hr
  refine call_min_walkH (PySem.W.iter_listW (A := A.in1) hh hl fun s₂ e W st hfp hw hk => ?_)
  refine ⟨_, _, _, _, _, _, _, s.heap, _, rfl, W, st, hfp, by omega, hw, hk, PySem.W.cmpIn_lt (A := A.in1) hr ha (by show A.units + 1 + _ < _; exact hu), fun v s' hP m => ?_⟩
  obtain ⟨h', tk, rfl, hk'⟩ := PySem.W.moved_old e rfl m
  have e1 : vs.size - 1 = xs.length := by omega
  rw [e1] at hP
  exact h v h' tk hP hk'
theorem min_core (hc : X.calm = true) (hu : X.A.units + 65 < cLine) {pins : List (Addr × Obj)} {s : Shared} {σ : L2.St} {Q : VK} {p : PV} {r : List PV} {x : V} {u : Value} (I : Inv X pins σ H s) (e : Ext F H) (rx : RelV x u) (hx : PR X.kw F H x (.lst (p :: r))) (hk : sortOk (p :: r) = true)
    (P : Post X.kw F H (.sh (minV p r)) Q) : wpAny (model X.prog X.w) X.A (call (.builtin "min") [u]) (EP X pins σ Q) X.xe s := by
  obtain ⟨a, xs, rfl, s1, r1⟩ := hx.lst e
  cases rx
  obtain ⟨its, rv, pl, hz⟩ := I.list (SqL.of s1)
  unfold sortOk at hk
  obtain ⟨hk, k4⟩ := and_tt hk
  obtain ⟨hk, k3⟩ := and_tt hk
  obtain ⟨k1, k2⟩ := and_tt hk
  have hp : ∀ q ∈ p :: r, plainD 19 q = true := all_plain k3
  have hself : ∀ q ∈ p :: r, alk q q = true := List.all_eq_true.mp k2
  have hal := alikeL_all k1 hself
  obtain ⟨E1, E2⟩ := each_reads I e hp rv r1
  obtain ⟨as, hr⟩ := PySem.W.each_readsAll dat E1
  have ha : PySem.W.AlikeAll ((p :: r).map dat) := by
    refine ⟨fun d hd d' hd' => ?_, fun d hd => ?_⟩
    · obtain ⟨q, hq, rfl⟩ := List.mem_map.mp hd
      obtain ⟨q', hq', rfl⟩ := List.mem_map.mp hd'
      rw [alike_dat 19 19 q q' (hp q hq) (hp q' hq')]
      exact hal q hq q' hq'
    · obtain ⟨q, hq, rfl⟩ := List.mem_map.mp hd
      have hn := List.all_eq_true.mp k4 q hq
      have hs := hself q hq
      intro hd
      cases q <;> first | (cases hn; done) | (cases hs; done) | (simp [dat] at hd)
  have hdp : PyData.depthAll ((p :: r).map dat) ≤ 20 := by
    have h := depth_dat 20 (.lst (p :: r)) k3
    rw [← datL_map]
    simp only [dat, PyData.depth] at h
    omega
  rw [List.map_cons] at hr ha hdp
  refine min_at (I.ok.hd hc) pl.isList (x := dat p) (xs := r.map dat) hr ha (by omega) fun v h' tk hv kp => ?_
  have gd : ∀ i, (dat p :: r.map dat).getD i .none = dat ((p :: r).getD i .non) := fun i => by
    rw [← List.map_cons, List.getD_eq_getElem?_getD, List.getD_eq_getElem?_getD, List.getElem?_map]
    cases (p :: r)[i]? <;> rfl
  have hat : ∀ i, i ≤ r.length → (p :: r).getD i .non ∈ p :: r := fun i hi => by
    rw [List.getD_eq_getElem?_getD, List.getElem?_eq_getElem (show i < (p :: r).length by rw [List.length_cons]; omega)]
    exact List.getElem_mem _
  rw [List.length_map] at hv
  obtain ⟨g1, g2⟩ := argBest_same (f := fun i j => PySem.W.dataLt ((dat p :: r.map dat).getD i .none) ((dat p :: r.map dat).getD j .none)) (g := fun i j => ltv ((p :: r).getD i .non) ((p :: r).getD j .non)) r.length (fun i j hi hj => by
    show PySem.W.dataLt _ _ = ltv _ _
    rw [gd, gd]
    exact lt_dat 19 19 _ _ (hp _ (hat i hi)) (hp _ (hat j hj)) (hal _ (hat i hi) _ (hat j hj)))
  have g3 := (PySem.W.argBest_fold ltv PV.non p r r.length (Nat.le_refl _)).2
  rw [List.take_length, minV_fold] at g3
  rw [g1] at hv
  obtain ⟨b, hb, y, ry, rb⟩ := each_at E2 _ v (by rw [← List.getElem?_toArray]; exact hv)
  have eb : b = minV p r := by
    rw [← g3, List.getD_eq_getElem?_getD, hb]; rfl
  rw [eb] at rb
  exact ⟨y, H, I.kept kp, ry, P.sh e rb⟩
theorem sorted_any (hu : X.A.units + 65 < cLine) {pins : List (Addr × Obj)} {s : Shared} {σ : L2.St} {Q : VK} {l : List PV} {u : Value} (I : Inv X pins σ H s) (e : Ext F H) (rx : RelV x u) (hx : PR X.kw F H x (.lst l)) (hk : sortOk l = true)
    (P : Post X.kw F H (.own (.lst (sortV l))) Q) : wpAny (model X.prog X.w) X.A (call (.builtin "sorted") [u]) (EP X pins σ Q) X.xe s := by
  obtain ⟨a, xs, rfl, s1, r1⟩ := hx.lst e
  cases rx
  obtain ⟨its, rv, pl, hz⟩ := I.list (SqL.of s1)
  exact sorted_core hu I e r1 rv hz (.inl pl.isList) hk P
theorem sorted_tup (hu : X.A.units + 65 < cLine) {pins : List (Addr × Obj)} {s : Shared} {σ : L2.St} {Q : VK} {l : List PV} {u : Value} (I : Inv X pins σ H s) (e : Ext F H) (rx : RelV x u) (hx : PR X.kw F H x (.tup l)) (hk : sortOk l = true)
    (P : Post X.kw F H (.own (.lst (sortV l))) Q) : wpAny (model X.prog X.w) X.A (call (.builtin "sorted") [u]) (EP X pins σ Q) X.xe s := by
  obtain ⟨a, xs, rfl, s1, r1⟩ := hx.tup
  cases rx
  obtain ⟨its, rv, pl, hz⟩ := I.tuple (e.seqT s1)
  exact sorted_core hu I e r1 rv hz (.inr pl) hk P
end
end Py

/-! Pv5: calls of built-ins, methods. -/
namespace Py
open PySem PySem.Spec PyProof.Rows L2
section
variable {X : Cx} {K : Frg} {F H : Hp} {x y : V} {p q : PV}

/-! ### int(text, 2) -/
namespace Bn
open PySem.NumText PySem.Calls
def IsBin (c : Nat) : Prop := c = 48 ∨ c = 49
def binNum (l : List Nat) : Nat := l.foldl (fun a c => a * 2 + (c - 48)) 0
theorem bin_hex {c : Nat} (h : IsBin c) : Hx.IsHex c := by
  unfold IsBin at h
  unfold Hx.IsHex
  omega
theorem bins_hex {cs : List Nat} (h : ∀ c ∈ cs, IsBin c) : ∀ c ∈ cs, Hx.IsHex c := fun c hc => bin_hex (h c hc)
theorem digit_bin {c : Nat} (h : IsBin c) : digit? c = some (c - 48) := by
  rcases h with rfl | rfl <;> rfl
theorem step_bin {ds : Array Nat} {b : Bool} {c : Nat} (h : IsBin c) : PySem.NumText.step 2 (ds, b) c = some (ds.push (c - 48), true) := by
  rcases h with rfl | rfl <;> rfl
theorem foldl_bin : ∀ (cs : List Nat) (ds : Array Nat), (∀ c ∈ cs, IsBin c) → cs.foldlM (PySem.NumText.step 2) (ds, true) = some (cs.foldl (fun acc c => acc.push (c - 48)) ds, true)
  | [], _, _ => rfl
  | c :: cs, ds, h => by
    rw [List.foldlM_cons, step_bin (h c List.mem_cons_self)]
    exact foldl_bin cs _ fun d hd => h d (List.mem_cons_of_mem _ hd)
theorem digits_bin {cs : List Nat} (h : ∀ c ∈ cs, IsBin c) (hne : cs ≠ []) : digits? 2 cs = some (cs.foldl (fun acc c => acc.push (c - 48)) #[]) := by
  match cs, h, hne with
  | c :: cs, h, _ =>
    unfold digits?
    rw [List.foldlM_cons, step_bin (h c List.mem_cons_self)]
    show (cs.foldlM (PySem.NumText.step 2) ((#[] : Array Nat).push (c - 48), true)).bind _ = _
    rw [foldl_bin cs _ fun d hd => h d (List.mem_cons_of_mem _ hd)]
    rfl
theorem push_bin : ∀ (cs : List Nat) (ds : Array Nat), (cs.foldl (fun acc c => acc.push (c - 48)) ds).foldl (fun acc d => acc * 2 + d) 0 = cs.foldl (fun a c => a * 2 + (c - 48)) (ds.foldl (fun acc d => acc * 2 + d) 0)
  | [], _ => rfl
  | c :: cs, ds => by
    rw [List.foldl_cons, push_bin cs (ds.push (c - 48)), List.foldl_cons]
    congr 1
    simp
theorem based_bin {cs : List Nat} (h : ∀ c ∈ cs, IsBin c) : based 2 cs = (2, false, cs) := by
  match cs, h with
  | [], _ => rfl
  | [a], h =>
    rcases h a List.mem_cons_self with rfl | rfl <;> rfl
  | a :: c :: r, h =>
    have hc := h c (List.mem_cons_of_mem _ List.mem_cons_self)
    rcases h a List.mem_cons_self with rfl | rfl
    · rcases hc with rfl | rfl <;> rfl
    · rfl
theorem read_bin {cs : List Nat} (h : ∀ c ∈ cs, IsBin c) (hne : cs ≠ []) : (int_private% "readNumeral") 0 2 cs = (int_private% "Numeral.value") ((binNum cs : Nat) : Int) := by
  have hr : ∀ c ∈ cs.reverse, IsBin c := fun c hc => h c (List.mem_reverse.mp hc)
  refine (readNumeral_eq 0 2 cs).trans ?_
  rw [Hx.dropB (bins_hex h), Hx.signH (bins_hex h)]
  show judge 0 false (based 2 cs).1 (based 2 cs).2.1 (digits? (based 2 cs).1 (((based 2 cs).2.2.reverse.dropWhile blank).reverse)) = _
  rw [based_bin h]
  show judge 0 false 2 false (digits? 2 ((cs.reverse.dropWhile blank).reverse)) = _
  rw [Hx.dropB (bins_hex hr), List.reverse_reverse, digits_bin h hne]
  show (int_private% "Numeral.value") (((cs.foldl (fun acc c => acc.push (c - 48)) (#[] : Array Nat)).foldl (fun acc d => acc * 2 + d) 0 : Nat) : Int) = _
  have z : (#[] : Array Nat).foldl (fun acc d => acc * 2 + d) 0 = 0 := by first | rfl | simp
  rw [push_bin, z] <;> rfl
set_option maxHeartbeats 4000000 in
theorem gives_bin {x : PySem.Str} {u t : Tok} (hl : x.length ≤ 640) (h : ∀ c ∈ x.cps.toList, IsBin c) (hne : x.cps.toList ≠ []) :
    Gives (Builtin.«int.__new__» ⟨[.type "int", .str x u, .int 2 t], []⟩) (.int ((binNum x.cps.toList : Nat) : Int)) :=
  .of_wp fun M A E s Q hQ => by
    obtain ⟨hp, g, d, tk, os⟩ := s
    have f1 := F.conv_sub_int
    have f2 := F.madeHere_int
    have f6 : typeOf (.str x u) = pure (.type "str") := rfl
    obtain ⟨e1, e2⟩ := Hx.seen_hex (bins_hex h)
    have hs : (numSeenOf x).length ≤ 640 := by
      rw [e2, Array.length_toList]
      exact hl
    have hr : (int_private% "readNumeral") 0 2 (numSeenOf x) = (int_private% "Numeral.value") ((binNum x.cps.toList : Nat) : Int) := by
      rw [e2]
      exact read_bin h hne
    have ha : ((numSeenOf x).length == (numTextOf x).length) = true := by
      rw [e1, e2]
      exact beq_self_eq_true _
    have hk := Hx.Hid.mk (And.intro hs (And.intro hr ha))
    clear hs hr ha e1 e2 hl hne h
    repeat (any_goals (first
      | assumption
      | ((with_reducible show wpAny _ _ ((int_private% "intFromText") _ _ _) _ _ _); refine Hx.wp_textB hk.out.1 hk.out.2.1 hk.out.2.2 ?_)
      | wp_step))
    all_goals first | exact ⟨_, rfl, hQ⟩ | skip
theorem call_bin {prog : Program} {w : World} {A : Around} {E : Value → Shared → Prop} {s : Shared} {Q : Value → Shared → Prop} {x : PySem.Str} {u t : Tok} (hl : x.length ≤ 640) (h : ∀ c ∈ x.cps.toList, IsBin c) (hne : x.cps.toList ≠ [])
    (hQ : Q (.int ((binNum x.cps.toList : Nat) : Int) s.toks) { s with toks := s.toks + 1 }) : wpAny (model prog w) A (call (.type "int") [.str x u, .int 2 t]) Q E s :=
  callType_new F.called_int F.newNe_int (Hx.typeCall_int_2 _ _) (Hx.newCall_int_2 _ _) (fun obj => F.initArgs_range_2 obj _ _) F.entry_int_new (gives_bin hl h hne).meets (show (Made.int ((binNum x.cps.toList : Nat) : Int)).post _ s from ⟨rfl, hQ⟩)
theorem bin0_eq : ∀ (l : List Nat) (n m : Nat), bin0 n l = some m → (∀ c ∈ l, IsBin c) ∧ l.foldl (fun a c => a * 2 + (c - 48)) n = m
  | [], n, m, h => ⟨(fun _ q => nomatch q), Option.some.inj h⟩
  | c :: r, n, m, h => by
    have h' : (if c = 48 then bin0 (2 * n) r else if c = 49 then bin0 (2 * n + 1) r else none) = some m := h
    by_cases c1 : c = 48
    · subst c1
      rw [if_pos rfl] at h'
      obtain ⟨g1, g2⟩ := bin0_eq r _ _ h'
      refine ⟨fun d hd => (List.mem_cons.mp hd).elim (fun e => .inl e) (g1 d), ?_⟩
      rw [List.foldl_cons, ← g2]
      congr 1
      omega
    · rw [if_neg c1] at h'
      by_cases c2 : c = 49
      · subst c2
        rw [if_pos rfl] at h'
        obtain ⟨g1, g2⟩ := bin0_eq r _ _ h'
        refine ⟨fun d hd => (List.mem_cons.mp hd).elim (fun e => .inr e) (g1 d), ?_⟩
        rw [List.foldl_cons, ← g2]
        congr 1
        omega
      · rw [if_neg c2] at h'; cases h'
end Bn

/-! ### isinstance -/
def tyName : Nat → String
  | 0 => "int"
  | 1 => "tuple"
  | 2 => "list"
  | 3 => "str"
  | 4 => "bool"
  | _ => "dict"
def kName : PV → String
  | .non => "NoneType"
  | .bl _ => "bool"
  | .int _ => "int"
  | .str _ => "str"
  | .tup _ => "tuple"
  | .lst _ => "list"
  | .scr _ => "list"
  | _ => "dict"
theorem PR.ty (e : Ext F H) (h : PR K F H x p) (hp : ∀ ks vs, p ≠ .dict true ks vs) (hq : ∀ l, p ≠ .set l) : TyX K.1 H x (.type (kName p)) := by
  cases p with
  | non => obtain rfl := h.non; exact .base .non
  | bl b => obtain rfl := h.bl; exact .base (.bl b)
  | int i => obtain rfl := h.int; exact .base (.int i)
  | str s => obtain ⟨rfl, _⟩ := h.str; exact .base (.str _)
  | tup l =>
    obtain ⟨a, xs, rfl, s, r⟩ := h.tup
    rcases s with (s | ⟨o, s⟩) | ⟨o, its, n, s1, s2, _⟩
    · exact .base (.tup (e _ _ s))
    · exact .fTuple (e _ _ s)
    · exact .kTuple s1 s2
  | lst l =>
    obtain ⟨a, xs, rfl, s, r⟩ := h.lst e
    exact .base (.lst s)
  | scr l =>
    obtain ⟨a, rfl, s⟩ := h.scr
    rcases s with (s | ⟨o, s⟩) | ⟨o, its, n, s1, s2, _⟩
    · exact .base (.lst (e _ _ s))
    · exact .base (.frz (e _ _ s))
    · exact .kList s1 s2
  | dict t ks vs =>
    cases t with
    | false =>
      obtain ⟨a, xs, rfl, s, r⟩ := h.dic e
      obtain ⟨_, kvs, s, _⟩ := s
      exact .base (.dK s)
    | true => exact absurd rfl (hp ks vs)
  | set l => exact absurd rfl (hq l)
theorem kit_all (t : Nat) (ht : t < 5) (p : PV) : kitB (kName p) (tyName t) = some (isA t p) := by
  have h5 : t = 0 ∨ t = 1 ∨ t = 2 ∨ t = 3 ∨ t = 4 := by omega
  cases p with
  | set b => rcases h5 with rfl | rfl | rfl | rfl | rfl <;> (show kitB "dict" _ = _; (first | (show _ = some false; decide +kernel) | (show _ = some true; decide +kernel)))
  | non => rcases h5 with rfl | rfl | rfl | rfl | rfl <;> (show kitB "NoneType" _ = _; decide +kernel)
  | bl b => rcases h5 with rfl | rfl | rfl | rfl | rfl <;> (show kitB "bool" _ = _; (first | (show _ = some false; decide +kernel) | (show _ = some true; decide +kernel)))
  | int b => rcases h5 with rfl | rfl | rfl | rfl | rfl <;> (show kitB "int" _ = _; (first | (show _ = some false; decide +kernel) | (show _ = some true; decide +kernel)))
  | str b => rcases h5 with rfl | rfl | rfl | rfl | rfl <;> (show kitB "str" _ = _; (first | (show _ = some false; decide +kernel) | (show _ = some true; decide +kernel)))
  | tup b => rcases h5 with rfl | rfl | rfl | rfl | rfl <;> (show kitB "tuple" _ = _; (first | (show _ = some false; decide +kernel) | (show _ = some true; decide +kernel)))
  | dict b c d => rcases h5 with rfl | rfl | rfl | rfl | rfl <;> (show kitB "dict" _ = _; (first | (show _ = some false; decide +kernel) | (show _ = some true; decide +kernel)))
  | lst b => rcases h5 with rfl | rfl | rfl | rfl | rfl <;> (show kitB "list" _ = _; (first | (show _ = some false; decide +kernel) | (show _ = some true; decide +kernel)))
  | scr b => rcases h5 with rfl | rfl | rfl | rfl | rfl <;> (show kitB "list" _ = _; (first | (show _ = some false; decide +kernel) | (show _ = some true; decide +kernel)))

/-! ### the calls -/
theorem Ent.refs : ∀ {ks : List PV} {bs ys : List V} {xs : Xs}, Ent ks bs ys xs → bs = (xs.map fun x => x.2.1).map V.ref
  | _, _, _, _, .nil => rfl
  | _, _, _, _, .cons _ t => by rw [List.map_cons, List.map_cons, ← Ent.refs t]
theorem call_list_dcT (hc : X.calm = true) : CallR X (.type "list") (fun xs H Q => ∃ d ks bs ys, xs = [V.ref d] ∧ DicT X.w H d true ks bs ys ∧ ks.length ≤ 16777216 ∧ ∀ p, H p = none → Q (.ref p) (upd H p (.lst bs))) := by
  intro pins s σ H xs us Q I r h
  obtain ⟨d, ks, bs, ys, rfl, ⟨_, en, h1, h2, h3, h4⟩, hle, q⟩ := h
  obtain ⟨u, rfl, rx⟩ := r.one
  cases rx
  obtain ⟨⟨hs, o, es, ep, ho, hx, hdt, he⟩, _, _⟩ := (show ObjOk X.prog X.w H s.heap d (.ext (dEx d X.w en)) from I.hok d _ h1)
  have hl := h2.len
  have l1 : es.size = en.length := by rw [← Array.length_toList, he, List.length_map]
  have hsz : sizeLine = 16777216 := sizeLine_eq
  refine PySem.W.kdl_call (kdl_raw hs hx hdt) (I.ok.hd hc) ho (by omega) fun h' tk acc' c' kp e it => ?_
  have ea : acc'.toList = en.map fun x => Value.ref x.2.1 := by
    refine List.ext_getElem? fun j => ?_
    have hlen : acc'.toList.length = en.length := by rw [Array.length_toList, it.1]; exact l1
    cases hj : acc'.toList[j]? with
    | none => rw [List.getElem?_eq_none (by rw [List.length_map, ← hlen]; exact List.getElem?_eq_none_iff.mp hj)]
    | some v =>
      obtain ⟨ee, hen, hv⟩ := it.2 j v (by rw [← Array.getElem?_toList]; exact hj)
      rw [← Array.getElem?_toList, he, List.getElem?_map] at hen
      obtain ⟨b, hb, hb2⟩ := Option.map_eq_some_iff.mp hen
      rw [List.getElem?_map, hb, hv, ← hb2]
      rfl
  have rv : Vals bs acc'.toList := by
    rw [h2.refs, ea, show (en.map fun x => Value.ref x.2.1) = (en.map fun x => x.2.1).map Value.ref by rw [List.map_map]; rfl]
    exact vals_refs _
  have hbl : bs.length = ks.length := by rw [h2.refs, List.length_map, List.length_map]; exact hl
  refine ⟨.ref s.heap.objs.size, _, I.laid (t' := tk) (o := .lst bs) kp (Nat.le_refl _) ?_, rfl, q _ (I.hok.fresh (Nat.le_refl _))⟩
  exact ⟨by omega, acc'.toList, c', rv, by rw [Array.toArray_toList]; exact e⟩
def rdN (K : Frg) (d : List PV → Option Res) : List V → Hp → VK → Prop := fun xs H Q => ∃ F ps res, Ext F H ∧ PRL K F H xs ps ∧ d ps = some res ∧ Post K F H res Q
theorem prl0 {xs : List V} (h : PRL K F H xs []) : xs = [] := by cases h; rfl
theorem prl1 {xs : List V} (h : PRL K F H xs [p]) : ∃ x, xs = [x] ∧ PR K F H x p := by
  cases h with | cons r t => cases t; exact ⟨_, rfl, r⟩
theorem prl2 {xs : List V} (h : PRL K F H xs [p, q]) : ∃ x y, xs = [x, y] ∧ PR K F H x p ∧ PR K F H y q := by
  cases h with | cons r t => cases t with | cons r2 t => cases t; exact ⟨_, _, rfl, r, r2⟩
/-- a built-in function's name, a type's name -/
inductive BName where
  | fn (n : String)
  | ty (n : String)
def bname : Blt → BName
  | .len => .fn "len"
  | .abs => .fn "abs"
  | .int => .ty "int"
  | .intb => .ty "int"
  | .str => .ty "str"
  | .min => .fn "min"
  | .max => .fn "max"
  | .sum => .fn "sum"
  | .sorted => .fn "sorted"
  | .tuple => .ty "tuple"
  | .list => .ty "list"
  | .all => .fn "all"
  | .any => .fn "any"
  | .bool => .ty "bool"
  | .isi _ => .fn "isinstance"
  | .lrng => .ty "list"
def bval (b : Blt) : Value := match bname b with
  | .fn n => .builtin n
  | .ty n => .type n
theorem digit_int : ∀ c : Nat, 48 ≤ c ∧ c ≤ 57 → PySem.intText? (strP [c]) = some ((c - 48 : Nat) : Int) := by
  intro c h
  have h10 : c = 48 ∨ c = 49 ∨ c = 50 ∨ c = 51 ∨ c = 52 ∨ c = 53 ∨ c = 54 ∨ c = 55 ∨ c = 56 ∨ c = 57 := by omega
  rcases h10 with rfl | rfl | rfl | rfl | rfl | rfl | rfl | rfl | rfl | rfl <;> decide +kernel
theorem digit_str : ∀ i : Int, 0 ≤ i ∧ i ≤ 9 → Str.ofString (toString i) = strP [48 + i.toNat] := by
  intro i h
  have h10 : i = 0 ∨ i = 1 ∨ i = 2 ∨ i = 3 ∨ i = 4 ∨ i = 5 ∨ i = 6 ∨ i = 7 ∨ i = 8 ∨ i = 9 := by omega
  rcases h10 with rfl | rfl | rfl | rfl | rfl | rfl | rfl | rfl | rfl | rfl <;> decide +kernel
theorem call_any (hu : X.A.units + 65 < cLine) (hc : X.calm = true) (b : Blt) (hb : spB b = false) : CallR X (bval b) (rdN X.kw (bi1 b)) := by
  intro pins s σ H xs us Q I r h
  obtain ⟨F, ps, res, e, hp, hd, P⟩ := h
  cases b with
  | isi ts => cases hb
  | lrng => cases hb
  | len =>
    match ps, hp, hd with
    | [.lst l], hp, hd =>
      obtain ⟨x, rfl, hx⟩ := prl1 hp
      obtain ⟨a, ys, rfl, s1, r1⟩ := hx.lst e
      obtain rfl := Option.some.inj hd
      exact call_len pins s σ H _ us Q I r ⟨_, l.length, rfl, .inl ⟨ys, SqL.of s1, r1.length.symm⟩, P.sh e (.int _)⟩
    | [.tup l], hp, hd =>
      obtain ⟨x, rfl, hx⟩ := prl1 hp
      obtain ⟨a, ys, rfl, s1, r1⟩ := hx.tup
      obtain rfl := Option.some.inj hd
      exact call_len pins s σ H _ us Q I r ⟨_, l.length, rfl, .inr ⟨ys, e.seqT s1, r1.length.symm⟩, P.sh e (.int _)⟩
    | [.str l], hp, hd =>
      obtain ⟨x, rfl, hx⟩ := prl1 hp
      obtain ⟨rfl, o⟩ := hx.str
      obtain rfl := Option.some.inj hd
      exact call_len pins s σ H _ us Q I r ⟨_, l.length, rfl, ⟨by rw [strP_length, ← line_eq]; exact o.1, (strP_length l).symm⟩, P.sh e (.int _)⟩
    | [.dict t ks vs], hp, hd =>
      obtain ⟨x, rfl, hx⟩ := prl1 hp
      obtain ⟨hle, rfl⟩ := ite_some (show (if decide (ks.length ≤ 16777216) = true then some (Res.sh (.int (ks.length : Nat))) else none) = some res from hd)
      have hle := of_decide_eq_true hle
      cases t with
      | true =>
        obtain ⟨a, bs, ys, rfl, ⟨_, xs, h1, h2, h3, h4⟩, r0, r1⟩ := hx.dct e
        obtain ⟨z, hm⟩ := dct_at I e h1 h2 h3 h4 r0
        obtain ⟨u, rfl, ru⟩ := vals1 r
        cases ru
        have hl := h2.len
        refine call_len_dictH z hm (by rw [hl]; omega) ⟨.int (xs.length : Nat), H, I.tok _, ⟨_, rfl⟩, by rw [hl]; exact P.sh e (.int _)⟩
      | false =>
        obtain ⟨a, xs, rfl, s1, r1⟩ := hx.dic e
        obtain ⟨_, kvs, h1, h2, rfl⟩ := s1
        obtain ⟨u, rfl, ru⟩ := vals1 r
        cases ru
        have hl : kvs.length = ks.length := by simpa using congrArg List.length h2
        exact d_len I (.inl h1) fun t s' I' => ⟨.int (kvs.length : Nat), H, I', ⟨t, rfl⟩, by rw [hl]; exact P.sh e (.int _)⟩
    | [.scr l], hp, hd =>
      obtain ⟨x, rfl, hx⟩ := prl1 hp
      obtain ⟨a, rfl, s1⟩ := hx.scr
      obtain rfl := Option.some.inj hd
      exact call_len pins s σ H _ us Q I r ⟨_, l.length, rfl, .inl ⟨_, e.seqL s1, by simp⟩, P.sh e (.int _)⟩
  | abs =>
    match ps, hp, hd with
    | [.int i], hp, hd =>
      obtain ⟨x, rfl, hx⟩ := prl1 hp
      obtain rfl := hx.int
      obtain rfl := Option.some.inj hd
      exact call_abs pins s σ H _ us Q I r ⟨i, rfl, P.sh e (.int _)⟩
  | int =>
    match ps, hp, hd with
    | [.int i], hp, hd =>
      obtain ⟨x, rfl, hx⟩ := prl1 hp
      obtain rfl := hx.int
      obtain rfl := Option.some.inj hd
      exact call_int1 pins s σ H _ us Q I r (.inl ⟨i, rfl, P.sh e (.int _)⟩)
    | [.bl k], hp, hd =>
      obtain ⟨x, rfl, hx⟩ := prl1 hp
      obtain rfl := hx.bl
      obtain rfl := Option.some.inj hd
      refine call_int1 pins s σ H _ us Q I r (.inr ⟨k, rfl, ?_⟩)
      cases k <;> exact P.sh e (.int _)
    | [.str [c]], hp, hd =>
      obtain ⟨x, rfl, hx⟩ := prl1 hp
      obtain ⟨rfl, o⟩ := hx.str
      have hd' : (if 48 ≤ c ∧ c ≤ 57 then some (Res.sh (.int (c - 48 : Nat))) else none) = some res := hd
      by_cases hq : 48 ≤ c ∧ c ≤ 57
      · rw [if_pos hq] at hd'
        obtain rfl := Option.some.inj hd'
        exact call_int_str pins s σ H _ us Q I r ⟨_, _, rfl, digit_int c hq, by rw [strP_length]; show 1 ≤ 640; decide, P.sh e (.int _)⟩
      · rw [if_neg hq] at hd'; cases hd'
  | intb =>
    match ps, hp, hd with
    | [.str l, .int (2 : Nat)], hp, hd =>
      obtain ⟨x, y, rfl, hx, hy⟩ := prl2 hp
      obtain ⟨rfl, o⟩ := hx.str
      obtain rfl := hy.int
      have hd' : (if l.length ≤ 640 then (binOf l).map (fun (n : Nat) => Res.sh (.int (n : Int))) else none) = some res := hd
      by_cases hl : l.length ≤ 640
      · rw [if_pos hl] at hd'
        obtain ⟨n, hn, rfl⟩ : ∃ n : Nat, binOf l = some n ∧ Res.sh (.int (n : Int)) = res := opt_map hd'
        unfold binOf at hn
        cases l with
        | nil => cases hn
        | cons c l =>
          obtain ⟨g1, g2⟩ := Bn.bin0_eq (c :: l) 0 n hn
          obtain ⟨u1, u2, rfl, q1, q2⟩ := vals2 r
          obtain ⟨t1, rfl⟩ := q1
          obtain ⟨t2, rfl⟩ := q2
          have e1 : (strP (c :: l)).cps.toList = c :: l := by simp [strP]
          have e2 : Bn.binNum (strP (c :: l)).cps.toList = n := by rw [e1]; exact g2
          refine Bn.call_bin (x := strP (c :: l)) (by rw [strP_length]; exact hl) (by rw [e1]; exact g1) (by rw [e1]; simp) ?_
          rw [e2]
          exact ⟨.int n, H, I.tok _, ⟨_, rfl⟩, P.sh e (.int _)⟩
      · rw [if_neg hl] at hd'; cases hd'
  | str =>
    match ps, hp, hd with
    | [.int i], hp, hd =>
      obtain ⟨x, rfl, hx⟩ := prl1 hp
      obtain rfl := hx.int
      have hd' : (if 0 ≤ i ∧ i ≤ 9 then some (Res.sh (.str [48 + i.toNat])) else none) = some res := hd
      by_cases hq : 0 ≤ i ∧ i ≤ 9
      · rw [if_pos hq] at hd'
        obtain rfl := Option.some.inj hd'
        refine call_str_int pins s σ H _ us Q I r ⟨i, rfl, ?_, ?_⟩
        · have : i.natAbs ≤ 9 := by omega
          have h2 : i.natAbs.log2 ≤ i.natAbs := by
            by_cases hz : i.natAbs = 0
            · rw [hz]; decide
            · exact Nat.le_trans (Nat.le_of_lt Nat.lt_two_pow_self) (Nat.log2_self_le hz)
          omega
        · rw [digit_str i hq]
          refine P.sh e (.str _ ⟨by show 1 ≤ 16777216; decide, fun c hc => ?_⟩)
          obtain rfl : c = 48 + i.toNat := by simpa using hc
          omega
      · rw [if_neg hq] at hd'; cases hd'
  | min =>
    match ps, hp, hd with
    | [.int i, .int j], hp, hd =>
      obtain ⟨x, y, rfl, hx, hy⟩ := prl2 hp
      obtain rfl := hx.int
      obtain rfl := hy.int
      obtain rfl := Option.some.inj hd
      exact call_min2 hc pins s σ H _ us Q I r ⟨i, j, rfl, P.sh e (.int _)⟩
    | [.lst l], hp, hd =>
      obtain ⟨x, rfl, hx⟩ := prl1 hp
      have hd' : (match intsOf l with | some (i :: r) => some (Res.sh (.int (minI i r))) | some [] => none | none => minT l) = some res := hd
      cases hi : intsOf l with
      | none =>
        rw [hi] at hd'
        have hd' : minT l = some res := hd'
        cases l with
        | nil => cases hd'
        | cons p q =>
          have hd' : (if sortOk (p :: q) = true then some (Res.sh (minV p q)) else none) = some res := hd'
          obtain ⟨hq, rfl⟩ := ite_some hd'
          obtain ⟨u, rfl, ru⟩ := vals1 r
          exact min_core hc hu I e ru hx hq P
      | some is =>
        cases is with
        | nil => rw [hi] at hd'; cases hd'
        | cons i is =>
          rw [hi] at hd'
          obtain ⟨a, ys, rfl, s1, r1⟩ := hx.lst e
          obtain rfl := Option.some.inj hd'
          obtain rfl := intsOf_eq hi
          have hv := r1.vints
          subst hv
          refine cr_min hc pins s σ H _ us Q I r ⟨a, i :: is, rfl, SqL.of s1, Nat.succ_pos _, fun m hm hle => ?_⟩
          have em : m = minI i is := by
            obtain ⟨g1, g2⟩ := minI_le is i
            have g3 : minI i is ∈ i :: is := by
              rcases minI_mem is i with q | q
              · rw [q]; exact List.mem_cons_self
              · exact List.mem_cons_of_mem _ q
            have g4 := hle _ g3
            have g5 : minI i is ≤ m := (List.mem_cons.mp hm).elim (fun e => by rw [e]; exact g1) (g2 m)
            omega
          rw [em]
          exact P.sh e (.int _)
  | max =>
    match ps, hp, hd with
    | [.int i, .int j], hp, hd =>
      obtain ⟨x, y, rfl, hx, hy⟩ := prl2 hp
      obtain rfl := hx.int
      obtain rfl := hy.int
      obtain rfl := Option.some.inj hd
      exact call_max2 hc pins s σ H _ us Q I r ⟨i, j, rfl, P.sh e (.int _)⟩
    | [.lst l], hp, hd =>
      obtain ⟨x, rfl, hx⟩ := prl1 hp
      obtain ⟨a, ys, rfl, s1, r1⟩ := hx.lst e
      have hd' : (match intsOf l with | some (i :: r) => some (Res.sh (.int (maxI i r))) | _ => none) = some res := hd
      cases hi : intsOf l with
      | none => rw [hi] at hd'; cases hd'
      | some is =>
        cases is with
        | nil => rw [hi] at hd'; cases hd'
        | cons i is =>
          rw [hi] at hd'
          obtain rfl := Option.some.inj hd'
          obtain rfl := intsOf_eq hi
          have hv := r1.vints
          subst hv
          refine cr_max hc pins s σ H _ us Q I r ⟨a, i :: is, rfl, SqL.of s1, Nat.succ_pos _, fun m hm hle => ?_⟩
          have em : m = maxI i is := by
            obtain ⟨g1, g2⟩ := maxI_le is i
            have g3 : maxI i is ∈ i :: is := by
              rcases maxI_mem is i with q | q
              · rw [q]; exact List.mem_cons_self
              · exact List.mem_cons_of_mem _ q
            have g4 := hle _ g3
            have g5 : m ≤ maxI i is := (List.mem_cons.mp hm).elim (fun e => by rw [e]; exact g1) (g2 m)
            omega
          rw [em]
          exact P.sh e (.int _)
  | sum =>
    match ps, hp, hd with
    | [.lst l], hp, hd =>
      obtain ⟨x, rfl, hx⟩ := prl1 hp
      obtain ⟨a, ys, rfl, s1, r1⟩ := hx.lst e
      obtain ⟨is, hi, rfl⟩ := opt_map (show (intsOf l).map (fun is => Res.sh (.int is.sum)) = some res from hd)
      obtain rfl := intsOf_eq hi
      have hv := r1.vints
      subst hv
      exact cr_sum hc pins s σ H _ us Q I r ⟨a, is, rfl, SqL.of s1, P.sh e (.int _)⟩
  | sorted =>
    match ps, hp, hd with
    | [.lst l], hp, hd =>
      obtain ⟨x, rfl, hx⟩ := prl1 hp
      have hd' : (if sortOk l = true then some (Res.own (.lst (sortV l))) else none) = some res := hd
      obtain ⟨hk, rfl⟩ := ite_some hd'
      obtain ⟨u, rfl, ru⟩ := vals1 r
      exact sorted_any hu I e ru hx hk P
    | [.tup l], hp, hd =>
      obtain ⟨x, rfl, hx⟩ := prl1 hp
      have hd' : (if sortOk l = true then some (Res.own (.lst (sortV l))) else none) = some res := hd
      obtain ⟨hk, rfl⟩ := ite_some hd'
      obtain ⟨u, rfl, ru⟩ := vals1 r
      exact sorted_tup hu I e ru hx hk P
  | tuple =>
    match ps, hp, hd with
    | [.lst l], hp, hd =>
      obtain ⟨x, rfl, hx⟩ := prl1 hp
      obtain ⟨a, ys, rfl, s1, r1⟩ := hx.lst e
      obtain rfl := Option.some.inj hd
      exact call_tuple_of pins s σ H _ us Q I r ⟨a, ys, rfl, .inl ⟨SqL.of s1, fun p n => P.newT e r1 n⟩⟩
    | [.tup l], hp, hd =>
      obtain ⟨x, rfl, hx⟩ := prl1 hp
      obtain ⟨a, ys, rfl, s1, r1⟩ := hx.tup
      obtain rfl := Option.some.inj hd
      exact call_tuple_of pins s σ H _ us Q I r ⟨a, ys, rfl, .inr ⟨e.seqT s1, P.sh e (.tup s1 r1)⟩⟩
  | list =>
    match ps, hp, hd with
    | [.lst l], hp, hd =>
      obtain ⟨x, rfl, hx⟩ := prl1 hp
      obtain ⟨a, ys, rfl, s1, r1⟩ := hx.lst e
      obtain rfl := Option.some.inj hd
      exact call_list_of pins s σ H _ us Q I r ⟨a, ys, rfl, .inl (SqL.of s1), fun p n => P.newL e r1 n⟩
    | [.tup l], hp, hd =>
      obtain ⟨x, rfl, hx⟩ := prl1 hp
      obtain ⟨a, ys, rfl, s1, r1⟩ := hx.tup
      obtain rfl := Option.some.inj hd
      exact call_list_of pins s σ H _ us Q I r ⟨a, ys, rfl, .inr (e.seqT s1), fun p n => P.newL e r1 n⟩
    | [.dict t ks vs], hp, hd =>
      obtain ⟨x, rfl, hx⟩ := prl1 hp
      obtain ⟨hle, rfl⟩ := ite_some (show (if decide (ks.length ≤ 16777216) = true then some (Res.own (.lst ks)) else none) = some res from hd)
      have hle := of_decide_eq_true hle
      cases t with
      | true =>
        obtain ⟨a, bs, ys, rfl, D, r0, r1⟩ := hx.dct e
        exact call_list_dcT hc pins s σ H _ us Q I r ⟨a, ks, bs, ys, rfl, D, hle, fun q n => P.newL e r0 n⟩
      | false =>
        obtain ⟨a, xs, rfl, s1, r1⟩ := hx.dic e
        obtain ⟨_, kvs, h1, h2, rfl⟩ := s1
        exact call_list_dK hc pins s σ H _ us Q I r ⟨a, kvs, rfl, h1, fun q n => P.newL e (repl_keys ks kvs h2) n⟩
    | [.scr l], hp, hd =>
      obtain ⟨x, rfl, hx⟩ := prl1 hp
      obtain ⟨a, rfl, s1⟩ := hx.scr
      obtain rfl := Option.some.inj hd
      exact call_list_of pins s σ H _ us Q I r ⟨a, _, rfl, .inl (e.seqL s1), fun p n => P.newL e (RepL.ints l) n⟩
  | all =>
    match ps, hp, hd with
    | [.lst l], hp, hd =>
      obtain ⟨x, rfl, hx⟩ := prl1 hp
      obtain ⟨a, ys, rfl, s1, r1⟩ := hx.lst e
      obtain ⟨is, hi, rfl⟩ := opt_map (show (blsOf l).map (fun bs => Res.sh (.bl (bs.all id))) = some res from hd)
      obtain rfl := blsOf_eq hi
      have hv := r1.vbls
      subst hv
      exact cr_all hc pins s σ H _ us Q I r ⟨a, is, rfl, SqL.of s1, P.sh e (.bl _)⟩
  | any =>
    match ps, hp, hd with
    | [.lst l], hp, hd =>
      obtain ⟨x, rfl, hx⟩ := prl1 hp
      obtain ⟨a, ys, rfl, s1, r1⟩ := hx.lst e
      obtain ⟨is, hi, rfl⟩ := opt_map (show (blsOf l).map (fun bs => Res.sh (.bl (bs.any id))) = some res from hd)
      obtain rfl := blsOf_eq hi
      have hv := r1.vbls
      subst hv
      exact cr_any hc pins s σ H _ us Q I r ⟨a, is, rfl, SqL.of s1, P.sh e (.bl _)⟩
  | bool =>
    match ps, hp, hd with
    | [.int i], hp, hd =>
      obtain ⟨x, rfl, hx⟩ := prl1 hp
      obtain rfl := hx.int
      obtain rfl := Option.some.inj hd
      refine call_bool1 pins s σ H _ us Q I r (.inl ⟨i, rfl, ?_⟩)
      have : decide (i ≠ 0) = (i != 0) := by rw [bne, Bool.beq_eq_decide_eq, decide_not]
      rw [← this]
      exact P.sh e (.bl _)
    | [.bl k], hp, hd =>
      obtain ⟨x, rfl, hx⟩ := prl1 hp
      obtain rfl := hx.bl
      obtain rfl := Option.some.inj hd
      exact call_bool1 pins s σ H _ us Q I r (.inr ⟨k, rfl, P.sh e (.bl _)⟩)
end
end Py

/-! Pv6: expressions: one rule a form. -/
namespace Py
open PySem PySem.Spec PyProof.Rows L2

/-! ### readings -/
def tE (G : Gh) (f : Env → Option (R × Env)) : TE := fun σ H Q => ∃ ρ F r ρ', SOk G σ H ρ F ∧ f ρ = some (r, ρ') ∧ ∀ x H' F', SOk G σ H' ρ' F' → Ext F F' → RR G σ H' F' ρ' x r → Q x H'
def tA (G : Gh) (f : Env → Option (List R × Env)) : TA := fun σ H Q => ∃ ρ F rs ρ', SOk G σ H ρ F ∧ f ρ = some (rs, ρ') ∧ ∀ xs H' F', SOk G σ H' ρ' F' → Ext F F' → WRL G.K σ F' xs rs → Q xs H'
def tB (G : Gh) (f : Env → Option (Bool × Env)) : TT := fun σ H Q => ∃ ρ F b ρ', SOk G σ H ρ F ∧ f ρ = some (b, ρ') ∧ ∀ H' F', SOk G σ H' ρ' F' → Ext F F' → Q b H'
def tP (G : Gh) (f : Env → Option (Option Int × Env)) : TO := fun σ H Q => ∃ ρ F b ρ', SOk G σ H ρ F ∧ f ρ = some (b, ρ') ∧ ∀ H' F', SOk G σ H' ρ' F' → Ext F F' → Q b H'
section
variable {X : Cx} {G : Gh} {σ : L2.St} {H H' : Hp} {ρ ρ' : Env} {F F' : Hp} {e : Expr}
theorem pe_weak {t t' : TE} (h : PE X e t) (hw : ∀ σ H Q, t' σ H Q → t σ H Q) : PE X e t' := ⟨fun pins s σ H Q I w => h.run pins s σ H Q I (hw σ H Q w)⟩
theorem pt_weak {t t' : TT} (h : PT X e t) (hw : ∀ σ H Q, t' σ H Q → t σ H Q) : PT X e t' := ⟨fun pins s σ H Q I w => h.run pins s σ H Q I (hw σ H Q w)⟩
theorem pa_weak {es : List Expr} {t t' : TA} (h : PA X es t) (hw : ∀ σ H Q, t' σ H Q → t σ H Q) : PA X es t' := ⟨fun pos pins s σ H Q I w => h.run pos pins s σ H Q I (hw σ H Q w)⟩
theorem pe_as {f g : Env → Option (R × Env)} (h : PE X e (tE G f)) (eq : ∀ ρ, g ρ = f ρ) : PE X e (tE G g) := by
  rw [show g = f from funext eq]; exact h
theorem pa_as {es : List Expr} {f g : Env → Option (List R × Env)} (h : PA X es (tA G f)) (eq : ∀ ρ, g ρ = f ρ) : PA X es (tA G g) := by
  rw [show g = f from funext eq]; exact h
theorem pt_as {f g : Env → Option (Bool × Env)} (h : PT X e (tB G f)) (eq : ∀ ρ, g ρ = f ρ) : PT X e (tB G g) := by
  rw [show g = f from funext eq]; exact h
theorem SOk.new (S : SOk G σ H ρ F) {a : Addr} (n : H a = none) : G.H0 a = none ∧ G.io ≠ some a ∧ ∀ i w, slotAt ρ i = .own w → σ[i]? ≠ some (some (.ref a)) := by
  have hio : G.io ≠ some a := fun z => by
    obtain ⟨_, o, ho⟩ := S.pin a z
    rw [n] at ho; cases ho
  refine ⟨?_, hio, fun i w q z => ?_⟩
  · cases q : G.H0 a with
    | none => rfl
    | some o =>
      have := S.keep a o q hio
      rw [n] at this; cases this
  · obtain ⟨b, h1, _, h3, _⟩ := S.own i w q
    rw [z] at h1
    obtain rfl : a = b := by simpa using h1
    obtain ⟨o, ho⟩ := h3.there
    rw [n] at ho; cases ho
theorem SOk.grow (S : SOk G σ H ρ F) (e1 : Ext H H') (e2 : Ext F F') (e3 : Ext F' H') (e4 : ∀ a o, H a = some o → F' a = F a) : SOk G σ H' ρ F' where
  len := S.len
  sub := e3
  keep := fun a o h1 h2 => e1 _ _ (S.keep a o h1 h2)
  sh := fun i v q => by
    obtain ⟨x, h1, h2⟩ := S.sh i v q
    exact ⟨x, h1, h2.mono e2 _ _⟩
  own := fun i v q => by
    obtain ⟨a, h1, h2, h3, h4⟩ := S.own i v q
    obtain ⟨o, ho⟩ := h3.there
    exact ⟨a, h1, by rw [e4 a o ho]; exact h2, h3.mono e2 (by rw [ho]; exact e1 _ _ ho), h4⟩
  sep := S.sep
  pin := fun a h => by
    obtain ⟨h1, o, ho⟩ := S.pin a h
    exact ⟨h1, o, e1 _ _ ho⟩
  old := fun a o h1 h2 => by rw [e4 a o (S.keep a o h1 h2)]; exact S.old a o h1 h2
/-- what an operation hands on -/
theorem Post.mk {res : Res} {Q : VK} (S : SOk G σ H ρ F) (h : ∀ x H' F', SOk G σ H' ρ F' → Ext F F' → RR G σ H' F' ρ x res.r → Q x H') : Post G.K F H res Q := by
  intro x H' F' e1 e2 e3 e4 hr
  refine h x H' F' (S.grow e1 e2 e3 e4) e2 ?_
  cases res with
  | sh v => exact hr
  | own v =>
    obtain ⟨a, rfl, n, h1, h2⟩ := hr
    obtain ⟨g1, g2, g3⟩ := S.new n
    exact ⟨a, rfl, h1, h2, g1, g2, g3⟩

/-! ### names, constants -/
theorem e_var {i : Nat} {x : Str} {pos : Pos} (hN : X.N[i]? = some x) (hv : Vis X.env.scope x) (hd : (x == ("__debug__" : Str)) = false) (hcd : (x == ("__classdict__" : Str)) = false) (Φ : Tab) : PE X (.Name x pos) (tE G (ev Φ (.var i))) := by
  refine pe_weak (pe_var hN hv hd hcd) fun σ H Q ⟨ρ, F, r, ρ', S, q, h⟩ => ?_
  have q' : (match slotAt ρ i with | .none => none | .sh v => some (R.sh v, ρ) | .own _ => some (R.slot i, ρ)) = some (r, ρ') := q
  cases k : slotAt ρ i with
  | none => rw [k] at q'; cases q'
  | sh v =>
    rw [k] at q'
    obtain ⟨rfl, rfl⟩ : R.sh v = r ∧ ρ = ρ' := by simpa using q'
    obtain ⟨y, h1, h2⟩ := S.sh i v k
    exact ⟨y, h1, h y H F S (Ext.refl F) h2⟩
  | own v =>
    rw [k] at q'
    obtain ⟨rfl, rfl⟩ : R.slot i = r ∧ ρ = ρ' := by simpa using q'
    obtain ⟨a, h1, h2, h3, h4⟩ := S.own i v k
    exact ⟨.ref a, h1, h _ H F S (Ext.refl F) h1⟩
theorem e_con {v : PV} {x : V} {e : Expr} (h : PE X e (tC x)) (r : Rep G.K (fun _ => none) x v) (Φ : Tab) : PE X e (tE G (ev Φ (.con v))) := by
  refine pe_weak h fun σ H Q ⟨ρ, F, r', ρ', S, q, hq⟩ => ?_
  obtain ⟨rfl, rfl⟩ : R.sh v = r' ∧ ρ = ρ' := by
    have q' : some (R.sh v, ρ) = some (r', ρ') := q
    simpa using q'
  exact hq x H F S (Ext.refl F) (r.mono (fun _ _ z => by cases z) _ _)
theorem e_glob {g : Nat} {v : PV} {x : V} {e : Expr} {Φ : Tab} (hg : Φ.glob g = some v) (h : PE X e (tC x)) (r : Rep G.K (fun _ => none) x v) : PE X e (tE G (ev Φ (.glob g))) := by
  refine pe_as (e_con h r Φ) fun ρ => ?_
  show (match Φ.glob g with | none => none | some v => some (R.sh v, ρ)) = some (R.sh v, ρ)
  rw [hg]

/-! ### arguments -/
def isStar : Expr → Bool
  | .Starred _ _ => true
  | _ => false
theorem star_of {e : Expr} (h : isStar e = false) (es : List Expr) (env : PySem.Env) : starEach (e :: es) env = (false, eval e env) :: starEach es env := by
  cases e <;> first | rfl | cases h
theorem a_nil : PA X [] (tA G (fun ρ => some ([], ρ))) := by
  refine pa_weak pa_nil fun σ H Q ⟨ρ, F, rs, ρ', S, q, h⟩ => ?_
  obtain ⟨rfl, rfl⟩ : [] = rs ∧ ρ = ρ' := by simpa using q
  exact h [] H F S (Ext.refl F) .nil
theorem a_cons {e : Expr} {es : List Expr} {f : Env → Option (R × Env)} {g : Env → Option (List R × Env)} (he : PE X e (tE G f)) (hes : PA X es (tA G g)) (hs : isStar e = false) :
    PA X (e :: es) (tA G (fun ρ => match f ρ with
      | none => none
      | some (r, ρ1) => (match g ρ1 with | none => none | some (rs, ρ2) => some (wt r :: rs, ρ2)))) := by
  refine pa_weak (pa_cons he hes (star_of hs _ _)) fun σ H Q ⟨ρ, F, rs, ρ', S, q, h⟩ => ?_
  cases q1 : f ρ with
  | none => simp only [q1] at q; cases q
  | some p =>
    obtain ⟨r, ρ1⟩ := p
    simp only [q1] at q
    cases q2 : g ρ1 with
    | none => simp only [q2] at q; cases q
    | some p2 =>
      obtain ⟨rs', ρ2⟩ := p2
      simp only [q2] at q
      obtain ⟨rfl, rfl⟩ : wt r :: rs' = rs ∧ ρ2 = ρ' := by simpa using q
      refine ⟨ρ, F, r, ρ1, S, q1, fun x H1 F1 S1 e1 r1 => ?_⟩
      obtain ⟨F1', e1', S1', w1⟩ := r1.wait S1
      refine ⟨ρ1, F1', rs', ρ2, S1', q2, fun xs H2 F2 S2 e2 w2 => ?_⟩
      exact h (x :: xs) H2 F2 S2 (e1.trans (e1'.trans e2)) (.cons (w1.mono e2) w2)

/-! ### two operands -/
theorem e_two {a b : Expr} {fa fb : Env → Option (R × Env)} {d : PV → PV → Option Res} {e : Expr} (h : PE X e (tOp (rd2 G.K d) (tE G fa) (tE G fb))) :
    PE X e (tE G (fun ρ => match fa ρ with
      | none => none
      | some (ra, ρ1) => (match fb ρ1 with
        | none => none
        | some (rb, ρ2) => (match pk (wt ra) ρ2 with
          | none => none
          | some x => (match pk rb ρ2 with
            | none => none
            | some y => (match d x y with | none => none | some z => some (z.r, ρ2))))))) := by
  refine pe_weak h fun σ H Q ⟨ρ, F, r, ρ', S, q, h⟩ => ?_
  cases q1 : fa ρ with
  | none => simp only [q1] at q; cases q
  | some p =>
    obtain ⟨ra, ρ1⟩ := p
    simp only [q1] at q
    cases q2 : fb ρ1 with
    | none => simp only [q2] at q; cases q
    | some p2 =>
      obtain ⟨rb, ρ2⟩ := p2
      simp only [q2] at q
      cases q3 : pk (wt ra) ρ2 with
      | none => simp only [q3] at q; cases q
      | some px =>
        simp only [q3] at q
        cases q4 : pk rb ρ2 with
        | none => simp only [q4] at q; cases q
        | some py =>
          simp only [q4] at q
          cases q5 : d px py with
          | none => simp only [q5] at q; cases q
          | some z =>
            simp only [q5] at q
            obtain ⟨rfl, rfl⟩ : z.r = r ∧ ρ2 = ρ' := by simpa using q
            refine ⟨ρ, F, ra, ρ1, S, q1, fun x H1 F1 S1 e1 r1 => ?_⟩
            obtain ⟨F1', e1', S1', w1⟩ := r1.wait S1
            refine ⟨ρ1, F1', rb, ρ2, S1', q2, fun y H2 F2 S2 e2 r2 => ?_⟩
            exact ⟨F2, px, py, z, S2.sub, (WR.rr (w1.mono e2) : RR G σ H2 F2 ρ2 x (wt ra)).peek S2 q3, r2.peek S2 q4, q5, Post.mk S2 fun x' H' F' S' e' r' => h x' H' F' S' (e1.trans (e1'.trans (e2.trans e'))) r'⟩
theorem e_twoB {a b : Expr} {fa fb : Env → Option (R × Env)} {d : PV → PV → Option Bool} {e : Expr} (h : PE X e (tOp (rdB G.K d) (tE G fa) (tE G fb))) :
    PE X e (tE G (fun ρ => match fa ρ with
      | none => none
      | some (ra, ρ1) => (match fb ρ1 with
        | none => none
        | some (rb, ρ2) => (match pk (wt ra) ρ2 with
          | none => none
          | some x => (match pk rb ρ2 with
            | none => none
            | some y => (match d x y with | none => none | some k => some (.sh (.bl k), ρ2))))))) := by
  refine pe_weak h fun σ H Q ⟨ρ, F, r, ρ', S, q, h⟩ => ?_
  cases q1 : fa ρ with
  | none => simp only [q1] at q; cases q
  | some p =>
    obtain ⟨ra, ρ1⟩ := p
    simp only [q1] at q
    cases q2 : fb ρ1 with
    | none => simp only [q2] at q; cases q
    | some p2 =>
      obtain ⟨rb, ρ2⟩ := p2
      simp only [q2] at q
      cases q3 : pk (wt ra) ρ2 with
      | none => simp only [q3] at q; cases q
      | some px =>
        simp only [q3] at q
        cases q4 : pk rb ρ2 with
        | none => simp only [q4] at q; cases q
        | some py =>
          simp only [q4] at q
          cases q5 : d px py with
          | none => simp only [q5] at q; cases q
          | some z =>
            simp only [q5] at q
            obtain ⟨rfl, rfl⟩ : R.sh (.bl z) = r ∧ ρ2 = ρ' := by simpa using q
            refine ⟨ρ, F, ra, ρ1, S, q1, fun x H1 F1 S1 e1 r1 => ?_⟩
            obtain ⟨F1', e1', S1', w1⟩ := r1.wait S1
            refine ⟨ρ1, F1', rb, ρ2, S1', q2, fun y H2 F2 S2 e2 r2 => ?_⟩
            exact ⟨F2, px, py, z, S2.sub, (WR.rr (w1.mono e2) : RR G σ H2 F2 ρ2 x (wt ra)).peek S2 q3, r2.peek S2 q4, q5, h _ H2 F2 S2 (e1.trans (e1'.trans e2)) (.bl z)⟩
/-- one operand -/
theorem e_one {fa : Env → Option (R × Env)} {d : PV → Option Res} {e : Expr} (h : PE X e (fun σ H Q => tE G fa σ H fun x H1 => rd1 G.K d x H1 Q)) :
    PE X e (tE G (fun ρ => match fa ρ with
      | none => none
      | some (r, ρ1) => (match pk r ρ1 with | none => none | some x => (match d x with | none => none | some z => some (z.r, ρ1))))) := by
  refine pe_weak h fun σ H Q ⟨ρ, F, r, ρ', S, q, h⟩ => ?_
  cases q1 : fa ρ with
  | none => simp only [q1] at q; cases q
  | some p =>
    obtain ⟨ra, ρ1⟩ := p
    simp only [q1] at q
    cases q3 : pk ra ρ1 with
    | none => simp only [q3] at q; cases q
    | some px =>
      simp only [q3] at q
      cases q5 : d px with
      | none => simp only [q5] at q; cases q
      | some z =>
        simp only [q5] at q
        obtain ⟨rfl, rfl⟩ : z.r = r ∧ ρ1 = ρ' := by simpa using q
        exact ⟨ρ, F, ra, ρ1, S, q1, fun x H1 F1 S1 e1 r1 => ⟨F1, px, z, S1.sub, r1.peek S1 q3, q5, Post.mk S1 fun x' H' F' S' e' r' => h x' H' F' S' (e1.trans e') r'⟩⟩
/-- arguments, then an operation -/
theorem e_args {fa : Env → Option (List R × Env)} {d : List PV → Option Res} {e : Expr} (h : PE X e (fun σ H Q => tA G fa σ H fun xs H1 => rdN G.K d xs H1 Q)) :
    PE X e (tE G (fun ρ => match fa ρ with
      | none => none
      | some (rs, ρ1) => (match pkL rs ρ1 with | none => none | some vs => (match d vs with | none => none | some z => some (z.r, ρ1))))) := by
  refine pe_weak h fun σ H Q ⟨ρ, F, r, ρ', S, q, h⟩ => ?_
  cases q1 : fa ρ with
  | none => simp only [q1] at q; cases q
  | some p =>
    obtain ⟨ra, ρ1⟩ := p
    simp only [q1] at q
    cases q3 : pkL ra ρ1 with
    | none => simp only [q3] at q; cases q
    | some px =>
      simp only [q3] at q
      cases q5 : d px with
      | none => simp only [q5] at q; cases q
      | some z =>
        simp only [q5] at q
        obtain ⟨rfl, rfl⟩ : z.r = r ∧ ρ1 = ρ' := by simpa using q
        exact ⟨ρ, F, ra, ρ1, S, q1, fun xs H1 F1 S1 e1 w1 => ⟨F1, px, z, S1.sub, w1.peek S1 q3, q5, Post.mk S1 fun x' H' F' S' e' r' => h x' H' F' S' (e1.trans e') r'⟩⟩
/-- a display: its items frozen -/
theorem e_disp {fa : Env → Option (List R × Env)} {mk : List PV → Res} {e : Expr} (h : PE X e (fun σ H Q => tA G fa σ H fun xs H1 => ∃ F vs, Ext F H1 ∧ RepL G.K F xs vs ∧ vs.length ≤ line ∧ Post G.K F H1 (mk vs) Q)) :
    PE X e (tE G (fun ρ => match fa ρ with
      | none => none
      | some (rs, ρ1) => (match fzL rs ρ1 with | none => none | some (vs, ρ2) => if vs.length ≤ line then some ((mk vs).r, ρ2) else none))) := by
  refine pe_weak h fun σ H Q ⟨ρ, F, r, ρ', S, q, h⟩ => ?_
  cases q1 : fa ρ with
  | none => simp only [q1] at q; cases q
  | some p =>
    obtain ⟨ra, ρ1⟩ := p
    simp only [q1] at q
    cases q3 : fzL ra ρ1 with
    | none => simp only [q3] at q; cases q
    | some p2 =>
      obtain ⟨vs, ρ2⟩ := p2
      simp only [q3] at q
      by_cases hl : vs.length ≤ line
      · rw [if_pos hl] at q
        obtain ⟨rfl, rfl⟩ : (mk vs).r = r ∧ ρ2 = ρ' := by simpa using q
        refine ⟨ρ, F, ra, ρ1, S, q1, fun xs H1 F1 S1 e1 w1 => ?_⟩
        obtain ⟨F2, e2, S2, R2⟩ := w1.frz S1 q3
        exact ⟨F2, vs, S2.sub, R2, hl, Post.mk S2 fun x' H' F' S' e' r' => h x' H' F' S' (e1.trans (e2.trans e')) r'⟩
      · rw [if_neg hl] at q; cases q
theorem e_tup {es : List Expr} {k : Nat} {pos : Pos} {fa : Env → Option (List R × Env)} (h : PA X es (tA G fa)) : PE X (.Tuple es k pos) (tE G (fun ρ => match fa ρ with
      | none => none
      | some (rs, ρ1) => (match fzL rs ρ1 with | none => none | some (vs, ρ2) => if vs.length ≤ line then some (R.sh (.tup vs), ρ2) else none))) := by
  refine e_disp (mk := fun vs => .sh (.tup vs)) (pe_weak (pe_tup h) fun σ H Q ⟨ρ, F, rs, ρ', S, q, h⟩ => ⟨ρ, F, rs, ρ', S, q, fun xs H' F' S' e' w' => ?_⟩)
  obtain ⟨F1, vs, g1, g2, g3, P⟩ := h xs H' F' S' e' w'
  exact ⟨by rw [g2.length, ← line_eq]; exact g3, fun p n => P.newT g1 g2 n⟩
theorem e_lst {es : List Expr} {pos : Pos} {fa : Env → Option (List R × Env)} (h : PA X es (tA G fa)) : PE X (.List es pos) (tE G (fun ρ => match fa ρ with
      | none => none
      | some (rs, ρ1) => (match fzL rs ρ1 with | none => none | some (vs, ρ2) => if vs.length ≤ line then some (R.own (.lst vs), ρ2) else none))) := by
  refine e_disp (mk := fun vs => .own (.lst vs)) (pe_weak (pe_lst h) fun σ H Q ⟨ρ, F, rs, ρ', S, q, h⟩ => ⟨ρ, F, rs, ρ', S, q, fun xs H' F' S' e' w' => ?_⟩)
  obtain ⟨F1, vs, g1, g2, g3, P⟩ := h xs H' F' S' e' w'
  exact ⟨by rw [g2.length, ← line_eq]; exact g3, fun p n => P.newL g1 g2 n⟩
theorem pe_dnewX {pos : Pos} : PE X (.Dict [] [] pos) (fun _ H Q => ∀ p, H p = none → Q (.ref p) (upd H p (.ext (dEx p X.w [])))) := ⟨fun pins s σ H Q I h => by
  have hsm : (s.heap.objs.size == sysModules) = false := beq_eq_false_iff_ne.mpr (Ne.symm (Nat.ne_of_lt I.big))
  exact wpAny_Dict_empty ⟨.ref s.heap.objs.size, _, I.laid (a := s.heap.objs.size) (o := .ext (dEx s.heap.objs.size X.w [])) (t' := s.toks) (fun _ _ q => Heap.get?_push_of_some _ q) (Nat.le_refl _) (dEx_obj (P := X.prog) hsm (Heap.DictOfH.new s.heap)), rfl, h _ (I.hok.fresh (Nat.le_refl _))⟩⟩
theorem e_dnew {pos : Pos} (hK : G.K = X.kw) (t : Bool) : PE X (.Dict [] [] pos) (tE G (fun ρ => some (R.own (.dict t [] []), ρ))) := by
  cases t with
  | false =>
    refine pe_weak pe_dnewK fun σ H Q ⟨ρ, F, r, ρ', S, q, h⟩ => ?_
    obtain ⟨rfl, rfl⟩ : R.own (.dict false [] []) = r ∧ ρ = ρ' := by simpa using q
    intro p n
    have P : Post G.K F H (.own (.dict false [] [])) Q := Post.mk S fun x H' F' S' e' r' => h x H' F' S' e' r'
    exact P.newD S.sub (o := .dK []) ⟨rfl, [], upd_same, rfl, rfl⟩ .nil n
  | true =>
    refine pe_weak pe_dnewX fun σ H Q ⟨ρ, F, r, ρ', S, q, h⟩ => ?_
    obtain ⟨rfl, rfl⟩ : R.own (.dict true [] []) = r ∧ ρ = ρ' := by simpa using q
    intro p n
    have P : Post G.K F H (.own (.dict true [] [])) Q := Post.mk S fun x H' F' S' e' r' => h x H' F' S' e' r'
    have hw : X.w = G.K.2 := by rw [hK]
    exact P.newDT S.sub (o := .ext (dEx p X.w [])) ⟨rfl, [], by rw [upd_same, hw], .nil, List.nodup_nil, rfl⟩ .nil .nil n
/-! ### a dict written out, its keys texts -/
abbrev TK := L2.St → Hp → (List (V × V) → Hp → Prop) → Prop
structure PK (X : Cx) (pos : Pos) (keys : List (Option Expr)) (values : List Expr) (t : TK) : Prop where
  run : ∀ (pins : List (Addr × Obj)) (s : Shared) (σ : L2.St) (H : Hp) (Q : List (V × V) → Hp → Prop), Inv X pins σ H s → t σ H Q →
    wpAny (model X.prog X.w) X.A (evalPairs (pairTrees keys values X.env pos)) (fun vs s' => ∃ ps H', Inv X pins σ H' s' ∧ VV ps vs ∧ Q ps H') X.xe s
/-- a pinned object of one's own, tracked -/
theorem inv_track {pins : List (Addr × Obj)} {s : Shared} {p : Addr} {ob : Obj} {o : HO} (I : Inv X ((p, ob) :: pins) σ H s) (h0 : X.s_0.heap.objs.size ≤ p) (hd : ∀ z ∈ X.pn ++ pins, z.1 ≠ p) (new : s.heap.get? p = some ob → ObjOk X.prog X.w (upd H p o) s.heap p o) : Inv X pins σ (upd H p o) s := by
  obtain ⟨p1, p2, p3, p4, p5⟩ := I.pin (p, ob) (List.mem_append_right _ List.mem_cons_self)
  have nc : ∀ c v, s.heap.IsCell c v → c ≠ p := fun c v hc e => by
    subst e
    obtain ⟨o', g1, g2⟩ := hc
    rw [p1] at g1
    obtain rfl := Option.some.inj g1
    exact p5 _ g2
  refine ⟨I.ok, I.os, I.bare, ⟨I.base.keep, I.base.slot, fun b u e n hx => ?_, I.base.there, fun b xs e => ?_, fun b u w e => ?_, fun b ps e => ?_⟩, I.loc, I.cell, ?_, fun x c e => ?_, fun z hz => ?_, ?_, I.len⟩
  · have hb : b ≠ p := Nat.ne_of_lt (Nat.lt_of_lt_of_le (Heap.lt_size e) h0)
    rw [upd_ne hb]; exact I.base.free b u e n hx
  · have g := I.base.tups b xs e
    rw [upd_ne (ne_of_none g p2)]; exact g
  · have g := I.base.frzs b u w e
    rw [upd_ne (ne_of_none g p2)]; exact g
  · obtain ⟨m, g⟩ := I.base.tbls b ps e
    rw [upd_ne (ne_of_none g p2)]; exact ⟨m, g⟩
  · rw [upd_ne (fun e => p3 e.symm)]; exact I.free
  · obtain ⟨v, hv⟩ := I.cell x c e
    rw [upd_ne (nc c v hv)]; exact I.freeC x c e
  · obtain ⟨z1, z2, z3⟩ := I.pin z (by
      rcases List.mem_append.mp hz with hz | hz
      · exact List.mem_append_left _ hz
      · exact List.mem_append_right _ (List.mem_cons_of_mem _ hz))
    exact ⟨z1, by rw [upd_ne (hd z hz)]; exact z2, z3⟩
  · intro b u e
    by_cases hb : b = p
    · subst hb
      rw [upd_same] at e
      cases e
      exact new p1
    · rw [upd_ne hb] at e
      exact (I.hok b u e).stay (fun c v _ q => q) (fun c q => by rw [upd_ne (ne_of_none q p2)]; exact q) fun c xs q => by rw [upd_ne (ne_of_none q p2)]; exact q
theorem pe_dispP {pos : Pos} {keys : List (Option Expr)} {values : List Expr} {t : TK} (h : PK X pos keys values t) (hall : keys.all (·.isSome) = true) (hl : keys.length = values.length) (h0 : keys ≠ []) (h15 : keys.length ≤ 15) :
    PE X (.Dict keys values pos) (fun σ H Q => t σ H fun ps H2 => ∀ p, H2 p = none → ∃ kvs : List (Key × V), ps = kvs.map (fun kv => (kV kv.1, kv.2)) ∧ kvs.length ≤ 15 ∧ Q (.ref p) (upd H2 p (.dK (mergeK [] kvs)))) := by
  refine ⟨fun pins s σ H Q I q => ?_⟩
  have hn := I.hok.fresh (Nat.le_refl s.heap.objs.size)
  have hpush : (s.heap.push { cls := .type "dict", data := .dict #[] }).get? s.heap.objs.size = some { cls := .type "dict", data := .dict #[] } := Heap.get?_push_size _ rfl
  have I0 : Inv X pins σ H { s with heap := s.heap.push { cls := .type "dict", data := .dict #[] } } := I.kept (t' := s.toks) (fun _ _ q => Heap.get?_push_of_some _ q)
  have I1 : Inv X ((s.heap.objs.size, { cls := .type "dict", data := .dict #[] }) :: pins) σ H { s with heap := s.heap.push { cls := .type "dict", data := .dict #[] } } := I0.pins_of fun z hz => by
    rcases List.mem_cons.mp hz with rfl | hz
    · exact ⟨hpush, hn, (Nat.ne_of_lt I.lt).symm, I.nofs (Nat.le_refl _), fun v e => by cases e⟩
    · exact I0.pin z (List.mem_append_right _ hz)
  have hd : ∀ z ∈ X.pn ++ pins, z.1 ≠ s.heap.objs.size := fun z hz => Nat.ne_of_lt (Heap.lt_size (I.pin z hz).1)
  have hsm : (s.heap.objs.size == sysModules) = false := beq_eq_false_iff_ne.mpr (Ne.symm (Nat.ne_of_lt I.big))
  refine wpAny_Dict_walk (knd := mixKind X.prog X.w) hall hl h0 h15 (thn (h.run _ _ σ _ _ I1 q) fun ws s2 ⟨ps, H2, I2, rel, q2⟩ => ?_)
  obtain ⟨p1, p2, _⟩ := I2.pin _ (List.mem_append_right _ List.mem_cons_self)
  obtain ⟨kvs, ep, lk, q3⟩ := q2 _ p2
  subst ep
  have I3 : Inv X pins σ (upd H2 s.heap.objs.size (.dK [])) s2 := inv_track I2 I.sz hd fun g => ⟨Nat.zero_le _, hsm, [], .nil, _, #[], 0, g, ⟨rfl, rfl, rfl⟩, rfl, (fun e he => by simp at he), .nil, List.nodup_nil⟩
  obtain ⟨rs, c, rk⟩ := carries_of (P := X.prog) (w := X.w) rel
  obtain ⟨z, hd', vs0, r0, dd⟩ := dk_of I3.hok (a := s.heap.objs.size) upd_same
  cases r0
  refine ⟨rs, c, dd, fun h' dd' hs => ⟨.ref s.heap.objs.size, _, ?_, rfl, q3⟩⟩
  have hz : (mergeK [] kvs).length ≤ sizeLine := by
    have h1 := length_mergeK kvs []
    rw [List.length_nil] at h1
    rw [sizeLine_eq]; omega
  have he : ∃ q, h'.get? s.heap.objs.size = some q := let ⟨q, _, _, hq, _⟩ := dd'; ⟨q, hq⟩
  show Inv X pins σ (upd H2 s.heap.objs.size (.dK (mergeK [] kvs))) _
  rw [← upd_upd (o := .dK [])]
  exact d_write I3 (by rw [upd_same]; exact True.intro) hs he (dk_new hz hd' (rk.merge .nil) dd')
def tK (G : Gh) (f : Env → Option (List R × Env)) (ks : List (List Nat)) : TK := fun σ H Q => ∃ ρ F rs ρ', SOk G σ H ρ F ∧ f ρ = some (rs, ρ') ∧ ∀ xs H' F', SOk G σ H' ρ' F' → Ext F F' → WRL G.K σ F' xs rs → Q ((ks.map fun k => V.str (strP k)).zip xs) H'
theorem k_nil {pos : Pos} : PK X pos [] [] (tK G (fun ρ => some ([], ρ)) []) := ⟨fun pins s σ H Q I ⟨ρ, F, rs, ρ', S, q, h⟩ => by
  obtain ⟨rfl, rfl⟩ : [] = rs ∧ ρ = ρ' := by simpa using q
  exact pairTrees_nil_walk ⟨[], H, I, .nil, h [] H F S (Ext.refl F) .nil⟩⟩
theorem k_cons {pos : Pos} {v : Expr} {k : List Nat} {j : Nat} {cp : Pos} {keys : List (Option Expr)} {values : List Expr} {ks : List (List Nat)} {f : Env → Option (R × Env)} {g : Env → Option (List R × Env)} (hv : PE X v (tE G f)) (hr : PK X pos keys values (tK G g ks)) :
    PK X pos (some (.Constant (.str (strP k)) j cp) :: keys) (v :: values) (tK G (fun ρ => match f ρ with
      | none => none
      | some (r, ρ1) => (match g ρ1 with | none => none | some (rs, ρ2) => some (wt r :: rs, ρ2))) (k :: ks)) := ⟨fun pins s σ H Q I ⟨ρ, F, rs, ρ', S, q, h⟩ => by
  cases q1 : f ρ with
  | none => simp only [q1] at q; cases q
  | some p =>
    obtain ⟨r, ρ1⟩ := p
    simp only [q1] at q
    cases q2 : g ρ1 with
    | none => simp only [q2] at q; cases q
    | some p2 =>
      obtain ⟨rs', ρ2⟩ := p2
      simp only [q2] at q
      obtain ⟨rfl, rfl⟩ : wt r :: rs' = rs ∧ ρ2 = ρ' := by simpa using q
      refine pairTrees_cons_walk (thn ((pe_str (X := X)).run pins s σ H (fun x H1 => x = V.str (strP k) ∧ H1 = H) I ⟨rfl, rfl⟩) fun u s1 ⟨x, H1, I1, rx, ex, eH⟩ => ?_)
      subst ex eH
      refine thn (hv.run pins s1 σ _ (fun y H2 => ∃ F2, SOk G σ H2 ρ1 F2 ∧ Ext F F2 ∧ WR G.K σ F2 y (wt r)) I1 ⟨ρ, F, r, ρ1, S, q1, fun x H1 F1 S1 e1 r1 => ?_⟩) fun w2 s2 ⟨y, H2, I2, ry, F2, S2, e2, w2'⟩ => ?_
      · obtain ⟨F1', e1', S1', w1⟩ := r1.wait S1
        exact ⟨F1', S1', e1.trans e1', w1⟩
      · refine thn (hr.run pins s2 σ H2 (fun ps H3 => Q ((V.str (strP k), y) :: ps) H3) I2 ⟨ρ1, F2, rs', ρ2, S2, q2, fun xs H3 F3 S3 e3 w3 => h (y :: xs) H3 F3 S3 (e2.trans e3) (.cons (w2'.mono e3) w3)⟩) fun ws s3 ⟨ps, H3, I3, rel, q3⟩ => ?_
        exact ⟨_, H3, I3, .cons ⟨rx, ry⟩ rel, q3⟩⟩
theorem merge_nodup : ∀ (kvs acc : List (Key × V)), (acc.map (·.1) ++ kvs.map (·.1)).Nodup → mergeK acc kvs = acc ++ kvs
  | [], acc, _ => (List.append_nil acc).symm
  | kv :: kvs, acc, h => by
    have hn : acc.any (fun p => decide (p.1 = kv.1)) = false := by
      rw [List.any_eq_false]
      intro p hp e
      rw [List.map_cons] at h
      have := (List.nodup_append.mp h).2.2 p.1 (List.mem_map_of_mem hp) kv.1 List.mem_cons_self
      exact this (of_decide_eq_true e)
    have e1 : mergeK acc (kv :: kvs) = mergeK (putK acc kv.1 kv.2) kvs := rfl
    have e2 : putK acc kv.1 kv.2 = acc ++ [kv] := by
      unfold putK
      rw [hn]; rfl
    rw [e1, e2, merge_nodup kvs (acc ++ [kv]) (by
      rw [List.map_append, List.append_assoc]
      exact h), List.append_assoc]
    rfl
theorem zip_kvs : ∀ (ks : List (List Nat)) (xs : List V), ks.length = xs.length → ((ks.map fun k => V.str (strP k)).zip xs) = ((ks.map fun k => (Sum.inr (strP k) : Key)).zip xs).map (fun kv => (kV kv.1, kv.2))
  | [], xs, _ => rfl
  | k :: ks, [], h => by cases h
  | k :: ks, x :: xs, h => by
    rw [List.map_cons, List.map_cons, List.zip_cons_cons, List.zip_cons_cons, List.map_cons, zip_kvs ks xs (by simpa using h)]
    rfl
theorem zip_fst : ∀ (ks : List (List Nat)) (xs : List V), ks.length = xs.length → ((ks.map fun k => (Sum.inr (strP k) : Key)).zip xs).map (·.1) = ks.map fun k => (Sum.inr (strP k) : Key)
  | [], xs, _ => rfl
  | k :: ks, [], h => by cases h
  | k :: ks, x :: xs, h => by
    rw [List.map_cons, List.zip_cons_cons, List.map_cons, zip_fst ks xs (by simpa using h)]
theorem zip_snd : ∀ (ks : List (List Nat)) (xs : List V), ks.length = xs.length → xs = ((ks.map fun k => (Sum.inr (strP k) : Key)).zip xs).map (·.2)
  | [], [], _ => rfl
  | [], _ :: _, h => by cases h
  | k :: ks, [], h => by cases h
  | k :: ks, x :: xs, h => by
    rw [List.map_cons, List.zip_cons_cons, List.map_cons, ← zip_snd ks xs (by simpa using h)]
theorem zip_keys : ∀ (ks : List (List Nat)) (xs : List V), ks.length = xs.length → ks.all okSb = true → ((ks.map fun k => (Sum.inr (strP k) : Key)).zip xs).map (fun kv => some kv.1) = (ks.map PV.str).map keyOf
  | [], xs, _, _ => rfl
  | k :: ks, [], h, _ => by cases h
  | k :: ks, x :: xs, h, o => by
    rw [List.all_cons, Bool.and_eq_true] at o
    rw [List.map_cons, List.zip_cons_cons, List.map_cons, zip_keys ks xs (by simpa using h) o.2, List.map_cons, List.map_cons]
    congr 1
    have e : keyOf (.str k) = if okSb k = true then some (Sum.inr (strP k)) else none := rfl
    rw [e, if_pos o.1]
theorem e_disp2 {pos : Pos} {keys : List (Option Expr)} {values : List Expr} {ks : List (List Nat)} {fa : Env → Option (List R × Env)} (h : PK X pos keys values (tK G fa ks)) (hall : keys.all (·.isSome) = true) (hl : keys.length = values.length) (hk : keys.length = ks.length) (hk0 : keys ≠ []) (hk15 : keys.length ≤ 15) :
    PE X (.Dict keys values pos) (tE G (fun ρ => match fa ρ with
      | none => none
      | some (rs, ρ1) => (match fzL rs ρ1 with | none => none | some (vs, ρ2) => if dispOk ks vs then some (R.own (.dict false (ks.map .str) vs), ρ2) else none))) := by
  refine pe_weak (pe_dispP h hall hl hk0 hk15) fun σ H Q ⟨ρ, F, r, ρ', S, q, h⟩ => ?_
  cases q1 : fa ρ with
  | none => simp only [q1] at q; cases q
  | some p =>
    obtain ⟨ra, ρ1⟩ := p
    simp only [q1] at q
    cases q3 : fzL ra ρ1 with
    | none => simp only [q3] at q; cases q
    | some p2 =>
      obtain ⟨vs, ρ2⟩ := p2
      simp only [q3] at q
      by_cases hd : dispOk ks vs = true
      · rw [if_pos hd] at q
        obtain ⟨rfl, rfl⟩ : R.own (.dict false (ks.map .str) vs) = r ∧ ρ2 = ρ' := by simpa using q
        unfold dispOk at hd
        simp only [Bool.and_eq_true, decide_eq_true_eq] at hd
        obtain ⟨⟨⟨⟨d1, d2⟩, d3⟩, d4⟩, d5⟩ := hd
        refine ⟨ρ, F, ra, ρ1, S, q1, fun xs H1 F1 S1 e1 w1 p n => ?_⟩
        obtain ⟨F2, e2, S2, R2⟩ := w1.frz S1 q3
        have hx : ks.length = xs.length := by rw [R2.length]; exact d1
        refine ⟨(ks.map fun k => (Sum.inr (strP k) : Key)).zip xs, zip_kvs ks xs hx, by rw [List.length_zip, List.length_map]; omega, ?_⟩
        have hm : mergeK [] ((ks.map fun k => (Sum.inr (strP k) : Key)).zip xs) = (ks.map fun k => (Sum.inr (strP k) : Key)).zip xs := by
          rw [merge_nodup _ [] (by
            rw [List.map_nil, List.nil_append, zip_fst ks xs hx]
            refine List.Pairwise.map _ (fun a b hab e => hab (strP_inj (Sum.inr.inj e))) d4)]
          rfl
        rw [hm]
        have P : Post G.K F2 H1 (.own (.dict false (ks.map .str) vs)) Q := Post.mk S2 fun x H' F' S' e' r' => h x H' F' S' (e1.trans (e2.trans e')) r'
        exact P.newD S2.sub (o := .dK _) ⟨rfl, _, upd_same, zip_keys ks xs hx d5, zip_snd ks xs hx⟩ R2 n
      · rw [if_neg hd] at q; cases q
/-! ### a dict written out, its keys tuples -/
def tK2 (G : Gh) (f : Env → Option (List R × Env)) : TK := fun σ H Q => ∃ ρ F rs ρ', SOk G σ H ρ F ∧ f ρ = some (rs, ρ') ∧ ∀ xs H' F', SOk G σ H' ρ' F' → Ext F F' → WRL G.K σ F' xs rs → ∀ ps, Pairs2 xs ps → Q ps H'
where
  Pairs2 : List V → List (V × V) → Prop
  | [], ps => ps = []
  | [_], _ => False
  | x :: y :: r, ps => ∃ q, ps = (x, y) :: q ∧ Pairs2 r q
theorem k2_nil {pos : Pos} : PK X pos [] [] (tK2 G (fun ρ => some ([], ρ))) := ⟨fun pins s σ H Q I ⟨ρ, F, rs, ρ', S, q, h⟩ => by
  obtain ⟨rfl, rfl⟩ : [] = rs ∧ ρ = ρ' := by simpa using q
  exact pairTrees_nil_walk ⟨[], H, I, .nil, h [] H F S (Ext.refl F) .nil [] rfl⟩⟩
abbrev fC2 (f1 f2 : Env → Option (R × Env)) (g : Env → Option (List R × Env)) : Env → Option (List R × Env) := fun ρ => match f1 ρ with
      | none => none
      | some (r, ρ1) => (match (match f2 ρ1 with
        | none => none
        | some (r', ρ2) => (match g ρ2 with | none => none | some (rs, ρ3) => some (wt r' :: rs, ρ3))) with | none => none | some (rs, ρ2) => some (wt r :: rs, ρ2))
theorem k2_cons {pos : Pos} {ke ve : Expr} {keys : List (Option Expr)} {values : List Expr} {f1 f2 : Env → Option (R × Env)} {g : Env → Option (List R × Env)} (hk : PE X ke (tE G f1)) (hv : PE X ve (tE G f2)) (hr : PK X pos keys values (tK2 G g)) :
    PK X pos (some ke :: keys) (ve :: values) (tK2 G (fC2 f1 f2 g)) := ⟨fun pins s σ H Q I ⟨ρ, F, rs, ρ', S, q, h⟩ => by
  unfold fC2 at q
  cases q1 : f1 ρ with
  | none => simp only [q1] at q; cases q
  | some p =>
    obtain ⟨r, ρ1⟩ := p
    simp only [q1] at q
    cases q2 : f2 ρ1 with
    | none => simp only [q2] at q; cases q
    | some p2 =>
      obtain ⟨r', ρ2⟩ := p2
      simp only [q2] at q
      cases q3 : g ρ2 with
      | none => simp only [q3] at q; cases q
      | some p3 =>
        obtain ⟨rs', ρ3⟩ := p3
        simp only [q3] at q
        obtain ⟨rfl, rfl⟩ : wt r :: wt r' :: rs' = rs ∧ ρ3 = ρ' := by simpa using q
        refine pairTrees_cons_walk (thn (hk.run pins s σ H (fun y H2 => ∃ F2, SOk G σ H2 ρ1 F2 ∧ Ext F F2 ∧ WR G.K σ F2 y (wt r)) I ⟨ρ, F, r, ρ1, S, q1, fun x H1 F1 S1 e1 r1 => ?_⟩) fun u s1 ⟨x, H1, I1, rx, F1, S1, e1, w1⟩ => ?_)
        · obtain ⟨F1', e1', S1', w1⟩ := r1.wait S1
          exact ⟨F1', S1', e1.trans e1', w1⟩
        · refine thn (hv.run pins s1 σ H1 (fun y H2 => ∃ F2, SOk G σ H2 ρ2 F2 ∧ Ext F1 F2 ∧ WR G.K σ F2 y (wt r')) I1 ⟨ρ1, F1, r', ρ2, S1, q2, fun y H2 F2 S2 e2 r2 => ?_⟩) fun w2 s2 ⟨y, H2, I2, ry, F2, S2, e2, w2'⟩ => ?_
          · obtain ⟨F2', e2', S2', w2⟩ := r2.wait S2
            exact ⟨F2', S2', e2.trans e2', w2⟩
          · refine thn (hr.run pins s2 σ H2 (fun ps H3 => Q ((x, y) :: ps) H3) I2 ⟨ρ2, F2, rs', ρ3, S2, q3, fun xs H3 F3 S3 e3 w3 ps hp => h (x :: y :: xs) H3 F3 S3 (e1.trans (e2.trans e3)) (.cons (w1.mono (e2.trans e3)) (.cons (w2'.mono e3) w3)) _ ⟨ps, rfl, hp⟩⟩) fun ws s3 ⟨ps, H3, I3, rel, q4⟩ => ?_
            exact ⟨_, H3, I3, .cons ⟨rx, ry⟩ rel, q4⟩⟩
theorem stored_nodup : ∀ (ps acc : Xs), (acc.map (·.1) ++ ps.map (·.1)).Nodup → storedAllH acc ps = acc ++ ps
  | [], acc, _ => (List.append_nil acc).symm
  | p :: ps, acc, h => by
    have hn : atKey acc p.1 = none := by
      unfold atKey
      have : acc.find? (fun x => decide (x.1 = p.1)) = none := by
        rw [List.find?_eq_none]
        intro x hx e
        rw [List.map_cons] at h
        exact (List.nodup_append.mp h).2.2 x.1 (List.mem_map_of_mem hx) p.1 List.mem_cons_self (of_decide_eq_true e)
      rw [this]; rfl
    have e1 : storedAllH acc (p :: ps) = storedAllH (storedH acc p.1 p.2.1 p.2.2) ps := rfl
    rw [e1, storedH_new hn, stored_nodup ps (acc ++ [p]) (by
      rw [List.map_append, List.append_assoc]
      exact h), List.append_assoc]
    rfl
theorem carriesX {s : Shared} {pins : List (Addr × Obj)} (I : Inv X pins σ H s) (e : Ext F H) : ∀ {ks : List PV} {bs ys : List V} {ws : List (Value × Value)}, RepL X.kw F bs ks → ks.all isTupP = true → bs.length = ys.length → VV (bs.zip ys) ws → ∃ xs, CarriesH (nestedKind X.prog X.w) s.heap ws xs ∧ Ent ks bs ys xs
  | [], _, ys, ws, .nil, _, hl, r => by
    cases ys with
    | nil => cases r; exact ⟨[], trivial, .nil⟩
    | cons _ _ => cases hl
  | k :: ks, b :: bs, y :: ys, ws, .cons rb rs, h, hl, r => by
    rw [List.all_cons, Bool.and_eq_true] at h
    rw [List.zip_cons_cons] at r
    cases r with
    | @cons _ q _ qs hq t =>
      obtain ⟨xs, c1, c2⟩ := carriesX I e rs h.2 (by simpa using hl) t
      obtain ⟨q1, q2⟩ := q
      obtain ⟨ad, rfl⟩ := isTup_ref h.1 rb
      have e1 : q1 = Value.ref ad := hq.1
      subst e1
      exact ⟨(nk k, ad, q2) :: xs, ⟨rfl, rfl, key_is I e h.1 rb, c1⟩, .cons hq.2 c2⟩
  | _ :: _, _ :: _, [], _, .cons _ _, _, hl, _ => by cases hl
theorem diff_nodup : ∀ (ks : List PV), ks.all isTupP = true → diffL ks = true → (ks.map nk).Nodup
  | [], _, _ => List.nodup_nil
  | k :: ks, h, d => by
    rw [List.all_cons, Bool.and_eq_true] at h
    have d : (ks.all (fun y => !eqv k y) && diffL ks) = true := d
    rw [Bool.and_eq_true] at d
    rw [List.map_cons]
    refine List.nodup_cons.mpr ⟨fun z => ?_, diff_nodup ks h.2 d.2⟩
    obtain ⟨p, hp, ep⟩ := List.mem_map.mp z
    have := List.all_eq_true.mp d.1 p hp
    rw [(eqv_iff (isTup_pure h.1) (isTup_pure (List.all_eq_true.mp h.2 p hp))).mpr ep.symm] at this
    cases this
theorem pe_dispX {pos : Pos} {keys : List (Option Expr)} {values : List Expr} {t : TK} (hu : X.A.units + 65 < cLine) (h : PK X pos keys values t) (hall : keys.all (·.isSome) = true) (hl : keys.length = values.length) (h0 : keys ≠ []) (h15 : keys.length ≤ 15) :
    PE X (.Dict keys values pos) (fun σ H Q => t σ H fun ps H2 => ∀ p, H2 p = none → ∃ F2 ks bs ys, ps = bs.zip ys ∧ bs.length = ys.length ∧ Ext F2 H2 ∧ RepL X.kw F2 bs ks ∧ ks.all isTupP = true ∧ (ks.map nk).Nodup ∧ ∀ xs, Ent ks bs ys xs → Q (.ref p) (upd H2 p (.ext (dEx p X.w xs)))) := by
  refine ⟨fun pins s σ H Q I q => ?_⟩
  have hn := I.hok.fresh (Nat.le_refl s.heap.objs.size)
  have hpush : (s.heap.push { cls := .type "dict", data := .dict #[] }).get? s.heap.objs.size = some { cls := .type "dict", data := .dict #[] } := Heap.get?_push_size _ rfl
  have I0 : Inv X pins σ H { s with heap := s.heap.push { cls := .type "dict", data := .dict #[] } } := I.kept (t' := s.toks) (fun _ _ q => Heap.get?_push_of_some _ q)
  have I1 : Inv X ((s.heap.objs.size, { cls := .type "dict", data := .dict #[] }) :: pins) σ H { s with heap := s.heap.push { cls := .type "dict", data := .dict #[] } } := I0.pins_of fun z hz => by
    rcases List.mem_cons.mp hz with rfl | hz
    · exact ⟨hpush, hn, (Nat.ne_of_lt I.lt).symm, I.nofs (Nat.le_refl _), fun v e => by cases e⟩
    · exact I0.pin z (List.mem_append_right _ hz)
  have hd : ∀ z ∈ X.pn ++ pins, z.1 ≠ s.heap.objs.size := fun z hz => Nat.ne_of_lt (Heap.lt_size (I.pin z hz).1)
  have hsm : (s.heap.objs.size == sysModules) = false := beq_eq_false_iff_ne.mpr (Ne.symm (Nat.ne_of_lt I.big))
  have hpn := pairTrees_length keys values X.env pos hall hl
  have hp0 : pairTrees keys values X.env pos ≠ [] := fun z => by
    rw [z] at hpn
    exact h0 (List.length_eq_zero_iff.mp hpn.symm)
  rw [arm_eval_Dict, zip_pairTrees keys values X.env pos hall hl, dictDisplay_pairs _ hp0 (by omega)]
  refine wpAny_bind (wpAny_standAt (wpAny_bind (wpAny_subDictH (knd := nestedKind X.prog X.w) (by show X.A.units + 8 < cLine; omega) (by omega) (thn (h.run _ _ σ _ _ I1 q) fun ws s2 ⟨ps, H2, I2, rel, q2⟩ => ?_))))
  obtain ⟨p1, p2, _⟩ := I2.pin _ (List.mem_append_right _ List.mem_cons_self)
  obtain ⟨F2, ks, bs, ys, ep, hlen, eF, rb, ht, nd, q3⟩ := q2 _ p2
  subst ep
  have dd : s2.heap.DictOfH (nestedKind X.prog X.w) s.heap.objs.size [] := ⟨_, #[], 0, p1, ⟨rfl, rfl, rfl⟩, rfl, rfl, fun _ hx => by simp at hx, List.nodup_nil⟩
  have I3 : Inv X pins σ (upd H2 s.heap.objs.size (.ext (dEx s.heap.objs.size X.w []))) s2 := inv_track I2 I.sz hd fun g => dEx_obj (P := X.prog) hsm dd
  obtain ⟨xs, c, en⟩ := carriesX I2 eF rb ht hlen rel
  refine ⟨xs, c, dd, fun h' tk dd' hs => wpAny_pure ⟨.ref s.heap.objs.size, _, ?_, rfl, q3 xs en⟩⟩
  rw [stored_nodup xs [] (by rw [List.map_nil, List.nil_append, en.fst]; exact nd), List.nil_append] at dd'
  have he : ∃ q, h'.get? s.heap.objs.size = some q := let ⟨q, _, _, hq, _⟩ := dd'; ⟨q, hq⟩
  show Inv X pins σ (upd H2 s.heap.objs.size (.ext (dEx s.heap.objs.size X.w xs))) _
  rw [← upd_upd (o := .ext (dEx s.heap.objs.size X.w []))]
  exact d_write I3 (by rw [upd_same]; exact True.intro) hs he (dEx_obj (P := X.prog) hsm dd')
theorem pairs2_rep {K : Frg} {F : Hp} : ∀ {xs : List V} {vs : List PV}, RepL K F xs vs → (evenL vs).length = (oddL vs).length → vs.length = 2 * (evenL vs).length → ∃ bs ys, tK2.Pairs2 xs (bs.zip ys) ∧ bs.length = ys.length ∧ RepL K F bs (evenL vs) ∧ RepL K F ys (oddL vs)
  | [], [], .nil, _, _ => ⟨[], [], rfl, rfl, .nil, .nil⟩
  | [_], [_], .cons _ .nil, _, h => by simp [evenL] at h
  | x :: y :: xs, p :: q :: vs, .cons r1 (.cons r2 r), h, h2 => by
    have ee : evenL (p :: q :: vs) = p :: evenL vs := rfl
    have eo : oddL (p :: q :: vs) = q :: oddL vs := rfl
    rw [ee, eo] at h
    rw [ee] at h2
    obtain ⟨bs, ys, a1, a2, a3, a4⟩ := pairs2_rep r (by simpa using h) (by simp only [List.length_cons] at h2; omega)
    exact ⟨x :: bs, y :: ys, ⟨_, rfl, a1⟩, by simp [a2], .cons r1 a3, .cons r2 a4⟩
theorem pairs2_one : ∀ {xs : List V} {ps qs : List (V × V)}, tK2.Pairs2 xs ps → tK2.Pairs2 xs qs → ps = qs
  | [], ps, qs, h1, h2 => by
    have h1 : ps = [] := h1
    have h2 : qs = [] := h2
    rw [h1, h2]
  | [_], _, _, h1, _ => h1.elim
  | x :: y :: r, ps, qs, h1, h2 => by
    obtain ⟨a, rfl, a2⟩ := h1
    obtain ⟨b, rfl, b2⟩ := h2
    rw [pairs2_one a2 b2]
theorem e_dispT {pos : Pos} {keys : List (Option Expr)} {values : List Expr} {fa : Env → Option (List R × Env)} (hK : G.K = X.kw) (hu : X.A.units + 65 < cLine) (h : PK X pos keys values (tK2 G fa)) (hall : keys.all (·.isSome) = true) (hl : keys.length = values.length) (hk0 : keys ≠ []) (hk15 : keys.length ≤ 15) :
    PE X (.Dict keys values pos) (tE G (fun ρ => match fa ρ with
      | none => none
      | some (rs, ρ1) => (match fzL rs ρ1 with | none => none | some (vs, ρ2) => if dispTOk (evenL vs) (oddL vs) && decide (vs.length = 2 * (evenL vs).length) then some (R.own (.dict true (evenL vs) (oddL vs)), ρ2) else none))) := by
  refine pe_weak (pe_dispX hu h hall hl hk0 hk15) fun σ H Q ⟨ρ, F, r, ρ', S, q, h⟩ => ?_
  cases q1 : fa ρ with
  | none => simp only [q1] at q; cases q
  | some p =>
    obtain ⟨ra, ρ1⟩ := p
    simp only [q1] at q
    cases q3 : fzL ra ρ1 with
    | none => simp only [q3] at q; cases q
    | some p2 =>
      obtain ⟨vs, ρ2⟩ := p2
      simp only [q3] at q
      obtain ⟨hd, hq⟩ := ite_some q
      obtain ⟨hd, h2⟩ := and_tt hd
      obtain ⟨rfl, rfl⟩ : R.own (.dict true (evenL vs) (oddL vs)) = r ∧ ρ2 = ρ' := by simpa using hq
      unfold dispTOk at hd
      simp only [Bool.and_eq_true, decide_eq_true_eq] at hd
      obtain ⟨⟨⟨⟨d1, d2⟩, d3⟩, d4⟩, d5⟩ := hd
      refine ⟨ρ, F, ra, ρ1, S, q1, fun xs H1 F1 S1 e1 w1 ps hps p n => ?_⟩
      obtain ⟨F2, e2, S2, R2⟩ := w1.frz S1 q3
      obtain ⟨bs, ys, a1, a2, a3, a4⟩ := pairs2_rep R2 d1 (of_decide_eq_true h2)
      have hps2 : ps = bs.zip ys := pairs2_one hps a1
      rw [hK] at a3 a4
      refine ⟨F2, evenL vs, bs, ys, hps2, a2, S2.sub, a3, d5, diff_nodup _ d5 d4, fun xs en => ?_⟩
      have P : Post G.K F2 H1 (.own (.dict true (evenL vs) (oddL vs))) Q := Post.mk S2 fun x H' F' S' e' r' => h x H' F' S' (e1.trans (e2.trans e')) r'
      have hw : X.w = G.K.2 := by rw [hK]
      rw [← hK] at a3 a4
      exact P.newDT S2.sub ⟨rfl, xs, by rw [upd_same, hw], en, diff_nodup _ d5 d4, d5⟩ a3 a4 n
end
end Py

/-! Pv7: tests; and, or, not, one or the other; chains; slices. -/
namespace Py
open PySem PySem.Spec PyProof.Rows L2
section
variable {X : Cx} {G : Gh} {σ : L2.St} {H H' : Hp} {ρ ρ' : Env} {F F' : Hp} {a b c e : Expr} {pos : Pos}

/-! ### a test is its value's truth -/
def plainT : Expr → Bool
  | .UnaryOp o _ _ => !(o == .Not)
  | .BoolOp _ _ _ => false
  | .IfExp _ _ _ _ => false
  | .Compare _ _ _ _ => false
  | _ => true
theorem isTrue_of {env : PySem.Env} (h : plainT a = true) : ∀ whole, isTrue a env whole = (do let v ← whole; standAt a.pos; holding [v] (truthy v)) := by
  intro whole
  cases a <;> first | rfl | cases h | skip
  rename_i o x p
  cases o <;> first | rfl | cases h
theorem tst_some {o : Option (R × Env)} {k : Bool} {ρ1 : Env} (h : tstR o = some (k, ρ1)) : ∃ r x, o = some (r, ρ1) ∧ pk r ρ1 = some x ∧ truV x = some k := by
  unfold tstR at h
  cases o with
  | none => cases h
  | some p =>
    obtain ⟨r, ρ2⟩ := p
    simp only at h
    cases q : pk r ρ2 with
    | none => rw [q] at h; cases h
    | some x =>
      simp only [q] at h
      cases q2 : truV x with
      | none => simp only [q2] at h; cases h
      | some b =>
        simp only [q2] at h
        obtain ⟨rfl, rfl⟩ : b = k ∧ ρ2 = ρ1 := by simpa using h
        exact ⟨r, x, rfl, q, q2⟩
theorem t_truth {f : Env → Option (R × Env)} (hK : G.K = X.kw) (h : PE X a (tE G f)) (hp : plainT a = true) : PT X a (tB G fun ρ => tstR (f ρ)) := by
  refine pt_weak (pt_truth h (isTrue_of hp)) fun σ H Q ⟨ρ, F, k, ρ1, S, q, hq⟩ => ?_
  obtain ⟨r, x, e1, e2, e3⟩ := tst_some q
  refine ⟨ρ, F, r, ρ1, S, e1, fun y H1 F1 S1 x1 r1 => ?_⟩
  have p1 := r1.peek S1 e2
  rw [hK] at p1
  exact ⟨k, p1.tru S1.sub e3, hq H1 F1 S1 x1⟩

/-! ### comparisons -/
abbrev fTwoB (d : PV → PV → Option Bool) (fa fb : Env → Option (R × Env)) : Env → Option (R × Env) := fun ρ => match fa ρ with
      | none => none
      | some (ra, ρ1) => (match fb ρ1 with
        | none => none
        | some (rb, ρ2) => (match pk (wt ra) ρ2 with
          | none => none
          | some x => (match pk rb ρ2 with
            | none => none
            | some y => (match d x y with | none => none | some k => some (.sh (.bl k), ρ2)))))
theorem twoB_some {d : PV → PV → Option Bool} {fa fb : Env → Option (R × Env)} {r : R} (h : fTwoB d fa fb ρ = some (r, ρ')) :
    ∃ ra ρ1 rb x y k, fa ρ = some (ra, ρ1) ∧ fb ρ1 = some (rb, ρ') ∧ pk (wt ra) ρ' = some x ∧ pk rb ρ' = some y ∧ d x y = some k ∧ r = .sh (.bl k) := by
  unfold fTwoB at h
  cases q1 : fa ρ with
  | none => simp only [q1] at h; cases h
  | some p =>
    obtain ⟨ra, ρ1⟩ := p
    simp only [q1] at h
    cases q2 : fb ρ1 with
    | none => simp only [q2] at h; cases h
    | some p2 =>
      obtain ⟨rb, ρ2⟩ := p2
      simp only [q2] at h
      cases q3 : pk (wt ra) ρ2 with
      | none => simp only [q3] at h; cases h
      | some px =>
        simp only [q3] at h
        cases q4 : pk rb ρ2 with
        | none => simp only [q4] at h; cases h
        | some py =>
          simp only [q4] at h
          cases q5 : d px py with
          | none => simp only [q5] at h; cases h
          | some z =>
            simp only [q5] at h
            obtain ⟨rfl, rfl⟩ : R.sh (.bl z) = r ∧ ρ2 = ρ' := by simpa using h
            exact ⟨ra, ρ1, rb, px, py, z, rfl, q2, q3, q4, q5, rfl⟩
theorem tst_bl {k k' : Bool} (h : tstR (some (.sh (.bl k), ρ)) = some (k', ρ')) : k = k' ∧ ρ = ρ' := by
  have h' : some (k, ρ) = some (k', ρ') := h
  simpa using h'
/-- a reading of an expression as a test -/
theorem t_test {f : Env → Option (R × Env)} {t : TE} (hb : ∀ ρ r ρ', f ρ = some (r, ρ') → ∃ k, r = .sh (.bl k)) (h : PT X a (tTest t)) (hw : ∀ σ H Q, tE G f σ H Q → t σ H Q) : PT X a (tB G fun ρ => tstR (f ρ)) := by
  refine pt_weak h fun σ H Q ⟨ρ, F, k, ρ1, S, q, hq⟩ => hw σ H _ ?_
  obtain ⟨r, x, e1, e2, e3⟩ := tst_some q
  obtain ⟨k', rfl⟩ := hb _ _ _ e1
  have e2' : some (PV.bl k') = some x := e2
  obtain rfl := Option.some.inj e2'
  have e3' : some k' = some k := e3
  obtain rfl := Option.some.inj e3'
  refine ⟨ρ, F, _, ρ1, S, e1, fun y H1 F1 S1 x1 r1 => ⟨k', ?_, hq H1 F1 S1 x1⟩⟩
  have r1' : Rep G.K F1 y (.bl k') := r1
  cases r1'
  rfl
theorem twoB_weak {d : PV → PV → Option Bool} {fa fb : Env → Option (R × Env)} (σ : L2.St) (H : Hp) (Q : VK) (h : tE G (fTwoB d fa fb) σ H Q) : tOp (rdB G.K d) (tE G fa) (tE G fb) σ H Q := by
  obtain ⟨ρ, F, r, ρ', S, q, h⟩ := h
  obtain ⟨ra, ρ1, rb, px, py, k, q1, q2, q3, q4, q5, rfl⟩ := twoB_some q
  refine ⟨ρ, F, ra, ρ1, S, q1, fun x H1 F1 S1 e1 r1 => ?_⟩
  obtain ⟨F1', e1', S1', w1⟩ := r1.wait S1
  refine ⟨ρ1, F1', rb, ρ', S1', q2, fun y H2 F2 S2 e2 r2 => ?_⟩
  exact ⟨F2, px, py, k, S2.sub, (WR.rr (w1.mono e2) : RR G σ H2 F2 ρ' x (wt ra)).peek S2 q3, r2.peek S2 q4, q5, h _ H2 F2 S2 (e1.trans (e1'.trans e2)) (.bl k)⟩
theorem e_cmp {fa fb : Env → Option (R × Env)} (hK : G.K = X.kw) (hu : X.A.units + 65 < cLine) (o : CmOp) (ha : PE X a (tE G fa)) (hb : PE X b (tE G fb)) (hm : behindInMarks (cop o) b = false) : PE X (.Compare a [cop o] [b] pos) (tE G (fTwoB (cmpB o) fa fb)) := by
  have h := pe_cmpR (pos := pos) (op_cmp hu o) ha hb hm
  rw [← hK] at h
  exact pe_weak h twoB_weak
theorem t_cmp {fa fb : Env → Option (R × Env)} (hK : G.K = X.kw) (hu : X.A.units + 65 < cLine) (o : CmOp) (ha : PE X a (tE G fa)) (hb : PE X b (tE G fb)) (hm : behindInMarks (cop o) b = false) : PT X (.Compare a [cop o] [b] pos) (tB G fun ρ => tstR (fTwoB (cmpB o) fa fb ρ)) := by
  have h := pt_cmpR (pos := pos) (op_cmp hu o) ha hb hm
  rw [← hK] at h
  exact t_test (fun ρ r ρ' q => by obtain ⟨_, _, _, _, _, k, _, _, _, _, _, e⟩ := twoB_some q; exact ⟨k, e⟩) h twoB_weak

/-! ### chains -/
abbrev fChain (o o' : CmOp) (fa fb fc : Env → Option (R × Env)) : Env → Option (R × Env) := fun ρ => match fa ρ with
    | none => none
    | some (ra, ρ1) => (match fb ρ1 with
      | none => none
      | some (rb, ρ2) => (match pk (wt ra) ρ2 with
        | none => none
        | some x => (match pk (wt rb) ρ2 with
          | none => none
          | some y => (match cmpB o x y with
            | none => none
            | some false => some (.sh (.bl false), ρ2)
            | some true => (match fc ρ2 with
              | none => none
              | some (rc, ρ3) => (match pk (wt rb) ρ3 with
                | none => none
                | some y' => (match pk rc ρ3 with
                  | none => none
                  | some z => (match cmpB o' y' z with | none => none | some k => some (.sh (.bl k), ρ3)))))))))
theorem chain_some {o o' : CmOp} {fa fb fc : Env → Option (R × Env)} {r : R} (h : fChain o o' fa fb fc ρ = some (r, ρ')) :
    ∃ ra ρ1 rb ρ2 x y, fa ρ = some (ra, ρ1) ∧ fb ρ1 = some (rb, ρ2) ∧ pk (wt ra) ρ2 = some x ∧ pk (wt rb) ρ2 = some y ∧
      ((cmpB o x y = some false ∧ ρ' = ρ2 ∧ r = .sh (.bl false)) ∨ (cmpB o x y = some true ∧ ∃ rc y' z k, fc ρ2 = some (rc, ρ') ∧ pk (wt rb) ρ' = some y' ∧ pk rc ρ' = some z ∧ cmpB o' y' z = some k ∧ r = .sh (.bl k))) := by
  unfold fChain at h
  cases q1 : fa ρ with
  | none => simp only [q1] at h; cases h
  | some p =>
    obtain ⟨ra, ρ1⟩ := p
    simp only [q1] at h
    cases q2 : fb ρ1 with
    | none => simp only [q2] at h; cases h
    | some p2 =>
      obtain ⟨rb, ρ2⟩ := p2
      simp only [q2] at h
      cases q3 : pk (wt ra) ρ2 with
      | none => simp only [q3] at h; cases h
      | some px =>
        simp only [q3] at h
        cases q4 : pk (wt rb) ρ2 with
        | none => simp only [q4] at h; cases h
        | some py =>
          simp only [q4] at h
          refine ⟨ra, ρ1, rb, ρ2, px, py, rfl, q2, q3, q4, ?_⟩
          cases q5 : cmpB o px py with
          | none => simp only [q5] at h; cases h
          | some k1 =>
            cases k1 with
            | false =>
              simp only [q5] at h
              obtain ⟨rfl, rfl⟩ : R.sh (.bl false) = r ∧ ρ2 = ρ' := by simpa using h
              exact .inl ⟨rfl, rfl, rfl⟩
            | true =>
              simp only [q5] at h
              refine .inr ⟨rfl, ?_⟩
              cases q6 : fc ρ2 with
              | none => simp only [q6] at h; cases h
              | some p3 =>
                obtain ⟨rc, ρ3⟩ := p3
                simp only [q6] at h
                cases q7 : pk (wt rb) ρ3 with
                | none => simp only [q7] at h; cases h
                | some y' =>
                  simp only [q7] at h
                  cases q8 : pk rc ρ3 with
                  | none => simp only [q8] at h; cases h
                  | some z =>
                    simp only [q8] at h
                    cases q9 : cmpB o' y' z with
                    | none => simp only [q9] at h; cases h
                    | some k =>
                      simp only [q9] at h
                      obtain ⟨rfl, rfl⟩ : R.sh (.bl k) = r ∧ ρ3 = ρ' := by simpa using h
                      exact ⟨rc, y', z, k, rfl, q7, q8, q9, rfl⟩
theorem chain_weak {o o' : CmOp} {fa fb fc : Env → Option (R × Env)} (σ : L2.St) (H : Hp) (Q : VK) (h : tE G (fChain o o' fa fb fc) σ H Q) : tChain (rdB G.K (cmpB o)) (rdB G.K (cmpB o')) (tE G fa) (tE G fb) (tE G fc) σ H Q := by
  obtain ⟨ρ, F, r, ρ', S, q, h⟩ := h
  obtain ⟨ra, ρ1, rb, ρ2, px, py, q1, q2, q3, q4, q5⟩ := chain_some q
  refine ⟨ρ, F, ra, ρ1, S, q1, fun x H1 F1 S1 e1 r1 => ?_⟩
  obtain ⟨F1', e1', S1', w1⟩ := r1.wait S1
  refine ⟨ρ1, F1', rb, ρ2, S1', q2, fun y H2 F2 S2 e2 r2 => ?_⟩
  obtain ⟨F2', e2', S2', w2⟩ := r2.wait S2
  rcases q5 with ⟨q5, rfl, rfl⟩ | ⟨q5, rc, y', z, k, q6, q7, q8, q9, rfl⟩
  · exact ⟨F2', px, py, false, S2'.sub, (WR.rr ((w1.mono e2).mono e2') : RR G σ H2 F2' _ x (wt ra)).peek S2' q3, (WR.rr w2 : RR G σ H2 F2' _ y (wt rb)).peek S2' q4, q5, false, rfl,
      h _ H2 F2' S2' (e1.trans (e1'.trans (e2.trans e2'))) (.bl false)⟩
  · refine ⟨F2', px, py, true, S2'.sub, (WR.rr ((w1.mono e2).mono e2') : RR G σ H2 F2' _ x (wt ra)).peek S2' q3, (WR.rr w2 : RR G σ H2 F2' _ y (wt rb)).peek S2' q4, q5, true, rfl, ?_⟩
    refine ⟨ρ2, F2', rc, ρ', S2', q6, fun w H3 F3 S3 e3 r3 => ?_⟩
    exact ⟨F3, y', z, k, S3.sub, (WR.rr (w2.mono e3) : RR G σ H3 F3 _ y (wt rb)).peek S3 q7, r3.peek S3 q8, q9, h _ H3 F3 S3 (e1.trans (e1'.trans (e2.trans (e2'.trans e3)))) (.bl k)⟩
theorem e_chain {fa fb fc : Env → Option (R × Env)} (hK : G.K = X.kw) (hu : X.A.units + 65 < cLine) (o o' : CmOp) (ha : PE X a (tE G fa)) (hb : PE X b (tE G fb)) (hc : PE X c (tE G fc)) (hm : lastMarks [cop o, cop o'] [b, c] = false) :
    PE X (.Compare a [cop o, cop o'] [b, c] pos) (tE G (fChain o o' fa fb fc)) := by
  have h := pe_chain (pos := pos) (op_cmp hu o) (op_cmp hu o') ha hb hc hm
  rw [← hK] at h
  exact pe_weak h chain_weak
theorem t_chain {fa fb fc : Env → Option (R × Env)} (hK : G.K = X.kw) (hu : X.A.units + 65 < cLine) (o o' : CmOp) (ha : PE X a (tE G fa)) (hb : PE X b (tE G fb)) (hc : PE X c (tE G fc)) (hm : lastMarks [cop o, cop o'] [b, c] = false) :
    PT X (.Compare a [cop o, cop o'] [b, c] pos) (tB G fun ρ => tstR (fChain o o' fa fb fc ρ)) := by
  have h := pt_chain (pos := pos) (op_cmp hu o) (op_cmp hu o') ha hb hc hm
  rw [← hK] at h
  refine t_test (fun ρ r ρ' q => ?_) h chain_weak
  obtain ⟨_, _, _, _, _, _, _, _, _, _, q5⟩ := chain_some q
  rcases q5 with ⟨_, _, e⟩ | ⟨_, _, _, _, k, _, _, _, _, e⟩
  · exact ⟨_, e⟩
  · exact ⟨_, e⟩

/-! ### not -/
theorem e_not {f : Env → Option (R × Env)} (hK : G.K = X.kw) (h : PE X a (tE G f)) : PE X (.UnaryOp .Not a pos) (tE G fun ρ => match tstR (f ρ) with | none => none | some (b, ρ1) => some (R.sh (.bl (!b)), ρ1)) := by
  refine pe_weak (pe_notT h) fun σ H Q ⟨ρ, F, r, ρ', S, q, hq⟩ => ?_
  cases q1 : tstR (f ρ) with
  | none => simp only [q1] at q; cases q
  | some p =>
    obtain ⟨k, ρ1⟩ := p
    simp only [q1] at q
    obtain ⟨rfl, rfl⟩ : R.sh (.bl (!k)) = r ∧ ρ1 = ρ' := by simpa using q
    obtain ⟨r, x, e1, e2, e3⟩ := tst_some q1
    refine ⟨ρ, F, r, ρ1, S, e1, fun y H1 F1 S1 x1 r1 => ?_⟩
    have p1 := r1.peek S1 e2
    rw [hK] at p1
    exact ⟨k, p1.tru S1.sub e3, hq _ H1 F1 S1 x1 (.bl _)⟩
theorem t_not {f : Env → Option (R × Env)} (h : PT X a (tB G fun ρ => tstR (f ρ))) : PT X (.UnaryOp .Not a pos) (tB G fun ρ => tstR (match tstR (f ρ) with | none => none | some (b, ρ1) => some (R.sh (.bl (!b)), ρ1))) := by
  refine pt_weak (pt_not h) fun σ H Q ⟨ρ, F, k, ρ', S, q, hq⟩ => ?_
  cases q1 : tstR (f ρ) with
  | none => simp only [q1] at q; cases q
  | some p =>
    obtain ⟨k1, ρ1⟩ := p
    simp only [q1] at q
    obtain ⟨rfl, rfl⟩ := tst_bl q
    exact ⟨ρ, F, k1, ρ1, S, q1, fun H1 F1 S1 x1 => hq H1 F1 S1 x1⟩

/-! ### if -/
theorem e_ite {fc : Env → Option (Bool × Env)} {fa fb : Env → Option (R × Env)} (hc : PT X c (tB G fc)) (ha : PE X a (tE G fa)) (hb : PE X b (tE G fb)) :
    PE X (.IfExp c a b pos) (tE G fun ρ => match fc ρ with | none => none | some (k, ρ1) => if k then fa ρ1 else fb ρ1) := by
  refine pe_weak (pe_ifExp hc ha hb) fun σ H Q ⟨ρ, F, r, ρ', S, q, hq⟩ => ?_
  cases q1 : fc ρ with
  | none => simp only [q1] at q; cases q
  | some p =>
    obtain ⟨k, ρ1⟩ := p
    simp only [q1] at q
    refine ⟨ρ, F, k, ρ1, S, q1, fun H1 F1 S1 e1 => ?_⟩
    cases k with
    | true => exact ⟨ρ1, F1, r, ρ', S1, q, fun x H2 F2 S2 e2 r2 => hq x H2 F2 S2 (e1.trans e2) r2⟩
    | false => exact ⟨ρ1, F1, r, ρ', S1, q, fun x H2 F2 S2 e2 r2 => hq x H2 F2 S2 (e1.trans e2) r2⟩
theorem t_ite {fc : Env → Option (Bool × Env)} {fa fb : Env → Option (R × Env)} (hc : PT X c (tB G fc)) (ha : PT X a (tB G fun ρ => tstR (fa ρ))) (hb : PT X b (tB G fun ρ => tstR (fb ρ))) :
    PT X (.IfExp c a b pos) (tB G fun ρ => tstR (match fc ρ with | none => none | some (k, ρ1) => if k then fa ρ1 else fb ρ1)) := by
  refine ⟨fun pins s σ H Q I ⟨ρ, F, d, ρ', S, q, hq⟩ => ?_⟩
  cases q1 : fc ρ with
  | none => simp only [q1] at q; cases q
  | some p =>
    obtain ⟨k, ρ1⟩ := p
    simp only [q1] at q
    refine isTrue_IfExp (thn (hc.run pins s σ H (fun k' H1 => k' = k ∧ ∃ F1, SOk G σ H1 ρ1 F1 ∧ Ext F F1) I ⟨ρ, F, k, ρ1, S, q1, fun H1 F1 S1 e1 => ⟨rfl, F1, S1, e1⟩⟩) fun k' s1 ⟨H1, I1, ek, F1, S1, e1⟩ => ?_)
    subst ek
    cases k' with
    | true => exact ha.run pins s1 σ H1 Q I1 ⟨ρ1, F1, d, ρ', S1, q, fun H2 F2 S2 e2 => hq H2 F2 S2 (e1.trans e2)⟩
    | false => exact hb.run pins s1 σ H1 Q I1 ⟨ρ1, F1, d, ρ', S1, q, fun H2 F2 S2 e2 => hq H2 F2 S2 (e1.trans e2)⟩

/-! ### and, or -/
abbrev fAnd (f g : Env → Option (R × Env)) : Env → Option (R × Env) := fun ρ => match f ρ with
      | none => none
      | some (r, ρ1) => (match pk r ρ1 with
        | none => none
        | some x => (match truV x with | none => none | some true => g ρ1 | some false => some (wt r, ρ1)))
abbrev fOr (f g : Env → Option (R × Env)) : Env → Option (R × Env) := fun ρ => match f ρ with
      | none => none
      | some (r, ρ1) => (match pk r ρ1 with
        | none => none
        | some x => (match truV x with | none => none | some false => g ρ1 | some true => some (wt r, ρ1)))
theorem and_some {f g : Env → Option (R × Env)} {r : R} (h : fAnd f g ρ = some (r, ρ')) : ∃ ra ρ1 x, f ρ = some (ra, ρ1) ∧ pk ra ρ1 = some x ∧ ((truV x = some true ∧ g ρ1 = some (r, ρ')) ∨ (truV x = some false ∧ r = wt ra ∧ ρ' = ρ1)) := by
  unfold fAnd at h
  cases q1 : f ρ with
  | none => simp only [q1] at h; cases h
  | some p =>
    obtain ⟨ra, ρ1⟩ := p
    simp only [q1] at h
    cases q2 : pk ra ρ1 with
    | none => simp only [q2] at h; cases h
    | some x =>
      simp only [q2] at h
      refine ⟨ra, ρ1, x, rfl, q2, ?_⟩
      cases q3 : truV x with
      | none => simp only [q3] at h; cases h
      | some k =>
        cases k with
        | true => simp only [q3] at h; exact .inl ⟨rfl, h⟩
        | false =>
          simp only [q3] at h
          obtain ⟨rfl, rfl⟩ : wt ra = r ∧ ρ1 = ρ' := by simpa using h
          exact .inr ⟨rfl, rfl, rfl⟩
theorem or_some {f g : Env → Option (R × Env)} {r : R} (h : fOr f g ρ = some (r, ρ')) : ∃ ra ρ1 x, f ρ = some (ra, ρ1) ∧ pk ra ρ1 = some x ∧ ((truV x = some false ∧ g ρ1 = some (r, ρ')) ∨ (truV x = some true ∧ r = wt ra ∧ ρ' = ρ1)) := by
  unfold fOr at h
  cases q1 : f ρ with
  | none => simp only [q1] at h; cases h
  | some p =>
    obtain ⟨ra, ρ1⟩ := p
    simp only [q1] at h
    cases q2 : pk ra ρ1 with
    | none => simp only [q2] at h; cases h
    | some x =>
      simp only [q2] at h
      refine ⟨ra, ρ1, x, rfl, q2, ?_⟩
      cases q3 : truV x with
      | none => simp only [q3] at h; cases h
      | some k =>
        cases k with
        | false => simp only [q3] at h; exact .inl ⟨rfl, h⟩
        | true =>
          simp only [q3] at h
          obtain ⟨rfl, rfl⟩ : wt ra = r ∧ ρ1 = ρ' := by simpa using h
          exact .inr ⟨rfl, rfl, rfl⟩
theorem pk_wt (r : R) (ρ : Env) : pk (wt r) ρ = pk r ρ := by cases r <;> rfl
theorem e_and {f g : Env → Option (R × Env)} {rest : List Expr} (hK : G.K = X.kw) (ha : PE X a (tE G f)) (hb : PE X (.BoolOp .And (b :: rest) pos) (tE G g)) : PE X (.BoolOp .And (a :: b :: rest) pos) (tE G (fAnd f g)) := by
  refine pe_weak (pe_andT ha hb) fun σ H Q ⟨ρ, F, r, ρ', S, q, hq⟩ => ?_
  obtain ⟨ra, ρ1, x, q1, q2, q3⟩ := and_some q
  refine ⟨ρ, F, ra, ρ1, S, q1, fun y H1 F1 S1 e1 r1 => ?_⟩
  have p1 := r1.peek S1 q2
  rw [hK] at p1
  rcases q3 with ⟨q3, q4⟩ | ⟨q3, rfl, rfl⟩
  · exact ⟨true, p1.tru S1.sub q3, ρ1, F1, r, ρ', S1, q4, fun x H2 F2 S2 e2 r2 => hq x H2 F2 S2 (e1.trans e2) r2⟩
  · obtain ⟨F2, e2, S2, w⟩ := r1.wait S1
    exact ⟨false, p1.tru S1.sub q3, hq _ H1 F2 S2 (e1.trans e2) w.rr⟩
theorem e_or {f g : Env → Option (R × Env)} {rest : List Expr} (hK : G.K = X.kw) (ha : PE X a (tE G f)) (hb : PE X (.BoolOp .Or (b :: rest) pos) (tE G g)) : PE X (.BoolOp .Or (a :: b :: rest) pos) (tE G (fOr f g)) := by
  refine pe_weak (pe_orT ha hb) fun σ H Q ⟨ρ, F, r, ρ', S, q, hq⟩ => ?_
  obtain ⟨ra, ρ1, x, q1, q2, q3⟩ := or_some q
  refine ⟨ρ, F, ra, ρ1, S, q1, fun y H1 F1 S1 e1 r1 => ?_⟩
  have p1 := r1.peek S1 q2
  rw [hK] at p1
  rcases q3 with ⟨q3, q4⟩ | ⟨q3, rfl, rfl⟩
  · exact ⟨false, p1.tru S1.sub q3, ρ1, F1, r, ρ', S1, q4, fun x H2 F2 S2 e2 r2 => hq x H2 F2 S2 (e1.trans e2) r2⟩
  · obtain ⟨F2, e2, S2, w⟩ := r1.wait S1
    exact ⟨true, p1.tru S1.sub q3, hq _ H1 F2 S2 (e1.trans e2) w.rr⟩
theorem pw_weak {t t' : TT} (h : PW X e t) (hw : ∀ σ H Q, t' σ H Q → t σ H Q) : PW X e t' := ⟨fun wh pins s σ H Q I w => h.run wh pins s σ H Q I (hw σ H Q w)⟩
theorem w_and {f g : Env → Option (R × Env)} {rest : List Expr} (ha : PT X a (tB G fun ρ => tstR (f ρ))) (hb : PW X (.BoolOp .And (b :: rest) pos) (tB G fun ρ => tstR (g ρ))) : PW X (.BoolOp .And (a :: b :: rest) pos) (tB G fun ρ => tstR (fAnd f g ρ)) := by
  refine pw_weak (pw_and ha hb) fun σ H Q ⟨ρ, F, k, ρ', S, q, hq⟩ => ?_
  obtain ⟨r, x, e1, e2, e3⟩ := tst_some q
  obtain ⟨ra, ρ1, x', q1, q2, q3⟩ := and_some e1
  rcases q3 with ⟨q3, q4⟩ | ⟨q3, rfl, rfl⟩
  · refine ⟨ρ, F, true, ρ1, S, by simp only [tstR, q1, q2, q3], fun H1 F1 S1 x1 => ?_⟩
    exact ⟨ρ1, F1, k, ρ', S1, by simp only [tstR, q4, e2, e3], fun H2 F2 S2 x2 => hq H2 F2 S2 (x1.trans x2)⟩
  · rw [pk_wt, q2] at e2
    obtain rfl := Option.some.inj e2
    rw [q3] at e3
    obtain rfl := Option.some.inj e3
    exact ⟨ρ, F, false, ρ', S, by simp only [tstR, q1, q2, q3], fun H1 F1 S1 x1 => hq H1 F1 S1 x1⟩
theorem w_or {f g : Env → Option (R × Env)} {rest : List Expr} (ha : PT X a (tB G fun ρ => tstR (f ρ))) (hb : PW X (.BoolOp .Or (b :: rest) pos) (tB G fun ρ => tstR (g ρ))) : PW X (.BoolOp .Or (a :: b :: rest) pos) (tB G fun ρ => tstR (fOr f g ρ)) := by
  refine pw_weak (pw_or ha hb) fun σ H Q ⟨ρ, F, k, ρ', S, q, hq⟩ => ?_
  obtain ⟨r, x, e1, e2, e3⟩ := tst_some q
  obtain ⟨ra, ρ1, x', q1, q2, q3⟩ := or_some e1
  rcases q3 with ⟨q3, q4⟩ | ⟨q3, rfl, rfl⟩
  · refine ⟨ρ, F, false, ρ1, S, by simp only [tstR, q1, q2, q3], fun H1 F1 S1 x1 => ?_⟩
    exact ⟨ρ1, F1, k, ρ', S1, by simp only [tstR, q4, e2, e3], fun H2 F2 S2 x2 => hq H2 F2 S2 (x1.trans x2)⟩
  · rw [pk_wt, q2] at e2
    obtain rfl := Option.some.inj e2
    rw [q3] at e3
    obtain rfl := Option.some.inj e3
    exact ⟨ρ, F, true, ρ', S, by simp only [tstR, q1, q2, q3], fun H1 F1 S1 x1 => hq H1 F1 S1 x1⟩

/-! ### slices -/
theorem p_none : PO X none (tP G fun ρ => some (none, ρ)) := by
  refine ⟨fun pins s σ H Q I ⟨ρ, F, o, ρ', S, q, hq⟩ => po_none.run pins s σ H Q I ?_⟩
  obtain ⟨rfl, rfl⟩ : none = o ∧ ρ = ρ' := by simpa using q
  exact hq H F S (Ext.refl F)
theorem p_some {f : Env → Option (R × Env)} (h : PE X e (tE G f)) : PO X (some e) (tP G fun ρ => optR (f ρ)) := by
  refine ⟨fun pins s σ H Q I ⟨ρ, F, o, ρ', S, q, hq⟩ => (po_some h).run pins s σ H Q I ?_⟩
  cases q1 : f ρ with
  | none => simp only [q1] at q; cases q
  | some p =>
    obtain ⟨r, ρ1⟩ := p
    have q' : (match pk r ρ1 with | some (.int i) => some (some i, ρ1) | _ => none) = some (o, ρ') := by
      have z : optR (f ρ) = some (o, ρ') := q
      rw [q1] at z
      exact z
    cases q2 : pk r ρ1 with
    | none => rw [q2] at q'; cases q'
    | some x =>
      rw [q2] at q'
      cases x with
      | int i =>
        obtain ⟨rfl, rfl⟩ : some i = o ∧ ρ1 = ρ' := by simpa using q'
        refine ⟨ρ, F, r, ρ1, S, q1, fun y H1 F1 S1 e1 r1 => ?_⟩
        obtain rfl := (r1.peek S1 q2).int
        exact ⟨i, rfl, hq H1 F1 S1 e1⟩
      | _ => cases q'
theorem e_slice {fa : Env → Option (R × Env)} {fl fh : Env → Option (Option Int × Env)} {lo hi : Option Expr} {p2 : Pos} (hK : G.K = X.kw) (ha : PE X a (tE G fa)) (hl : PO X lo (tP G fl)) (hh : PO X hi (tP G fh)) :
    PE X (.Subscript a (.Slice lo hi none p2) pos) (tE G fun ρ => match fa ρ with
    | none => none
    | some (ra, ρ1) => (match fl ρ1 with
      | none => none
      | some (l, ρ2) => (match fh ρ2 with
        | none => none
        | some (h, ρ3) => (match pk (wt ra) ρ3 with
          | none => none
          | some x => (match sl3 x l h with | none => none | some z => some (z.r, ρ3)))))) := by
  have h := pe_slice (pos := pos) (p2 := p2) sl_any ha hl hh
  rw [← hK] at h
  refine pe_weak h fun σ H Q ⟨ρ, F, r, ρ', S, q, hq⟩ => ?_
  cases q1 : fa ρ with
  | none => simp only [q1] at q; cases q
  | some p =>
    obtain ⟨ra, ρ1⟩ := p
    simp only [q1] at q
    cases q2 : fl ρ1 with
    | none => simp only [q2] at q; cases q
    | some p2 =>
      obtain ⟨l, ρ2⟩ := p2
      simp only [q2] at q
      cases q3 : fh ρ2 with
      | none => simp only [q3] at q; cases q
      | some p3 =>
        obtain ⟨h', ρ3⟩ := p3
        simp only [q3] at q
        cases q4 : pk (wt ra) ρ3 with
        | none => simp only [q4] at q; cases q
        | some px =>
          simp only [q4] at q
          cases q5 : sl3 px l h' with
          | none => simp only [q5] at q; cases q
          | some z =>
            simp only [q5] at q
            obtain ⟨rfl, rfl⟩ : z.r = r ∧ ρ3 = ρ' := by simpa using q
            refine ⟨ρ, F, ra, ρ1, S, q1, fun x H1 F1 S1 e1 r1 => ?_⟩
            obtain ⟨F1', e1', S1', w1⟩ := r1.wait S1
            refine ⟨ρ1, F1', l, ρ2, S1', q2, fun H2 F2 S2 e2 => ⟨ρ2, F2, h', ρ3, S2, q3, fun H3 F3 S3 e3 => ?_⟩⟩
            exact ⟨F3, px, z, S3.sub, (WR.rr ((w1.mono e2).mono e3) : RR G σ H3 F3 ρ3 x (wt ra)).peek S3 q4, q5, Post.mk S3 fun x' H' F' S' e' r' => hq x' H' F' S' (e1.trans (e1'.trans (e2.trans (e3.trans e')))) r'⟩
end
end Py

/-! Pv8: reversed; built-ins; methods; lists of one's own changed. -/
namespace Py
open PySem PySem.Spec PyProof.Rows L2
section
variable {prog : Program} {w : World} {A : Around} {E : Value → Shared → Prop} {s : Shared}
theorem rev_places (n : Nat) : Builtin.Slice.slicePlaces ((n : Int) - 1) (-1) (-1) = n := by
  unfold Builtin.Slice.slicePlaces
  rw [if_neg (by decide)]
  by_cases h : n = 0
  · subst h; rfl
  · rw [if_pos (by omega)]
    have e : (- -1 : Int) = 1 := rfl
    rw [e, Int.ediv_one]
    omega
theorem rev_pick (xs : List Value) : (List.range xs.length).filterMap (fun (k : Nat) => xs.toArray[(((xs.length : Nat) : Int) - 1 + (k : Int) * -1).toNat]?) = xs.reverse := by
  refine List.ext_getElem? fun i => ?_
  have hm : (List.range xs.length).filterMap (fun (k : Nat) => xs.toArray[(((xs.length : Nat) : Int) - 1 + (k : Int) * -1).toNat]?) = (List.range xs.length).map fun k => xs.getD (xs.length - 1 - k) .none := by
    have h : ∀ L : List Nat, (∀ k ∈ L, k < xs.length) → L.filterMap (fun (k : Nat) => xs.toArray[(((xs.length : Nat) : Int) - 1 + (k : Int) * -1).toNat]?) = L.map fun k => xs.getD (xs.length - 1 - k) .none := fun L => by
      induction L with
      | nil => intro _; rfl
      | cons k L ih =>
        intro hL
        have hk := hL k List.mem_cons_self
        have e : (((xs.length : Nat) : Int) - 1 + (k : Int) * -1).toNat = xs.length - 1 - k := by omega
        rw [List.filterMap_cons, e, List.map_cons, ← ih fun z hz => hL z (List.mem_cons_of_mem _ hz)]
        rw [List.getElem?_toArray, List.getElem?_eq_getElem (by omega), List.getD_eq_getElem?_getD, List.getElem?_eq_getElem (by omega)]
        rfl
    exact h _ fun k hk => List.mem_range.mp hk
  rw [hm]
  by_cases hi : i < xs.length
  · rw [List.getElem?_map, List.getElem?_range hi, List.getElem?_reverse hi]
    show some (xs.getD (xs.length - 1 - i) .none) = _
    rw [List.getD_eq_getElem?_getD, List.getElem?_eq_getElem (by omega)]
    rfl
  · rw [List.getElem?_eq_none (by simp; omega), List.getElem?_eq_none (by simp; omega)]
/-- t[::-1] of a tuple -/
theorem tup_back {t sl : Addr} {xs : List Value} {vl vu vs : Value} {Q : Value → Shared → Prop} (ht : IsTup s.heap t xs.toArray) (hs : s.heap.IsSliceOf sl vl vu vs) (pl : IsPart vl none) (pu : IsPart vu none) (ps : IsPart vs (some (-1))) (hz : xs.length ≤ sizeLine)
    (h : Q (.ref s.heap.objs.size) { s with heap := s.heap.push { cls := .type "tuple", data := .seq xs.reverse.toArray } }) : wpAny (model prog w) A (getItem (.ref t) (.ref sl)) Q E s := by
  have fits : sizeOk (.seq xs.reverse.toArray) := by show xs.reverse.toArray.size ≤ sizeLine; simpa using hz
  obtain ⟨os, hos, cs, ds⟩ := id hs
  have hT : s.TypeIs (.ref sl) "slice" := ⟨os, hos, cs⟩
  unfold getItem
  try with_reducible refine wpAny_holding ?_
  first | refine wpAny_bind (wpAny_pure ?_) | skip
  refine wpAny_bind (wpAny_sequenceKey ht.typeIs (by decide) ?_)
  refine wpAny_bind (wpAny_callSpecial?_slot (name := Str.ofString "__getitem__") ht.typeIs PyProof.Rows.slot_tuple_getitem
    (wpAny_call_entry PyProof.Rows.slot_tuple_getitem ht.typeIs entry_tuple_getitem ?_ (args_tuple_getitem _ _)))
  show wpAny _ _ (Builtin.Tuple.tupleItemsOf (.ref t) >>= _) _ _ s
  refine wpAny_bind (tupleItemsOf_ ht (wpAny_bind (wpAny_typeOf hT ?_)))
  rw [if_pos (by decide)]
  have adj : Builtin.Slice.sliceAdjust none none (-1) ((xs.toArray.size : Nat) : Int) = (((xs.toArray.size : Nat) : Int) - 1, -1) := rfl
  have app : ∀ {R : Int × Int × Nat → Shared → Prop} (B : Around), R (((xs.toArray.size : Nat) : Int) - 1, -1, xs.toArray.size) s → ∀ F, wpAny (model prog w) B (Builtin.Slice.sliceApplied (.ref sl) (pure ((xs.toArray.size : Nat) : Int))) R F s := fun {R} B hR F => by
    unfold Builtin.Slice.sliceApplied Builtin.Slice.sliceFields
    refine wpAny_bind (wpAny_bind (wpAny_field hos ds (x := vl) rfl (wpAny_bind (wpAny_field hos ds (x := vu) rfl (wpAny_bind (wpAny_field hos ds (x := vs) rfl (wpAny_pure ?_)))))))
    refine wpAny_bind (HT.slicePart_ ps ?_)
    show wpAny _ _ (if ((-1 : Int) == 0) = true then _ else _) _ _ s
    rw [if_neg (by decide)]
    refine wpAny_bind (HT.slicePart_ pl (wpAny_bind (HT.slicePart_ pu (wpAny_bind (wpAny_pure ?_)))))
    show wpAny _ _ (match Builtin.Slice.sliceAdjust none none (-1) ((xs.toArray.size : Nat) : Int) with | (lo, hi) => pure (lo, (-1 : Int), Builtin.Slice.slicePlaces lo hi (-1))) _ _ s
    rw [adj]
    show wpAny _ _ (pure (((xs.toArray.size : Nat) : Int) - 1, (-1 : Int), Builtin.Slice.slicePlaces (((xs.toArray.size : Nat) : Int) - 1) (-1) (-1))) _ _ s
    rw [rev_places]
    exact wpAny_pure hR
  refine wpAny_bind (app _ ?_ _)
  have hno : ¬ ((((xs.toArray.size : Nat) : Int) - 1 == 0 && (-1 : Int) == 1 && xs.toArray.size == xs.toArray.size) = true) := by
    rw [show ((-1 : Int) == 1) = false from rfl, Bool.and_false, Bool.false_and]
    exact Bool.false_ne_true
  show wpAny _ _ (if (((xs.toArray.size : Nat) : Int) - 1 == 0 && (-1 : Int) == 1 && xs.toArray.size == xs.toArray.size) = true then _ else _) _ _ s
  rw [if_neg hno]
  have pk := rev_pick xs
  rw [← List.size_toArray] at pk
  rw [pk]
  first
    | exact wpAny_bind (m := Builtin.Tuple.tupleExact _) (wpAny_newObj_type (wpAny_pure ⟨_, rfl, wpAny_pure h⟩) fits)
    | exact wpAny_bind (m := Builtin.Tuple.tupleExact _) (wpAny_newObj_type (wpAny_bind (wpAny_pure (wpAny_pure ⟨_, rfl, wpAny_pure h⟩))) fits)
    | exact wpAny_bind (wpAny_bind (m := Builtin.Tuple.tupleExact _) (wpAny_newObj_type (wpAny_pure (wpAny_pure ⟨_, rfl, wpAny_pure h⟩)) fits))
    | exact wpAny_bind (wpAny_bind (m := Builtin.Tuple.tupleExact _) (wpAny_newObj_type (wpAny_pure ⟨_, rfl, wpAny_pure h⟩) fits))
end
section
variable {X : Cx} {G : Gh} {σ : L2.St} {H H' : Hp} {ρ ρ' : Env} {F F' : Hp} {a b c e : Expr} {pos : Pos}

/-! ### reversed -/
theorem rev_picked (x : Str) (l u st : Option (Int × Tok)) (hl : l.map (·.1) = none) (hu : u.map (·.1) = none) (hs : st.map (·.1) = some (-1)) : slicePicked x l u st = (List.range x.length).reverse := by
  unfold slicePicked
  rw [hl, hu, hs]
  have e : Builtin.Str.strSliceIndices none none ((some (-1) : Option Int).getD 1) x.length = sliceRange ((x.length : Int) - 1) (-1) (-1) := rfl
  rw [e, PySem.W.krv_sliceRange, PySem.W.krv_range]
theorem pe_revA {te : TE} {k : Nat} {p1 p2 p3 pos : Pos} (he : PE X e te) : PE X (.Subscript e (.Slice none none (some (.UnaryOp .USub (.Constant (.int 1) k p1) p2)) p3) pos) (fun σ H Q => te σ H fun x H1 => rd1 X.kw rev1 x H1 Q) := by
  refine ⟨fun pins s σ H Q I h => ?_⟩
  refine Subscript_ (thn (he.run pins s σ H _ I h) fun v s1 ⟨x, H1, I1, r1, q1⟩ => ?_)
  obtain ⟨F, px, res, ex, hx, hd, P⟩ := q1
  have hst : PO X (some (.UnaryOp .USub (.Constant (.int 1) k p1) p2)) (tPart (tUn (rU fun i => .int (-i)) (tC (.int 1)))) := po_some (pe_un un_neg pe_int)
  refine wpAny_Slice (thn (po_none.run pins s1 σ H1 (fun o H2 => o = none ∧ H2 = H1) I1 ⟨rfl, rfl⟩) fun vl s2 ⟨l, H2, I2, pl, el, e2⟩ => ?_)
  subst el e2
  refine thn (po_none.run pins s2 σ H2 (fun o H3 => o = none ∧ H3 = H2) I2 ⟨rfl, rfl⟩) fun vu s3 ⟨u, H3, I3, pu, eu, e3⟩ => ?_
  subst eu e3
  refine thn (hst.run pins s3 σ H3 (fun o H4 => o = some (-1) ∧ H4 = H3) I3 ⟨1, rfl, -1, rfl, rfl, rfl⟩) fun vs s4 ⟨o, H4, I4, ps, eo, e4⟩ => ?_
  subst eo e4
  have I5 : Inv X pins σ H4 { s4 with heap := s4.heap.push { cls := .type "slice", data := .fields #[vl, vu, vs] } } := I4.kept (t' := s4.toks) fun b ob q => Heap.get?_push_of_some _ q
  have hdec : rev1 px = some res := hd
  cases px with
  | lst l =>
    obtain ⟨a, xs, rfl, hH, rr⟩ := hx.lst ex
    obtain rfl := Option.some.inj hdec
    cases r1
    obtain ⟨its, r, ht, hz⟩ := I5.list (SqL.of hH)
    have hlen := r.length
    show wpAny (model X.prog X.w) X.A (subscriptTail e (.Slice none none (some (.UnaryOp .USub (.Constant (.int 1) k p1) p2)) p3) (.ref a) (.ref s4.heap.objs.size)) (EP X pins σ Q) X.xe { s4 with heap := s4.heap.push { cls := .type "slice", data := .fields #[vl, vu, vs] } }
    refine tail_any (ops := [.ref a, .ref s4.heap.objs.size]) ht.isList.typeIs (PySem.slot_list_getitem.lookup) ?_ (by with_unfolding_all rfl)
    refine wpAny_getItem_list_slice ht.isList (Heap.IsSliceOf.new _ vl vu vs) pl pu ps (by decide) ?_ (by rw [List.size_toArray]; omega)
    rw [PySem.W.krv_pick]
    refine ⟨.ref _, _, I5.laid (t' := s4.toks) (o := .lst xs.reverse) (fun b ob q => Heap.get?_push_of_some _ q) (Nat.le_refl _) ?_, rfl, P.newL ex rr.reverse (I5.hok.fresh (Nat.le_refl _))⟩
    exact ⟨by rw [List.length_reverse]; exact hz, _, 0, r.reverse, Heap.get?_push_size _ rfl⟩
  | tup l =>
    obtain ⟨a, xs, rfl, hT, rr⟩ := hx.tup
    obtain rfl := Option.some.inj hdec
    cases r1
    obtain ⟨its, r, ht, hz⟩ := I5.tuple (ex.seqT hT)
    have hlen := r.length
    show wpAny (model X.prog X.w) X.A (subscriptTail e (.Slice none none (some (.UnaryOp .USub (.Constant (.int 1) k p1) p2)) p3) (.ref a) (.ref s4.heap.objs.size)) (EP X pins σ Q) X.xe { s4 with heap := s4.heap.push { cls := .type "slice", data := .fields #[vl, vu, vs] } }
    refine tail_any (ops := [.ref a, .ref s4.heap.objs.size]) ht.typeIs (PyProof.Rows.slot_tuple_getitem.lookup) ?_ (by with_unfolding_all rfl)
    refine tup_back ht (Heap.IsSliceOf.new _ vl vu vs) pl pu ps (by omega) ?_
    refine ⟨.ref _, _, I5.laid (t' := s4.toks) (o := .tup xs.reverse) (fun b ob q => Heap.get?_push_of_some _ q) (Nat.le_refl _) ?_, rfl, P.newT ex rr.reverse (I5.hok.fresh (Nat.le_refl _))⟩
    exact ⟨by rw [List.length_reverse]; exact hz, _, r.reverse, ⟨_, Heap.get?_push_size _ rfl, rfl, _, rfl⟩⟩
  | str z =>
    obtain ⟨rfl, ok⟩ := hx.str
    obtain rfl := Option.some.inj hdec
    obtain ⟨t, rfl⟩ := r1
    obtain ⟨l', rfl, hl'⟩ := IsPart.raw pl
    obtain ⟨u', rfl, hu'⟩ := IsPart.raw pu
    obtain ⟨st', rfl, hs'⟩ := IsPart.raw ps
    show wpAny (model X.prog X.w) X.A (subscriptTail e (.Slice none none (some (.UnaryOp .USub (.Constant (.int 1) k p1) p2)) p3) (.str (strP z) t) (.ref s4.heap.objs.size)) (EP X pins σ Q) X.xe { s4 with heap := s4.heap.push { cls := .type "slice", data := .fields #[partValue l', partValue u', partValue st'] } }
    refine tail_any (ops := [.str (strP z) t, .ref s4.heap.objs.size]) (typeIs_str _ _ _) PySem.F.slot_str_getitem.lookup ?_ (by with_unfolding_all rfl)
    refine wpAny_getItem_str_slice (l := l') (u := u') (st := st') ⟨_, Heap.get?_push_size _ rfl, rfl, rfl⟩ (by rw [hs']; rfl) ?_
    have e3 : (⟨((slicePicked (strP z) l' u' st').filterMap ((strP z).cps[·]?)).toArray⟩ : Str) = strP z.reverse := by
      rw [rev_picked _ _ _ _ hl' hu' hs', List.filterMap_reverse]
      have := PySem.W.krv_all (strP z).cps
      have e4 : (strP z).cps.size = (strP z).length := rfl
      rw [e4] at this
      rw [this]
      show strP _ = _
      congr 1
    unfold sliceMade
    rw [hs', if_neg (by simp), e3]
    refine ⟨by rw [strP_length, List.length_reverse, ← line_eq]; exact ok.1, .str _, H4, I5.tok _, ⟨_, rfl⟩, P.sh ex (.str _ ⟨by rw [List.length_reverse]; exact ok.1, fun c hc => ok.2 c (List.mem_reverse.mp hc)⟩)⟩
  | _ => cases hdec
/-! ### texts, every k-th letter -/
theorem fm_congr {α β : Type} {f g : α → Option β} : ∀ {l : List α}, (∀ x ∈ l, f x = g x) → l.filterMap f = l.filterMap g
  | [], _ => rfl
  | x :: l, h => by
    rw [List.filterMap_cons, List.filterMap_cons, h x List.mem_cons_self, fm_congr fun y hy => h y (List.mem_cons_of_mem _ hy)]
theorem step_picked (x : Str) (l u st : Option (Int × Tok)) (lo k : Nat) (hk : 2 ≤ k) (hl : l.map (·.1) = some (lo : Int) ∨ (l.map (·.1) = none ∧ lo = 0)) (hu : u.map (·.1) = none) (hs : st.map (·.1) = some (k : Int)) : (slicePicked x l u st).filterMap (x.cps[·]?) = (List.range ((x.length - lo + k - 1) / k)).filterMap fun j => x.cps[lo + k * j]? := by
  have hkp : ((k : Int) > 0) := by omega
  have e : slicePicked x l u st = sliceRange (min lo x.length : Nat) (x.length : Int) (k : Int) := by
    unfold slicePicked
    rw [hu, hs]
    rcases hl with hl | ⟨hl, rfl⟩
    · rw [hl]
      show sliceRange (if (k : Int) > 0 then max 0 (min (if (lo : Int) < 0 then (lo : Int) + x.length else lo) (x.length : Int)) else _) (if (k : Int) > 0 then (x.length : Int) else -1) k = _
      rw [if_pos hkp, if_pos hkp, if_neg (by omega)]
      congr 1 <;> omega
    · rw [hl]
      show sliceRange (if (k : Int) > 0 then 0 else _) (if (k : Int) > 0 then (x.length : Int) else -1) k = _
      rw [if_pos hkp, if_pos hkp]
      congr 1 <;> omega
  rw [e]
  unfold sliceRange
  simp only [if_pos hkp]
  by_cases h : lo < x.length
  · rw [Nat.min_eq_left (by omega), if_pos (by omega)]
    have e1 : ((x.length : Int) - (lo : Int) + (k : Int) - 1) / (k : Int) = (((x.length - lo + k - 1) / k : Nat) : Int) := by
      rw [Int.natCast_ediv]
      congr 1 <;> omega
    rw [e1, Int.toNat_natCast, List.filterMap_map]
    apply fm_congr
    intro j _
    show x.cps[((lo : Int) + (k : Int) * (j : Int)).toNat]? = _
    congr 1 <;> omega
  · rw [Nat.min_eq_right (by omega), if_neg (by omega), show x.length - lo + k - 1 = k - 1 by omega, Nat.div_eq_of_lt (by omega)]
    rfl
theorem kthL_len (lo k : Nat) (s : List Nat) (hk : 2 ≤ k) : (kthL lo k s).length ≤ s.length := by
  refine Nat.le_trans (List.length_filterMap_le _ _) ?_
  rw [List.length_range]
  by_cases h : s.length - lo = 0
  · rw [h, Nat.div_eq_of_lt (by omega)]; omega
  · have h1 : (s.length - lo + k - 1) / k ≤ s.length - lo := by
      apply Nat.div_le_of_le_mul
      have := Nat.mul_le_mul_right (s.length - lo - 1) (show 1 ≤ k by omega)
      have e : k * (s.length - lo) = k * (s.length - lo - 1) + k := by
        have : s.length - lo = s.length - lo - 1 + 1 := by omega
        rw [this, Nat.mul_succ]; rfl
      rw [e]; omega
    omega
theorem kthL_mem {lo k : Nat} {s : List Nat} {c : Nat} (h : c ∈ kthL lo k s) : c ∈ s := by
  obtain ⟨j, _, h2⟩ := List.mem_filterMap.mp h
  exact List.mem_of_getElem? h2
theorem pe_sst {te : TE} {lo : Option Expr} {tl : TO} {a k n1 : Nat} {p1 p3 pos : Pos} (he : PE X e te) (hlo : PO X lo tl) (ht : ∀ σ H Q, Q (if lo.isNone then none else some (a : Int)) H → tl σ H Q) (ha : lo.isNone = true → a = 0) : PE X (.Subscript e (.Slice lo none (some (.Constant (.int (k : Int)) n1 p1)) p3) pos) (fun σ H Q => te σ H fun x H1 => rd1 X.kw (sst1 a k) x H1 Q) := by
  refine ⟨fun pins s σ H Q I h => ?_⟩
  refine Subscript_ (thn (he.run pins s σ H _ I h) fun v s1 ⟨x, H1, I1, r1, q1⟩ => ?_)
  obtain ⟨F, px, res, ex, hx, hd, P⟩ := q1
  have hst : PO X (some (.Constant (.int (k : Int)) n1 p1)) (tPart (tC (.int (k : Int)))) := po_some pe_int
  refine wpAny_Slice (thn (hlo.run pins s1 σ H1 (fun o H2 => o = (if lo.isNone then none else some (a : Int)) ∧ H2 = H1) I1 (ht _ _ _ ⟨rfl, rfl⟩)) fun vl s2 ⟨l, H2, I2, pl, el, e2⟩ => ?_)
  subst e2
  refine thn (po_none.run pins s2 σ H2 (fun o H3 => o = none ∧ H3 = H2) I2 ⟨rfl, rfl⟩) fun vu s3 ⟨u, H3, I3, pu, eu, e3⟩ => ?_
  subst eu e3
  refine thn (hst.run pins s3 σ H3 (fun o H4 => o = some (k : Int) ∧ H4 = H3) I3 ⟨(k : Int), rfl, rfl, rfl⟩) fun vs s4 ⟨o, H4, I4, ps, eo, e4⟩ => ?_
  subst eo e4
  have I5 : Inv X pins σ H4 { s4 with heap := s4.heap.push { cls := .type "slice", data := .fields #[vl, vu, vs] } } := I4.kept (t' := s4.toks) fun b ob q => Heap.get?_push_of_some _ q
  have hdec : sst1 a k px = some res := hd
  cases px with
  | str z =>
    have hdec : (if 2 ≤ k then some (Res.sh (.str (kthL a k z))) else none) = some res := hdec
    have hk : 2 ≤ k := Classical.byContradiction fun w => by rw [if_neg w] at hdec; cases hdec
    rw [if_pos hk] at hdec
    obtain ⟨rfl, ok⟩ := hx.str
    obtain rfl := Option.some.inj hdec
    obtain ⟨t, rfl⟩ := r1
    obtain ⟨l', rfl, hl'⟩ := IsPart.raw pl
    obtain ⟨u', rfl, hu'⟩ := IsPart.raw pu
    obtain ⟨st', rfl, hs'⟩ := IsPart.raw ps
    show wpAny (model X.prog X.w) X.A (subscriptTail e (.Slice lo none (some (.Constant (.int (k : Int)) n1 p1)) p3) (.str (strP z) t) (.ref s4.heap.objs.size)) (EP X pins σ Q) X.xe { s4 with heap := s4.heap.push { cls := .type "slice", data := .fields #[partValue l', partValue u', partValue st'] } }
    refine tail_any (ops := [.str (strP z) t, .ref s4.heap.objs.size]) (typeIs_str _ _ _) PySem.F.slot_str_getitem.lookup ?_ (by with_unfolding_all rfl)
    refine wpAny_getItem_str_slice (l := l') (u := u') (st := st') ⟨_, Heap.get?_push_size _ rfl, rfl, rfl⟩ (by rw [hs']; simp; omega) ?_
    have hl2 : l'.map (·.1) = some (a : Int) ∨ (l'.map (·.1) = none ∧ a = 0) := by
      rw [hl', el]
      cases hn : lo.isNone with
      | true => exact .inr ⟨rfl, ha hn⟩
      | false => exact .inl rfl
    have e3 : (⟨((slicePicked (strP z) l' u' st').filterMap ((strP z).cps[·]?)).toArray⟩ : Str) = strP (kthL a k z) := by
      rw [step_picked (strP z) l' u' st' a k hk hl2 hu' hs']
      show strP _ = _
      congr 1
      unfold kthL
      rw [strP_length]
      apply fm_congr
      intro j _
      show (strP z).cps[a + k * j]? = _
      simp [strP]
    unfold sliceMade
    rw [hs', if_neg (by simp; omega), e3]
    have hlen := kthL_len a k z hk
    refine ⟨by rw [strP_length, ← line_eq]; exact Nat.le_trans hlen ok.1, .str _, H4, I5.tok _, ⟨_, rfl⟩, P.sh ex (.str _ ⟨Nat.le_trans hlen ok.1, fun c hc => ok.2 c (kthL_mem hc)⟩)⟩
  | _ => cases hdec
theorem e_sst0 {fa : Env → Option (R × Env)} {k n1 : Nat} {p1 p3 pos : Pos} (hK : G.K = X.kw) (he : PE X e (tE G fa)) : PE X (.Subscript e (.Slice none none (some (.Constant (.int (k : Int)) n1 p1)) p3) pos)
    (tE G (fun ρ => match fa ρ with
      | none => none
      | some (r, ρ1) => (match pk r ρ1 with | none => none | some x => (match sst1 0 k x with | none => none | some z => some (z.r, ρ1))))) := by
  have h := pe_sst (a := 0) (k := k) (n1 := n1) (p1 := p1) (p3 := p3) (pos := pos) he po_none (fun σ H Q q => q) (fun _ => rfl)
  rw [← hK] at h
  exact e_one h
theorem e_sst {fa : Env → Option (R × Env)} {a k n0 n1 : Nat} {p0 p1 p3 pos : Pos} (hK : G.K = X.kw) (he : PE X e (tE G fa)) : PE X (.Subscript e (.Slice (some (.Constant (.int (a : Int)) n0 p0)) none (some (.Constant (.int (k : Int)) n1 p1)) p3) pos)
    (tE G (fun ρ => match fa ρ with
      | none => none
      | some (r, ρ1) => (match pk r ρ1 with | none => none | some x => (match sst1 a k x with | none => none | some z => some (z.r, ρ1))))) := by
  have h := pe_sst (a := a) (k := k) (n1 := n1) (p1 := p1) (p3 := p3) (pos := pos) he (po_some (pe_int (i := (a : Int)) (j := n0) (pos := p0))) (fun σ H Q q => ⟨(a : Int), rfl, q⟩) (fun z => by cases z)
  rw [← hK] at h
  exact e_one h
theorem e_rev {fa : Env → Option (R × Env)} {k : Nat} {p1 p2 p3 pos : Pos} (hK : G.K = X.kw) (he : PE X e (tE G fa)) : PE X (.Subscript e (.Slice none none (some (.UnaryOp .USub (.Constant (.int 1) k p1) p2)) p3) pos)
    (tE G (fun ρ => match fa ρ with
      | none => none
      | some (r, ρ1) => (match pk r ρ1 with | none => none | some x => (match rev1 x with | none => none | some z => some (z.r, ρ1))))) := by
  have h := pe_revA (k := k) (p1 := p1) (p2 := p2) (p3 := p3) (pos := pos) he
  rw [← hK] at h
  exact e_one h

/-! ### a built-in called -/
def bstr (b : Blt) : String := match bname b with
  | .fn n => n
  | .ty n => n
theorem boot_b (b : Blt) : bootBuiltins (bstr b) = some (bval b) := by
  cases b with
  | isi ts =>
    show bootBuiltins ("isinstance" : Str) = some (.builtin "isinstance")
    decide +kernel
  | _ => (show bootBuiltins _ = some _) <;> decide +kernel
theorem bstr_name (b : Blt) : (bstr b : Str) ≠ "__name__" ∧ ((bstr b : Str) == ("__debug__" : Str)) = false := by
  cases b with
  | isi ts =>
    show ("isinstance" : Str) ≠ "__name__" ∧ (("isinstance" : Str) == ("__debug__" : Str)) = false
    exact ⟨by decide +kernel, by decide +kernel⟩
  | _ => exact ⟨by decide +kernel, by decide +kernel⟩
/-- no star in a list of arguments -/
def noStar : List Expr → Bool
  | [] => true
  | e :: es => !isStar e && noStar es
theorem noStar_cons {e : Expr} {es : List Expr} (h : noStar (e :: es) = true) : isStar e = false ∧ noStar es = true := by
  unfold noStar at h
  obtain ⟨h1, h2⟩ := and_tt h
  exact ⟨by simpa using h1, h2⟩
theorem noStar_any {pos : Pos} {env : PySem.Env} : ∀ {es : List Expr}, noStar es = true → (backTo pos (starEach es env)).any (·.1) = false ∧ (backTo pos (starEach es env)).all (fun x => !x.1) = true
  | [], _ => ⟨rfl, rfl⟩
  | e :: es, h => by
    obtain ⟨h1, h2⟩ := noStar_cons h
    rw [star_of h1]
    exact noStar_any (es := es) h2
theorem noStar_each {e : Expr} {es : List Expr} (h : noStar (e :: es) = true) (env : PySem.Env) : starEach (e :: es) env = (false, eval e env) :: starEach es env := star_of (noStar_cons h).1 es env
theorem e_bi {f : Env → Option (List R × Env)} {es : List Expr} {p : Pos} (hK : G.K = X.kw) (hu : X.A.units + 65 < cLine) (hc : X.calm = true) (b : Blt) (hb : spB b = false) (hg : Gl X (bstr b)) (hm : X.mg (bstr b) = none) (hn : noStar (e :: es) = true) (ha : PA X (e :: es) (tA G f)) :
    PE X (.Call (.Name (bstr b) p) (e :: es) [] pos) (tE G (fun ρ => match f ρ with
      | none => none
      | some (rs, ρ1) => (match pkL rs ρ1 with | none => none | some vs => (match bi1 b vs with | none => none | some z => some (z.r, ρ1))))) := by
  have hcall := call_any hu hc b hb
  have hv := boot_b b
  obtain ⟨n1, n2⟩ := bstr_name b
  refine e_args ?_
  rw [hK]
  unfold bval at hcall hv
  cases hbn : bname b with
  | fn n =>
    rw [hbn] at hcall hv
    exact pe_callB hcall hg hm hv ha n1 n2 (noStar_each hn _) (noStar_any (noStar_cons hn).2).1
  | ty n =>
    rw [hbn] at hcall hv
    exact pe_callTy hcall hg hm hv ha n1 n2 (noStar_each hn _) (noStar_any (noStar_cons hn).2).1

/-! ### isinstance -/
theorem kV_name (n : String) : RelV (.ty n) (.type n) := rfl
theorem e_isi {f : Env → Option (R × Env)} {e : Expr} {p p2 : Pos} {t : Nat} (hK : G.K = X.kw) (ht : t < 5) (hg : Gl X "isinstance") (hm : X.mg "isinstance" = none) (hgt : Gl X (tyName t)) (hmt : X.mg (tyName t) = none) (hs : isStar e = false) (he : PE X e (tE G f)) :
    PE X (.Call (.Name "isinstance" p) [e, .Name (tyName t) p2] [] pos) (tE G (fun ρ => match (match f ρ with
        | none => none
        | some (r, ρ1) => some ([wt r], ρ1)) with
      | none => none
      | some (rs, ρ1) => (match pkL rs ρ1 with | none => none | some vs => (match bi1 (.isi [t]) vs with | none => none | some z => some (z.r, ρ1))))) := by
  have h5 : t = 0 ∨ t = 1 ∨ t = 2 ∨ t = 3 ∨ t = 4 := by omega
  have hT : PE X (.Name (tyName t) p2) (tC (.ty (tyName t))) := by
    refine pe_bltn hgt hmt ?_ (kV_name _) ?_ ?_
    · rcases h5 with rfl | rfl | rfl | rfl | rfl <;> decide +kernel
    · rcases h5 with rfl | rfl | rfl | rfl | rfl <;> decide +kernel
    · rcases h5 with rfl | rfl | rfl | rfl | rfl <;> decide +kernel
  have hA : PA X [e, .Name (tyName t) p2] (tCons (tE G f) (tCons (tC (.ty (tyName t))) tNil)) := pa_cons he (pa_cons hT pa_nil rfl) (star_of hs _ _)
  have h := pe_callB (pos := pos) (p := p) call_isi hg hm (by decide +kernel) hA (by decide +kernel) (by decide +kernel) (star_of hs _ _) rfl
  refine pe_weak h fun σ H Q ⟨ρ, F, r, ρ', S, q, hq⟩ => ?_
  cases q1 : f ρ with
  | none => simp only [q1] at q; cases q
  | some pp =>
    obtain ⟨r0, ρ1⟩ := pp
    simp only [q1] at q
    have q' : (match pkL [wt r0] ρ1 with | none => none | some vs => (match bi1 (.isi [t]) vs with | none => none | some z => some (z.r, ρ1))) = some (r, ρ') := q
    cases q2 : pk (wt r0) ρ1 with
    | none => simp only [pkL, q2] at q'; cases q'
    | some px =>
      simp only [pkL, q2, bi1] at q'
      have hnd : ∀ ks vs, px ≠ .dict true ks vs := fun ks vs z => by rw [z] at q'; cases q'
      have hns : ∀ l, px ≠ .set l := fun l z => by rw [z] at q'; cases q'
      obtain ⟨rfl, rfl⟩ : R.sh (.bl (isA t px)) = r ∧ ρ1 = ρ' := by
        cases px with
        | dict b ks vs =>
          cases b with
          | true => exact absurd rfl (hnd ks vs)
          | false => simpa [Res.r] using q'
        | set l => exact absurd rfl (hns l)
        | _ => simpa [Res.r] using q'
      refine ⟨ρ, F, r0, ρ1, S, q1, fun y H1 F1 S1 e1 r1 => ?_⟩
      rw [pk_wt] at q2
      have p1 := r1.peek S1 q2
      have ty := p1.ty S1.sub hnd hns
      rw [hK] at ty
      exact ⟨y, .ty (tyName t), _, .type (tyName t), isA t px, rfl, .ty _, ty, kit_ty (kit_all t ht px), hq _ H1 F1 S1 e1 (.bl _)⟩

/-! ### methods -/
def baseOk : Expr → Bool
  | .Call _ _ _ _ => false
  | _ => true
theorem base_of {o : Expr} {name : Str} {env : PySem.Env} {w : Sem Value} (h : baseOk o = true) : attributeBase o name env w = w := by
  cases o <;> first | rfl | cases h
theorem few_of {es : List Expr} {pos : Pos} {env : PySem.Env} (hn : noStar es = true) (hl : es.length < 29) : ((backTo pos (starEach es env)).all (fun x => !x.1) && (backToKw pos (keywordEach [] env)).all (fun x => x.1.isSome)
      && decide (es.length + ([] : List Keyword).length + (if ([] : List Keyword).isEmpty then 0 else 1) < 30)) = true := by
  rw [(noStar_any hn).2, Bool.true_and]
  show (true && decide (es.length + 0 + 0 < 30)) = true
  rw [Bool.true_and]
  exact decide_eq_true (by omega)
def mName : Mth → String
  | .join => "join"
  | .index => "index"
  | .count => "count"
abbrev fMt (m : Mth) (fo : Env → Option (R × Env)) (fa : Env → Option (List R × Env)) : Env → Option (R × Env) := fun ρ => match fo ρ with
    | none => none
    | some (ro, ρ1) => (match pk ro ρ1 with
      | none => none
      | some x0 => if mtTy m x0 then (match fa ρ1 with
        | none => none
        | some (rs, ρ2) => (match pk (wt ro) ρ2 with
          | none => none
          | some x => (match pkL rs ρ2 with | none => none | some vs => (match mt1 m x vs with | none => none | some z => some (z.r, ρ2)))))
        else none)
theorem mt_some {m : Mth} {fo : Env → Option (R × Env)} {fa : Env → Option (List R × Env)} {r : R} (h : fMt m fo fa ρ = some (r, ρ')) :
    ∃ ro ρ1 x0 rs x vs z, fo ρ = some (ro, ρ1) ∧ pk ro ρ1 = some x0 ∧ mtTy m x0 = true ∧ fa ρ1 = some (rs, ρ') ∧ pk (wt ro) ρ' = some x ∧ pkL rs ρ' = some vs ∧ mt1 m x vs = some z ∧ r = z.r := by
  unfold fMt at h
  cases q1 : fo ρ with
  | none => simp only [q1] at h; cases h
  | some p =>
    obtain ⟨ro, ρ1⟩ := p
    simp only [q1] at h
    cases q2 : pk ro ρ1 with
    | none => simp only [q2] at h; cases h
    | some x0 =>
      simp only [q2] at h
      by_cases q3 : mtTy m x0 = true
      · rw [if_pos q3] at h
        cases q4 : fa ρ1 with
        | none => simp only [q4] at h; cases h
        | some p2 =>
          obtain ⟨rs, ρ2⟩ := p2
          simp only [q4] at h
          cases q5 : pk (wt ro) ρ2 with
          | none => simp only [q5] at h; cases h
          | some x =>
            simp only [q5] at h
            cases q6 : pkL rs ρ2 with
            | none => simp only [q6] at h; cases h
            | some vs =>
              simp only [q6] at h
              cases q7 : mt1 m x vs with
              | none => simp only [q7] at h; cases h
              | some z =>
                simp only [q7] at h
                obtain ⟨rfl, rfl⟩ : z.r = r ∧ ρ2 = ρ' := by simpa using h
                exact ⟨ro, ρ1, x0, rs, x, vs, z, rfl, q2, q3, q4, q5, q6, q7, rfl⟩
      · rw [if_neg q3] at h; cases h
theorem joinS_eq (sep : List Nat) : ∀ ss : List (List Nat), Txt.join (strP sep) (ss.map strP) = strP (joinS sep ss) := by
  have key : ∀ (r : List (List Nat)) (acc : List Nat), List.foldl (fun a (p : Str) => a ++ (strP sep).cps ++ p.cps) acc.toArray (r.map strP) = (acc ++ (r.map fun s => sep ++ s).flatten).toArray := by
    intro r
    induction r with
    | nil => intro acc; simp
    | cons s r ih =>
      intro acc
      rw [List.map_cons, List.foldl_cons]
      have e : acc.toArray ++ (strP sep).cps ++ (strP s).cps = (acc ++ sep ++ s).toArray := by
        show acc.toArray ++ sep.toArray ++ s.toArray = _
        simp
      rw [e, ih]
      simp
  have js : ∀ (r : List (List Nat)) (s : List Nat), joinS sep (s :: r) = s ++ (r.map fun s => sep ++ s).flatten := by
    intro r
    induction r with
    | nil => intro s; simp [joinS]
    | cons t r ih =>
      intro s
      rw [show joinS sep (s :: t :: r) = s ++ sep ++ joinS sep (t :: r) from rfl, ih]
      simp
  intro ss
  cases ss with
  | nil => rfl
  | cons s r =>
    rw [js]
    show Builtin.Str.glued (strP sep) (strP s :: r.map strP) = _
    unfold Builtin.Str.glued
    exact congrArg Str.mk (key r s)
theorem joinS_len (sep : List Nat) : ∀ ss : List (List Nat), (joinS sep ss).length ≤ (ss.map (·.length)).sum + ss.length * sep.length
  | [] => by simp [joinS]
  | [s] => by simp [joinS]
  | s :: t :: r => by
    have := joinS_len sep (t :: r)
    rw [show joinS sep (s :: t :: r) = s ++ sep ++ joinS sep (t :: r) from rfl, List.length_append, List.length_append]
    rw [List.map_cons, List.sum_cons]
    have e : (s :: t :: r).length * sep.length = (t :: r).length * sep.length + sep.length := by
      rw [List.length_cons, Nat.succ_mul]
    omega
theorem joinS_ok {sep : List Nat} (hs : OkS sep) : ∀ {ss : List (List Nat)}, (∀ s ∈ ss, OkS s) → ∀ c ∈ joinS sep ss, c < 1114112
  | [], _, c, hc => by simp [joinS] at hc
  | [s], h, c, hc => (h s (by simp)).2 c hc
  | s :: t :: r, h, c, hc => by
    rw [show joinS sep (s :: t :: r) = s ++ sep ++ joinS sep (t :: r) from rfl] at hc
    rcases List.mem_append.mp hc with hc | hc
    · rcases List.mem_append.mp hc with hc | hc
      · exact (h s (by simp)).2 c hc
      · exact hs.2 c hc
    · exact joinS_ok hs (fun s' h' => h s' (List.mem_cons_of_mem _ h')) c hc
theorem placeOf_spec {x : PV} : ∀ {l : List PV} {n j : Nat}, placeOf x n l = some j → ∃ k y, j = n + k ∧ l[k]? = some y ∧ eqv y x = true ∧ ∀ m z, m < k → l[m]? = some z → eqv z x = false
  | [], n, j, h => by cases h
  | y :: r, n, j, h => by
    unfold placeOf at h
    by_cases q : eqv y x = true
    · rw [if_pos q] at h
      obtain rfl := Option.some.inj h
      exact ⟨0, y, rfl, rfl, q, fun m z hm => absurd hm (Nat.not_lt_zero _)⟩
    · rw [if_neg q] at h
      obtain ⟨k, z, h1, h2, h3, h4⟩ := placeOf_spec h
      refine ⟨k + 1, z, by omega, by simpa using h2, h3, fun m z' hm hz => ?_⟩
      cases m with
      | zero =>
        have : y = z' := by simpa using hz
        subst this
        simpa using q
      | succ m => exact h4 m z' (by omega) (by simpa using hz)
/-- l.count(x): how many items are equal to x -/
def rCnt (K : PySem.W.Frag) : V → List V → Hp → VK → Prop := fun x xs H Q => ∃ (b : Addr) (w : V) (dw : PyData) (dl : List PyData), x = V.ref b ∧ xs = [w] ∧ (Dp K H (V.ref b) (.list dl) ∧ Dp K H w dw) ∧
  (SeqAt.shaped (.list dl) = true ∧ SeqAt.shaped dw = true) ∧ Q (.int ((dl.countP fun z => PyData.eqv z dw : Nat) : Int)) H
theorem mt_cnt (hu : X.A.units + 65 < cLine) : MtR X "list.count" (rCnt X.K) := by
  intro pins st ss Hh vx vxs pv pus QQ J rvx rvs hyp
  obtain ⟨b, w, dw, dl, rfl, rfl, ⟨dpl, dpw⟩, ⟨shl, shw⟩, qq⟩ := hyp
  cases rvx
  cases rvs with
  | cons rw1 rw2 =>
    rename_i uw ur
    cases rw2
    obtain ⟨cs, rd1⟩ := Dp.reads J dw w uw dpw rw1
    have lay : PyData.canLayAll0 dl = true := SeqAt.canLay_of_shaped shl
    have room : X.A.units + 1 + min (PyData.depthAll dl) dw.depth < cLine := room_in_shaped shw hu
    cases dpl with
    | lst hseq hall =>
      obtain ⟨items, rvs, ⟨⟨cl, di, da, sl⟩, m, hob, hcl, hdi, hda⟩, hle⟩ := J.list hseq
      simp only at hcl hda
      subst hcl hda
      obtain ⟨bs, rdl⟩ := Dp.readsAll J dl _ items hall rvs
      have hmp : items.map (SeqAt.readOf st.heap) = dl := SeqAt.readsAll_map dl items bs lay rdl
      have hEq := SeqAt.items_eqAt (vs := items.toArray) (show ReadsAll st.heap items.toArray.toList dl bs from rdl) rd1 lay (SeqAt.canLay_of_shaped shw) room
      have hcount : items.toArray.toList.countP (fun u => PyData.eqv (SeqAt.readOf st.heap u) dw) = dl.countP fun z => PyData.eqv z dw := by
        rw [← hmp, List.countP_map]; rfl
      have hm := SeqAt.list_countAt b items.toArray m di sl uw fun u => PyData.eqv (SeqAt.readOf st.heap u) dw
      refine call_meets PySem.F.slot_list_count ⟨_, hob, rfl⟩ PySem.F.entry_list_count (PySem.F.args_list_count_2 _ _) hm ⟨hob, hEq, ?_⟩
      rw [hcount]
      exact ⟨.int _, Hh, J.tok _, ⟨_, rfl⟩, qq⟩
theorem e_mt {fo : Env → Option (R × Env)} {fa : Env → Option (List R × Env)} {o e : Expr} {es : List Expr} {apos cpos : Pos} (hK : G.K = X.kw) (hu : X.A.units + 65 < cLine) (m : Mth) (ho : PE X o (tE G fo)) (ha : PA X (e :: es) (tA G fa)) (hb : baseOk o = true)
    (hn : noStar (e :: es) = true) (hl : (e :: es).length < 29) (hline : (apos.endLine == cpos.line) = true) : PE X (.Call (.Attribute o (mName m) apos) (e :: es) [] cpos) (tE G (fMt m fo fa)) := by
  cases m with
  | join =>
    have h := pe_bm (cpos := cpos) (apos := apos) PySem.F.plainAttrs_str PySem.F.slot_str_join PySem.F.type_str_join mt_join ho ha (base_of hb) (few_of hn hl) hline (noStar_each hn _) (noStar_any (noStar_cons hn).2).1
    refine pe_weak h fun σ H Q ⟨ρ, F, r, ρ', S, q, hq⟩ => ?_
    obtain ⟨ro, ρ1, x0, rs, x, vs, z, q1, q2, q3, q4, q5, q6, q7, rfl⟩ := mt_some q
    refine ⟨ρ, F, ro, ρ1, S, q1, fun y H1 F1 S1 e1 r1 => ?_⟩
    have p1 := r1.peek S1 q2
    obtain ⟨F1', e1', S1', w1⟩ := r1.wait S1
    refine ⟨?_, ρ1, F1', rs, ρ', S1', q4, fun ys H2 F2 S2 e2 w2 => ?_⟩
    · cases x0 with
      | str s0 =>
        obtain ⟨rfl, _⟩ := p1.str
        rfl
      | _ => cases q3
    · have px := (WR.rr (w1.mono e2) : RR G σ H2 F2 ρ' y (wt ro)).peek S2 q5
      have pl := w2.peek S2 q6
      have fin := Post.mk (Q := Q) (res := z) S2 fun x' H' F' S' e' r' => hq x' H' F' S' (e1.trans (e1'.trans (e2.trans e'))) r'
      cases x with
      | str sep =>
        obtain ⟨rfl, ok⟩ := px.str
        match vs, pl, q7 with
        | [.lst l], pl, q7 =>
          obtain ⟨a, rfl, hx⟩ := prl1 pl
          obtain ⟨p, xs, rfl, hH, rr⟩ := hx.lst S2.sub
          have q7 : ((strsOf l).bind fun ss => if (ss.map (·.length)).sum + ss.length * sep.length ≤ line then some (Res.sh (.str (joinS sep ss))) else none) = some z := q7
          cases qs : strsOf l with
          | none => rw [qs] at q7; cases q7
          | some ss =>
            rw [qs] at q7
            have q7 : (if (ss.map (·.length)).sum + ss.length * sep.length ≤ line then some (Res.sh (.str (joinS sep ss))) else none) = some z := q7
            by_cases hz : (ss.map (·.length)).sum + ss.length * sep.length ≤ line
            · rw [if_pos hz] at q7
              obtain rfl := Option.some.inj q7
              have hz' : (ss.map (·.length)).sum + ss.length * sep.length ≤ 16777216 := hz
              obtain rfl := strsOf_eq qs
              obtain ⟨rfl, oks⟩ := rr.vstrs
              refine ⟨_, p, ss.map strP, rfl, rfl, .inl (SqL.of hH), ?_, ?_⟩
              · rw [List.map_map, show ((fun y : Str => y.length) ∘ strP) = fun s => s.length from funext fun s => strP_length s, List.length_map, strP_length]
                exact hz'
              · rw [joinS_eq]
                exact fin.sh S2.sub (.str _ ⟨Nat.le_trans (joinS_len _ _) hz, joinS_ok ok oks⟩)
            · rw [if_neg hz] at q7; cases q7
        | [.tup l], pl, q7 =>
          obtain ⟨a, rfl, hx⟩ := prl1 pl
          obtain ⟨p, xs, rfl, hH, rr⟩ := hx.tup
          have q7 : ((strsOf l).bind fun ss => if (ss.map (·.length)).sum + ss.length * sep.length ≤ line then some (Res.sh (.str (joinS sep ss))) else none) = some z := q7
          cases qs : strsOf l with
          | none => rw [qs] at q7; cases q7
          | some ss =>
            rw [qs] at q7
            have q7 : (if (ss.map (·.length)).sum + ss.length * sep.length ≤ line then some (Res.sh (.str (joinS sep ss))) else none) = some z := q7
            by_cases hz : (ss.map (·.length)).sum + ss.length * sep.length ≤ line
            · rw [if_pos hz] at q7
              obtain rfl := Option.some.inj q7
              have hz' : (ss.map (·.length)).sum + ss.length * sep.length ≤ 16777216 := hz
              obtain rfl := strsOf_eq qs
              obtain ⟨rfl, oks⟩ := rr.vstrs
              refine ⟨_, p, ss.map strP, rfl, rfl, .inr (by rw [show X.K = G.K.1 by rw [hK]]; exact S2.sub.seqT hH), ?_, ?_⟩
              · rw [List.map_map, show ((fun y : Str => y.length) ∘ strP) = fun s => s.length from funext fun s => strP_length s, List.length_map, strP_length]
                exact hz'
              · rw [joinS_eq]
                exact fin.sh S2.sub (.str _ ⟨Nat.le_trans (joinS_len _ _) hz, joinS_ok ok oks⟩)
            · rw [if_neg hz] at q7; cases q7
      | _ => cases q7
  | index =>
    have h := pe_bm (cpos := cpos) (apos := apos) PySem.F.plainAttrs_list PySem.F.slot_list_index PySem.F.type_list_index (mt_indexD hu) ho ha (base_of hb) (few_of hn hl) hline (noStar_each hn _) (noStar_any (noStar_cons hn).2).1
    refine pe_weak h fun σ H Q ⟨ρ, F, r, ρ', S, q, hq⟩ => ?_
    obtain ⟨ro, ρ1, x0, rs, x, vs, z, q1, q2, q3, q4, q5, q6, q7, rfl⟩ := mt_some q
    refine ⟨ρ, F, ro, ρ1, S, q1, fun y H1 F1 S1 e1 r1 => ?_⟩
    have p1 := r1.peek S1 q2
    obtain ⟨F1', e1', S1', w1⟩ := r1.wait S1
    refine ⟨?_, ρ1, F1', rs, ρ', S1', q4, fun ys H2 F2 S2 e2 w2 => ?_⟩
    · cases x0 with
      | lst s0 =>
        obtain ⟨a, xs, rfl, hH, _⟩ := p1.lst S1.sub
        exact .inl ⟨rfl, xs, SqL.of hH⟩
      | _ => cases q3
    · have px := (WR.rr (w1.mono e2) : RR G σ H2 F2 ρ' y (wt ro)).peek S2 q5
      have pl := w2.peek S2 q6
      have fin := Post.mk (Q := Q) (res := z) S2 fun x' H' F' S' e' r' => hq x' H' F' S' (e1.trans (e1'.trans (e2.trans e'))) r'
      cases x with
      | lst l =>
        match vs, pl, q7 with
        | [v], pl, q7 =>
          obtain ⟨a, rfl, hx⟩ := prl1 pl
          have q7 : (if (plain v && plain (.lst l)) = true then (placeOf v 0 l).map fun (n : Nat) => Res.sh (.int (n : Int)) else none) = some z := q7
          by_cases hp : (plain v && plain (.lst l)) = true
          · rw [if_pos hp] at q7
            obtain ⟨hp1, hp2⟩ := and_tt hp
            obtain ⟨j, qj, rfl⟩ := opt_map q7
            obtain ⟨k, w, rfl, h2, h3, h4⟩ := placeOf_spec qj
            obtain ⟨p, xs, rfl, hH, rr⟩ := px.lst S2.sub
            obtain ⟨d1, _, _⟩ := px.dp S2.sub hp2
            obtain ⟨d2, _, _⟩ := hx.dp S2.sub hp1
            rw [hK] at d1 d2
            have s1 := px.shaped S2.sub hp2
            have s2 := hx.shaped S2.sub hp1
            have hpl : ∀ y ∈ l, plainD 19 y = true := all_plain (n := 19) hp2
            simp only [dat] at d1 s1
            refine ⟨p, a, dat v, datL l, k, dat w, rfl, rfl, d1, d2, s1, s2, ?_, ?_, fun m z' hm hz => ?_, ?_⟩
            · rw [datL_map, List.getElem?_map, h2]; rfl
            · rw [eqv_dat 19 20 w v (hpl w (List.mem_of_getElem? h2)) hp1]; exact h3
            · rw [datL_map, List.getElem?_map] at hz
              cases hz' : l[m]? with
              | none => rw [hz'] at hz; cases hz
              | some y =>
                rw [hz'] at hz
                have : dat y = z' := by simpa using hz
                subst this
                rw [eqv_dat 19 20 y v (hpl y (List.mem_of_getElem? hz')) hp1]
                exact h4 m y hm hz'
            · have e0 : ((0 + k : Nat) : Int) = (k : Int) := by rw [Nat.zero_add]
              rw [e0] at fin
              exact fin.sh S2.sub (.int _)
          · rw [if_neg hp] at q7; cases q7
      | _ => cases q7
  | count =>
    have h := pe_bm (cpos := cpos) (apos := apos) PySem.F.plainAttrs_list PySem.F.slot_list_count PySem.F.type_list_count (mt_cnt hu) ho ha (base_of hb) (few_of hn hl) hline (noStar_each hn _) (noStar_any (noStar_cons hn).2).1
    refine pe_weak h fun σ H Q ⟨ρ, F, r, ρ', S, q, hq⟩ => ?_
    obtain ⟨ro, ρ1, x0, rs, x, vs, z, q1, q2, q3, q4, q5, q6, q7, rfl⟩ := mt_some q
    refine ⟨ρ, F, ro, ρ1, S, q1, fun y H1 F1 S1 e1 r1 => ?_⟩
    have p1 := r1.peek S1 q2
    obtain ⟨F1', e1', S1', w1⟩ := r1.wait S1
    refine ⟨?_, ρ1, F1', rs, ρ', S1', q4, fun ys H2 F2 S2 e2 w2 => ?_⟩
    · cases x0 with
      | lst s0 =>
        obtain ⟨a, xs, rfl, hH, _⟩ := p1.lst S1.sub
        exact .inl ⟨rfl, xs, SqL.of hH⟩
      | _ => cases q3
    · have px := (WR.rr (w1.mono e2) : RR G σ H2 F2 ρ' y (wt ro)).peek S2 q5
      have pl := w2.peek S2 q6
      have fin := Post.mk (Q := Q) (res := z) S2 fun x' H' F' S' e' r' => hq x' H' F' S' (e1.trans (e1'.trans (e2.trans e'))) r'
      cases x with
      | lst l =>
        match vs, pl, q7 with
        | [v], pl, q7 =>
          obtain ⟨a, rfl, hx⟩ := prl1 pl
          have q7 : (if (plain v && plain (.lst l)) = true then some (Res.sh (.int ((l.countP fun y => eqv y v : Nat) : Int))) else none) = some z := q7
          by_cases hp : (plain v && plain (.lst l)) = true
          · rw [if_pos hp] at q7
            obtain ⟨hp1, hp2⟩ := and_tt hp
            obtain rfl := Option.some.inj q7
            obtain ⟨p, xs, rfl, hH, rr⟩ := px.lst S2.sub
            obtain ⟨d1, _, _⟩ := px.dp S2.sub hp2
            obtain ⟨d2, _, _⟩ := hx.dp S2.sub hp1
            rw [hK] at d1 d2
            have s1 := px.shaped S2.sub hp2
            have s2 := hx.shaped S2.sub hp1
            have hpl : ∀ y ∈ l, plainD 19 y = true := all_plain (n := 19) hp2
            simp only [dat] at d1 s1
            have ec : (datL l).countP (fun z => PyData.eqv z (dat v)) = l.countP fun y => eqv y v := by
              rw [datL_map, List.countP_map]
              refine List.countP_congr fun y hy => ?_
              show PyData.eqv (dat y) (dat v) = true ↔ _
              rw [eqv_dat 19 20 y v (hpl y hy) hp1]
            refine ⟨p, a, dat v, datL l, rfl, rfl, ⟨d1, d2⟩, ⟨s1, s2⟩, ?_⟩
            rw [ec]
            exact fin.sh S2.sub (.int _)
          · rw [if_neg hp] at q7; cases q7
      | _ => cases q7
end
end Py

/-! Pv9: a list of one's own changed; calls of defs. -/
namespace Py
open PySem PySem.Spec PyProof.Rows L2
section
variable {X : Cx} {G : Gh} {σ : L2.St} {H H' : Hp} {ρ ρ' : Env} {F F' : Hp} {a b c e : Expr} {pos : Pos}

/-- the object of an own slot changed -/
theorem SOk.mut (S : SOk G σ H ρ F) {i : Nat} {w w' : PV} {l : Addr} {o : HO} (q : slotAt ρ i = .own w) (hl : σ[i]? = some (some (.ref l))) (hM : MRep G.K F (L2.upd H l o) l w') : SOk G σ (L2.upd H l o) (ρ.set i (.own w')) F := by
  obtain ⟨a, h1, h2, h3, h4⟩ := S.own i w q
  obtain rfl : l = a := by rw [hl] at h1; simpa using h1
  have hi := slotAt_lt q (by simp)
  refine ⟨by rw [List.length_set]; exact S.len, fun b u e => ?_, fun b u e hio => ?_, fun j v e => ?_, fun j v e => ?_, fun j k v w2 b e1 e2 e3 e4 => ?_, fun b hb => ?_, S.old⟩
  · rw [upd_ne (ne_of_none e h2)]; exact S.sub _ _ e
  · have hb : b ≠ l := fun z => by
      subst z
      rcases h4 with h4 | h4
      · rw [h4] at e; cases e
      · exact hio h4
    rw [upd_ne hb]; exact S.keep b u e hio
  · rw [slotAt_set hi] at e
    by_cases hj : i = j
    · rw [if_pos hj] at e; cases e
    · rw [if_neg hj] at e; exact S.sh j v e
  · rw [slotAt_set hi] at e
    by_cases hj : i = j
    · subst hj
      rw [if_pos rfl] at e
      obtain rfl : w' = v := by simpa using e
      exact ⟨l, hl, h2, hM, h4⟩
    · rw [if_neg hj] at e
      obtain ⟨b, g1, g2, g3, g4⟩ := S.own j v e
      have hb : b ≠ l := fun z => hj (S.sep i j w v l q e hl (by rw [← z]; exact g1))
      exact ⟨b, g1, g2, g3.mono (Ext.refl F) (upd_ne hb), g4⟩
  · have key : ∀ j v, slotAt (ρ.set i (.own w')) j = .own v → ∃ v', slotAt ρ j = .own v' := fun j v e => by
      rw [slotAt_set hi] at e
      by_cases hj : i = j
      · subst hj; exact ⟨w, q⟩
      · rw [if_neg hj] at e; exact ⟨v, e⟩
    obtain ⟨_, k1⟩ := key j v e1
    obtain ⟨_, k2⟩ := key k w2 e2
    exact S.sep j k _ _ b k1 k2 e3 e4
  · obtain ⟨g1, o', ho'⟩ := S.pin b hb
    refine ⟨g1, ?_⟩
    by_cases hb' : b = l
    · exact ⟨o, by rw [hb']; exact upd_same⟩
    · exact ⟨o', by rw [upd_ne hb']; exact ho'⟩

def mutName : Mut → String
  | .append => "append"
  | .extend => "extend"
  | .pop0 => "pop"
  | .popAt => "pop"
abbrev fPop (x : Nat) (m : Mut) (fa : Env → Option (List R × Env)) : Env → Option (R × Env) := fun ρ => match slotAt ρ x with
    | .own (.lst _) => (match fa ρ with
      | none => none
      | some (rs, ρ1) => (match fzL rs ρ1 with
        | none => none
        | some (vs, ρ2) => (match slotAt ρ2 x with
          | .own (.lst l) => (match mu1 m l vs with | none => none | some (l', v) => some (.sh v, ρ2.set x (.own (.lst l'))))
          | _ => none)))
    | _ => none
theorem pop_some {x : Nat} {m : Mut} {fa : Env → Option (List R × Env)} {r : R} (h : fPop x m fa ρ = some (r, ρ')) :
    ∃ w rs ρ1 vs ρ2 l l' v, slotAt ρ x = .own (.lst w) ∧ fa ρ = some (rs, ρ1) ∧ fzL rs ρ1 = some (vs, ρ2) ∧ slotAt ρ2 x = .own (.lst l) ∧ mu1 m l vs = some (l', v) ∧ r = .sh v ∧ ρ' = ρ2.set x (.own (.lst l')) := by
  unfold fPop at h
  cases q1 : slotAt ρ x with
  | none => rw [q1] at h; cases h
  | sh w => rw [q1] at h; cases h
  | own w =>
   cases w with
   | lst w =>
    rw [q1] at h
    simp only at h
    cases q2 : fa ρ with
    | none => simp only [q2] at h; cases h
    | some p =>
      obtain ⟨rs, ρ1⟩ := p
      simp only [q2] at h
      cases q3 : fzL rs ρ1 with
      | none => simp only [q3] at h; cases h
      | some p2 =>
        obtain ⟨vs, ρ2⟩ := p2
        simp only [q3] at h
        cases q4 : slotAt ρ2 x with
        | none => simp only [q4] at h; cases h
        | sh w => simp only [q4] at h; cases h
        | own w2 =>
          cases w2 with
          | lst l =>
            simp only [q4] at h
            cases q5 : mu1 m l vs with
            | none => simp only [q5] at h; cases h
            | some p3 =>
              obtain ⟨l', v⟩ := p3
              simp only [q5] at h
              obtain ⟨rfl, rfl⟩ : R.sh v = r ∧ ρ2.set x (.own (.lst l')) = ρ' := by simpa using h
              exact ⟨w, rs, ρ1, vs, ρ2, l, l', v, rfl, rfl, q3, q4, q5, rfl, rfl⟩
          | _ => simp only [q4] at h; cases h
   | _ => simp only [q1] at h; cases h
theorem seqIndex_of {n : Nat} {i : Int} {j : Nat} (h : ixN n i = some j) : seqIndex? i n = some j := by
  unfold ixN at h
  unfold seqIndex?
  by_cases h0 : 0 ≤ i
  · rw [if_pos h0] at h
    by_cases h1 : i < n
    · rw [if_pos h1] at h
      obtain rfl := Option.some.inj h
      simp only [show ¬ i < 0 by omega, if_false]
      rw [if_pos (by simp [h0, h1])]
    · rw [if_neg h1] at h; cases h
  · rw [if_neg h0] at h
    by_cases h1 : -(n : Int) ≤ i
    · rw [if_pos h1] at h
      obtain rfl := Option.some.inj h
      simp only [show i < 0 by omega, if_true]
      rw [if_pos (by simp; omega)]
    · rw [if_neg h1] at h; cases h
def rMut (m : Mut) : V → List V → Hp → VK → Prop := match m with | .append => rAppend | .extend => rExtend | .pop0 => rPop | .popAt => rPopAt
/-- the reading of a changing method, its receiver at l -/
theorem mut_core {m : Mut} {l : Addr} {xs ys : List V} {L vs L' : List PV} {v : PV} (hH : H l = some (.lst xs)) (rr : RepL G.K F xs L) (e : Ext F H) (rv : RepL G.K F ys vs) (hm : mu1 m L vs = some (L', v)) {Q : VK}
    (hq : ∀ y xs', Rep G.K F y v → RepL G.K F xs' L' → Q y (L2.upd H l (.lst xs'))) :
    rMut m (.ref l) ys H Q := by
  cases m with
  | append =>
    match vs, rv, hm with
    | [p], rv, hm =>
      cases rv with
      | cons r1 r2 =>
        cases r2
        have hm : (if L.length < line then some (L ++ [p], PV.non) else none) = some (L', v) := hm
        by_cases hl : L.length < line
        · rw [if_pos hl] at hm
          obtain ⟨rfl, rfl⟩ : L ++ [p] = L' ∧ PV.non = v := by simpa using hm
          exact ⟨l, xs, _, rfl, rfl, hH, by rw [rr.length, ← line_eq]; exact hl, hq _ _ .non (rr.append (.cons r1 .nil))⟩
        · rw [if_neg hl] at hm; cases hm
  | extend =>
    match vs, rv, hm with
    | [.lst k], rv, hm =>
      cases rv with
      | cons r1 r2 =>
        cases r2
        have hm : (if L.length + k.length ≤ line then some (L ++ k, PV.non) else none) = some (L', v) := hm
        by_cases hl : L.length + k.length ≤ line
        · rw [if_pos hl] at hm
          obtain ⟨rfl, rfl⟩ : L ++ k = L' ∧ PV.non = v := by simpa using hm
          cases r1 with
          | lst h1 r1 => exact ⟨l, _, xs, _, rfl, rfl, hH, e _ _ h1, by rw [rr.length, r1.length, ← line_eq]; exact hl, hq _ _ .non (rr.append r1)⟩
        · rw [if_neg hl] at hm; cases hm
  | pop0 =>
    match vs, rv, hm with
    | [], rv, hm =>
      cases rv
      have hm : (L[L.length - 1]?).map (fun v => (L.dropLast, v)) = some (L', v) := hm
      obtain ⟨w, h1, h2⟩ := opt_map hm
      obtain ⟨rfl, rfl⟩ : L.dropLast = L' ∧ w = v := by simpa using h2
      obtain ⟨y, g1, g2⟩ := rr.get h1
      exact ⟨l, xs, y, rfl, rfl, hH, by rw [rr.length]; exact g1, hq _ _ g2 rr.dropLast⟩
  | popAt =>
    match vs, rv, hm with
    | [.int i], rv, hm =>
      cases rv with
      | cons r1 r2 =>
        cases r2
        cases r1
        have hm : (if i.natAbs < 1000000000 then (ixN L.length i).bind fun j => (L[j]?).map fun v => (L.eraseIdx j, v) else none) = some (L', v) := hm
        by_cases hi : i.natAbs < 1000000000
        · rw [if_pos hi] at hm
          cases q : ixN L.length i with
          | none => rw [q] at hm; cases hm
          | some j =>
            rw [q] at hm
            have hm : (L[j]?).map (fun v => (L.eraseIdx j, v)) = some (L', v) := hm
            obtain ⟨w, h1, h2⟩ := opt_map hm
            obtain ⟨rfl, rfl⟩ : L.eraseIdx j = L' ∧ w = v := by simpa using h2
            obtain ⟨y, g1, g2⟩ := rr.get h1
            exact ⟨l, xs, i, j, y, rfl, rfl, hH, by omega, by omega, by rw [rr.length]; exact seqIndex_of q, g1, hq _ _ g2 (rr.eraseIdx j)⟩
        · rw [if_neg hi] at hm; cases hm
theorem own_lst (S : SOk G σ H ρ F) {x : Nat} {w : List PV} (q : slotAt ρ x = .own (.lst w)) : ∃ l xs, σ[x]? = some (some (.ref l)) ∧ H l = some (.lst xs) := by
  obtain ⟨a, h1, _, h3, _⟩ := S.own x _ q
  obtain ⟨xs, g1, _⟩ := h3
  exact ⟨a, xs, h1, g1⟩
theorem e_pop0 {i : Nat} {x : Str} {p apos cpos : Pos} (hN : X.N[i]? = some x) (hv : Vis X.env.scope x) (hd : (x == ("__debug__" : Str)) = false) (hcd : (x == ("__classdict__" : Str)) = false) (hline : (apos.endLine == cpos.line) = true) :
    PE X (.Call (.Attribute (.Name x p) "pop" apos) [] [] cpos) (tE G (fPop i .pop0 (fun ρ => some ([], ρ)))) := by
  have h := pe_bm0 (cpos := cpos) (apos := apos) PySem.F.plainAttrs_list PySem.F.slot_list_pop PySem.F.type_list_pop mt_pop (pe_var (pos := p) hN hv hd hcd) rfl hline
  refine pe_weak h fun σ H Q ⟨ρ, F, r, ρ', S, q, hq⟩ => ?_
  obtain ⟨w, rs, ρ1, vs, ρ2, L, L', v, q1, q2, q3, q4, q5, rfl, rfl⟩ := pop_some q
  obtain ⟨rfl, rfl⟩ : [] = rs ∧ ρ = ρ1 := by simpa using q2
  obtain ⟨rfl, rfl⟩ : [] = vs ∧ ρ = ρ2 := by simpa [fzL] using q3
  obtain ⟨a, h1, h2, ⟨xs, h3, rr⟩, h4⟩ := S.own i _ q4
  refine ⟨.ref a, h1, .inl ⟨rfl, xs, SqL.of h3⟩, ?_⟩
  exact mut_core (m := .pop0) h3 rr S.sub .nil q5 fun y xs' r1 r2 => hq y _ F (S.mut q4 h1 ⟨xs', upd_same, r2⟩) (Ext.refl F) r1
theorem e_mut {i : Nat} {x : Str} {m : Mut} {e : Expr} {es : List Expr} {fa : Env → Option (List R × Env)} {p apos cpos : Pos} (hm0 : m ≠ .pop0) (hN : X.N[i]? = some x) (hv : Vis X.env.scope x) (hd : (x == ("__debug__" : Str)) = false) (hcd : (x == ("__classdict__" : Str)) = false)
    (ha : PA X (e :: es) (tA G fa)) (hn : noStar (e :: es) = true) (hl : (e :: es).length < 29) (hline : (apos.endLine == cpos.line) = true) :
    PE X (.Call (.Attribute (.Name x p) (mutName m) apos) (e :: es) [] cpos) (tE G (fPop i m fa)) := by
  have hvar := pe_var (pos := p) hN hv hd hcd
  have fin : ∀ (r : V → List V → Hp → VK → Prop), r = rMut m → PE X (.Call (.Attribute (.Name x p) (mutName m) apos) (e :: es) [] cpos) (tBM X.K "list" r (tVar i) (tA G fa)) →
      PE X (.Call (.Attribute (.Name x p) (mutName m) apos) (e :: es) [] cpos) (tE G (fPop i m fa)) := fun r hr h => by
    refine pe_weak h fun σ H Q ⟨ρ, F, r, ρ', S, q, hq⟩ => ?_
    obtain ⟨w, rs, ρ1, vs, ρ2, L, L', v, q1, q2, q3, q4, q5, rfl, rfl⟩ := pop_some q
    obtain ⟨l, xs, h1, h3⟩ := own_lst S q1
    refine ⟨.ref l, h1, .inl ⟨rfl, xs, SqL.of h3⟩, ρ, F, rs, ρ1, S, q2, fun ys H2 F2 S2 e2 w2 => ?_⟩
    obtain ⟨F3, e3, S3, rv⟩ := w2.frz S2 q3
    obtain ⟨a, g1, g2, ⟨xs2, g3, rr⟩, g4⟩ := S3.own i _ q4
    obtain rfl : l = a := by rw [h1] at g1; simpa using g1
    subst hr
    exact mut_core (m := m) g3 rr S3.sub rv q5 fun y xs' r1 r2 => hq y _ F3 (S3.mut q4 g1 ⟨xs', upd_same, r2⟩) (e2.trans e3) r1
  cases m with
  | append => exact fin _ rfl (pe_bm PySem.F.plainAttrs_list PySem.F.slot_list_append PySem.F.type_list_append mt_append hvar ha rfl (few_of hn hl) hline (noStar_each hn _) (noStar_any (noStar_cons hn).2).1)
  | extend => exact fin _ rfl (pe_bm PySem.F.plainAttrs_list PySem.F.slot_list_extend PySem.F.type_list_extend mt_extend hvar ha rfl (few_of hn hl) hline (noStar_each hn _) (noStar_any (noStar_cons hn).2).1)
  | pop0 => exact absurd rfl hm0
  | popAt => exact fin _ rfl (pe_bm PySem.F.plainAttrs_list PySem.F.slot_list_pop PySem.F.type_list_pop mt_popAt hvar ha rfl (few_of hn hl) hline (noStar_each hn _) (noStar_any (noStar_cons hn).2).1)

/-! ### calls of defs -/
/-- what a def promises that leaves its arguments -/
def resOf (ret : Ret) : Res := if ret.own then .own ret.val else .sh ret.val
def PostIo (K : Frg) (F H : Hp) (l : Addr) (out : PV) (res : Res) (Q : VK) : Prop :=
  ∀ x H' F', (∀ a o, H a = some o → a ≠ l → H' a = some o) → Ext F F' → Ext F' H' → (∀ a o, H a = some o → F' a = F a) → MRep K F' H' l out → ResOk K F' H H' x res → Q x H'
def spD (K : Frg) (np : Nat) (d : Den) : Sp := fun vs H Q _ => vs.length = np ∧
  if d.io then ∃ F l p ps vr ret, vs = .ref l :: vr ∧ Ext F H ∧ F l = none ∧ MRep K F H l p ∧ RepL K F vr ps ∧ d.f (p :: ps) = some ret ∧ PostIo K F H l ret.out (resOf ret) Q
  else ∃ F ps ret, Ext F H ∧ RepL K F vs ps ∧ d.f ps = some ret ∧ Post K F H (resOf ret) Q

/-- the addresses that are lent -/
def Lent (σ : L2.St) (ρ : Env) (rs : List Nat) (a : Addr) : Prop := ∃ i ∈ rs, ∃ w, slotAt ρ i = .own w ∧ σ[i]? = some (some (.ref a))
open Classical in
noncomputable def lendF (σ : L2.St) (ρ : Env) (rs : List Nat) (F H : Hp) : Hp := fun a => if Lent σ ρ rs a then H a else F a
theorem lend_in {rs : List Nat} {a : Addr} (h : Lent σ ρ rs a) : lendF σ ρ rs F H a = H a := by
  unfold lendF; rw [if_pos h]
theorem lend_out {rs : List Nat} {a : Addr} (h : ¬ Lent σ ρ rs a) : lendF σ ρ rs F H a = F a := by
  unfold lendF; rw [if_neg h]
theorem Lent.facts (S : SOk G σ H ρ F) {rs : List Nat} {a : Addr} (h : Lent σ ρ rs a) : F a = none ∧ (∃ o, H a = some o ∧ isMut o) ∧ (G.H0 a = none ∨ G.io = some a) := by
  obtain ⟨i, _, w, q, h1⟩ := h
  obtain ⟨b, g1, g2, g3, g4⟩ := S.own i w q
  obtain rfl : a = b := by rw [h1] at g1; simpa using g1
  exact ⟨g2, g3.mut, g4⟩
theorem lend_ext (S : SOk G σ H ρ F) (rs : List Nat) : Ext F (lendF σ ρ rs F H) ∧ Ext (lendF σ ρ rs F H) H := by
  constructor
  · intro a o e
    by_cases h : Lent σ ρ rs a
    · rw [(h.facts S).1] at e; cases e
    · rw [lend_out h]; exact e
  · intro a o e
    by_cases h : Lent σ ρ rs a
    · rw [lend_in h] at e; exact e
    · rw [lend_out h] at e; exact S.sub _ _ e
theorem lend_rep (S : SOk G σ H ρ F) (all : List Nat) : ∀ {xs : List V} {rs : List R} {vs : List PV}, (∀ i ∈ lentL rs, i ∈ all) → WRL G.K σ F xs rs → pkL rs ρ = some vs → RepL G.K (lendF σ ρ all F H) xs vs := by
  have e1 := (lend_ext S all).1
  intro xs rs
  induction rs generalizing xs with
  | nil =>
    intro vs hs w q
    obtain rfl : [] = vs := by simpa [pkL] using q
    cases w
    exact .nil
  | cons r rs ih =>
    intro vs hs w q
    cases w with
    | cons w ws =>
      unfold pkL at q
      cases q1 : pk r ρ with
      | none => rw [q1] at q; cases q
      | some v =>
        simp only [q1] at q
        cases q2 : pkL rs ρ with
        | none => simp only [q2] at q; cases q
        | some vs' =>
          simp only [q2] at q
          obtain rfl := Option.some.inj q
          refine .cons ?_ (ih (fun i hi => hs i (by cases r <;> simp [lentL] <;> first | exact hi | exact .inr hi)) ws q2)
          cases r with
          | sh u =>
            obtain rfl := Option.some.inj (show some u = some v from q1)
            exact Rep.mono e1 _ _ w
          | own u => exact w.elim
          | slot i =>
            have w' : σ[i]? = some (some _) := w
            have q1' : (match slotAt ρ i with | .none => none | .sh v => some v | .own v => some v) = some v := q1
            cases qs : slotAt ρ i with
            | none => rw [qs] at q1'; cases q1'
            | sh u =>
              rw [qs] at q1'
              obtain rfl := Option.some.inj q1'
              obtain ⟨y, g1, g2⟩ := S.sh i u qs
              rw [w'] at g1
              obtain rfl : _ = y := by simpa using g1
              exact Rep.mono e1 _ _ g2
            | own u =>
              rw [qs] at q1'
              obtain rfl := Option.some.inj q1'
              obtain ⟨a, g1, g2, g3, _⟩ := S.own i u qs
              rw [w'] at g1
              obtain rfl : _ = V.ref a := by simpa using g1
              have hL : Lent σ ρ all a := ⟨i, hs i (by simp [lentL]), u, qs, w'⟩
              cases u with
              | lst L =>
                obtain ⟨ys, k1, k2⟩ := g3
                exact .lst (by rw [lend_in hL]; exact k1) (k2.mono e1 _ _)
              | dict t ks vs =>
                rcases g3 with ⟨ys, k1, k2⟩ | ⟨bs, ys, k1, k0, k2⟩
                · exact .dic (k1.of fun o z => by rw [lend_in hL]; exact z) (k2.mono e1 _ _)
                · exact .dct (k1.of fun o z => by rw [lend_in hL]; exact z) (k0.mono e1 _ _) (k2.mono e1 _ _)
              | _ => exact g3.elim
/-! what is pure does not know of lists -/
theorem pure_all {n : Nat} {l : List PV} (h : pureD (n + 1) (.tup l) = true) : ∀ p ∈ l, pureD n p = true := fun p hp => List.all_eq_true.mp h p hp
mutual
theorem pure_rep {K : Frg} {F1 F2 : Hp} (e : ∀ a o, F1 a = some o → ¬ isMut o → F2 a = some o) : ∀ (n : Nat) (p : PV) (x : V), pureD n p = true → Rep K F1 x p → Rep K F2 x p
  | n, .non, _, _, r => by cases r; exact .non
  | n, .bl _, _, _, r => by cases r; exact .bl _
  | n, .int _, _, _, r => by cases r; exact .int _
  | n, .str _, _, _, r => by cases r with | str _ q => exact .str _ q
  | 0, .tup l, _, h, _ => by cases h
  | n + 1, .tup l, _, h, r => by
    cases r with
    | tup s r =>
      refine .tup ?_ (pure_repL e n l _ (pure_all h) r)
      refine s.imp (fun s => ?_) id
      rcases s with s | ⟨o, s⟩
      · exact .inl (e _ _ s (fun z => by rcases z with ⟨_, z⟩ | ⟨_, z⟩ | ⟨_, z⟩ <;> cases z))
      · exact .inr ⟨o, e _ _ s (fun z => by rcases z with ⟨_, z⟩ | ⟨_, z⟩ | ⟨_, z⟩ <;> cases z)⟩
  | n, .lst _, _, h, _ => by cases n <;> cases h
  | n, .dict _ _ _, _, h, _ => by cases n <;> cases h
  | n, .set _, _, h, _ => by cases n <;> cases h
  | n, .scr _, _, h, _ => by cases n <;> cases h
theorem pure_repL {K : Frg} {F1 F2 : Hp} (e : ∀ a o, F1 a = some o → ¬ isMut o → F2 a = some o) : ∀ (n : Nat) (l : List PV) (xs : List V), (∀ p ∈ l, pureD n p = true) → RepL K F1 xs l → RepL K F2 xs l
  | n, [], _, _, r => by cases r; exact .nil
  | n, p :: l, _, h, r => by
    cases r with
    | cons r t => exact .cons (pure_rep e n p _ (h p List.mem_cons_self) r) (pure_repL e n l _ (fun q hq => h q (List.mem_cons_of_mem _ hq)) t)
end
theorem pureL_lst {l : List PV} (h : pureL (.lst l) = true) : ∀ p ∈ l, pureD 20 p = true := fun p hp => List.all_eq_true.mp h p hp
open Classical in
noncomputable def backF (P : Addr → Prop) (F : Hp) : Hp := fun a => if P a then none else F a
theorem freeze_at (ρ : Env) : ∀ (ls : List Nat) (i : Nat), slotAt (freezeL ρ ls) i = (match slotAt ρ i with | .own v => if i ∈ ls then .sh v else .own v | s => s) ∧ (freezeL ρ ls).length = ρ.length
  | [], i => by
    refine ⟨?_, rfl⟩
    show slotAt ρ i = _
    cases slotAt ρ i <;> simp
  | j :: ls, i => by
    obtain ⟨h1, h2⟩ := freeze_at ρ ls i
    unfold freezeL
    cases q : slotAt ρ j with
    | own v =>
      simp only
      have hj : j < (freezeL ρ ls).length := by rw [h2]; exact slotAt_lt q (by simp)
      refine ⟨?_, by rw [List.length_set]; exact h2⟩
      rw [slotAt_set hj]
      by_cases hji : j = i
      · subst hji
        rw [if_pos rfl, q]
        simp
      · rw [if_neg hji, h1]
        cases slotAt ρ i <;> simp [Ne.symm hji]
    | sh v =>
      simp only
      refine ⟨?_, h2⟩
      rw [h1]
      by_cases hji : i = j
      · subst hji; rw [q]
      · cases slotAt ρ i <;> simp [hji]
    | none =>
      simp only
      refine ⟨?_, h2⟩
      rw [h1]
      by_cases hji : i = j
      · subst hji; rw [q]
      · cases slotAt ρ i <;> simp [hji]
/-- lent for good -/
theorem SOk.lent (S : SOk G σ H ρ F) (ls : List Nat) : SOk G σ H (freezeL ρ ls) (lendF σ ρ ls F H) where
  len := by rw [(freeze_at ρ ls 0).2]; exact S.len
  sub := (lend_ext S ls).2
  keep := S.keep
  sh := fun i v e => by
    rw [(freeze_at ρ ls i).1] at e
    cases q : slotAt ρ i with
    | none => rw [q] at e; cases e
    | sh u =>
      rw [q] at e
      obtain rfl : u = v := by simpa using e
      obtain ⟨x, g1, g2⟩ := S.sh i u q
      exact ⟨x, g1, g2.mono (lend_ext S ls).1 _ _⟩
    | own u =>
      rw [q] at e
      simp only at e
      by_cases hi : i ∈ ls
      · rw [if_pos hi] at e
        obtain rfl : u = v := by simpa using e
        obtain ⟨a, g1, g2, g3, _⟩ := S.own i u q
        have hL : Lent σ ρ ls a := ⟨i, hi, u, q, g1⟩
        refine ⟨_, g1, ?_⟩
        cases u with
        | lst L =>
          obtain ⟨ys, k1, k2⟩ := g3
          exact .lst (by rw [lend_in hL]; exact k1) (k2.mono (lend_ext S ls).1 _ _)
        | dict t ks vs =>
          rcases g3 with ⟨ys, k1, k2⟩ | ⟨bs, ys, k1, k0, k2⟩
          · exact .dic (k1.of fun o z => by rw [lend_in hL]; exact z) (k2.mono (lend_ext S ls).1 _ _)
          · exact .dct (k1.of fun o z => by rw [lend_in hL]; exact z) (k0.mono (lend_ext S ls).1 _ _) (k2.mono (lend_ext S ls).1 _ _)
        | _ => exact g3.elim
      · rw [if_neg hi] at e; cases e
  own := fun i v e => by
    rw [(freeze_at ρ ls i).1] at e
    cases q : slotAt ρ i with
    | none => rw [q] at e; cases e
    | sh u => rw [q] at e; cases e
    | own u =>
      rw [q] at e
      simp only at e
      by_cases hi : i ∈ ls
      · rw [if_pos hi] at e; cases e
      · rw [if_neg hi] at e
        obtain rfl : u = v := by simpa using e
        obtain ⟨a, g1, g2, g3, g4⟩ := S.own i u q
        have hL : ¬ Lent σ ρ ls a := fun ⟨j, hj, w, k1, k2⟩ => hi (by rw [S.sep i j u w a q k1 g1 k2]; exact hj)
        exact ⟨a, g1, by rw [lend_out hL]; exact g2, g3.mono (lend_ext S ls).1 rfl, g4⟩
  sep := fun i j v w a e1 e2 e3 e4 => by
    have key : ∀ i v, slotAt (freezeL ρ ls) i = .own v → ∃ w, slotAt ρ i = .own w := fun i v e => by
      rw [(freeze_at ρ ls i).1] at e
      cases q : slotAt ρ i with
      | none => rw [q] at e; cases e
      | sh u => rw [q] at e; cases e
      | own u => exact ⟨u, rfl⟩
    obtain ⟨_, k1⟩ := key i v e1
    obtain ⟨_, k2⟩ := key j w e2
    exact S.sep i j _ _ a k1 k2 e3 e4
  pin := S.pin
  old := fun a o h1 h2 => by
    by_cases h : Lent σ ρ ls a
    · rcases (h.facts S).2.2 with g | g
      · rw [g] at h1; cases h1
      · exact absurd g h2
    · rw [lend_out h]; exact S.old a o h1 h2
end
end Py

/-! Pg: promises of defs that are called with no guard held (repr asks for that). -/
namespace Py
open PySem PySem.Spec PyProof.Rows L2
abbrev CX0 : CXT := fun _ _ _ _ _ _ => False
abbrev XE0 : XK := fun _ _ _ => False
/-- what a def promises where no guard is held -/
structure FnG (P : Program) (w : World) (K : PySem.W.Frag) (mg : Str → Option Value) (base : Heap) (k : Nat) (f : Addr) (fd : FuncData) (ps : List Str) (sp : Sp) : Prop where
  len : ∀ vs H Q E, sp vs H Q E → vs.length = ps.length
  go : ∀ (A : Around) (outer : List PySem.Env) (s : Shared) (H : Hp) (args : Args) (us : List Value) (vs : List V) (Q : VK) (E : XK), Room k A → A.guards = some [] → Env0 P w K mg base A outer s H → BindsTo s fd args (ps.zip us) → Vals vs us → sp vs H Q E → codeAny (model P w) A (.call (.ref f) args) (CR CX0 outer P w H s Q E) s
section
variable {P : Program} {w : World} {K : PySem.W.Frag} {mg : Str → Option Value} {base : Heap} {j k : Nat} {f : Addr} {fd : FuncData} {ps : List Str} {sp : Sp}
theorem FnG.mono (F : FnG P w K mg base j f fd ps sp) (h : j ≤ k) : FnG P w K mg base k f fd ps sp :=
  ⟨F.len, fun A o s H ar us vs Q E hr hg e b v q => F.go A o s H ar us vs Q E (hr.mono h) hg e b v q⟩
/-- a def of the text by its body; the body is read where no guard is held -/
theorem FnG.of {x qual : Str} {params : Arguments} {body : List Stmt} {scope : Scope} {dvs : List V} {kws : List (Str × V)} {N : List Str} (D : FunD K x qual params body scope dvs kws f fd) (S : FnScope N ps scope)
    (ln : ∀ vs H Q E, sp vs H Q E → vs.length = ps.length)
    (B : ∀ (cdv : Value) (A : Around) (outer : List PySem.Env) (s : Shared) (H : Hp) (vs : List V) (Q : VK) (E : XK), Room k (A.deeper (envOfC qual scope s.heap.objs.size f cdv)) → A.guards = some [] → sp vs H Q E →
      ∃ t, PSs (cxOf CX0 P w K mg base N qual scope f cdv A outer s H E) body t ∧ t { nx := fun _ H2 => Q .non H2, rt := Q } (start N vs) H) : FnG P w K mg base (k + 1) f fd ps sp := by
  obtain ⟨oc, od, dV, kV, doc, pm, an, cdv, ct, osl, rfl, look, code, _, _⟩ := D.ex
  constructor
  · exact ln
  intro A outer s H args us vs Q E room gd e0 bd rv hsp
  have inK : K.In s.heap := e0.mod.kin.keeps fun b o q => (e0.bs b o q).1
  have noLim := e0.mod.nolimit.keeps fun b o q => (e0.bs b o q).1
  have kinds : ∀ y ∈ ps.zip us, scope.names.lookup y.1 = some .local ∨ (scope.names.lookup y.1 = some .cell ∧ ((cellsFrom (s.heap.objs.size + 1) scope.names []).lookup y.1).isSome = true) := by
    rintro ⟨n, v⟩ hy
    exact (S.par n (List.of_mem_zip hy).1).imp id fun q => ⟨q, PySem.W.cellsFrom_some _ _ _ (.inl q)⟩
  refine codeAny_call_function room.depth (inK _ _ look) rfl S.co S.gen rfl (PySem.W.codeRec_of inK code) (bd _ _ _ _ (wpAny_newFunctionEnv_cells S.kind kinds fun env he s1 x => ?_))
  subst he
  refine ⟨noLim.keeps x.toInCall.keep, codeAny_func ?_⟩
  obtain ⟨t, ht, hq⟩ := B cdv A outer s H vs Q E (room.deeper _) gd hsp
  have J0 := inv_start (CX := CX0) (P := P) (w := w) (K := K) (mg := mg) (base := base) (N := N) (E := E) S room.hd e0 (ln _ _ _ _ hsp) rv x
  refine wpAny_mono (ht.run [] s1 (start N vs) H _ J0 hq) (fun fl s2 hs => ?_) fun _ _ z => z
  cases fl with
  | next => obtain ⟨σ2, H2, J, q⟩ := hs; exact ⟨V.non, H2, J.os, J.bare, J.base, J.hok, rfl, q⟩
  | ret u => obtain ⟨v, σ2, H2, J, r2, q⟩ := hs; exact ⟨v, H2, J.os, J.bare, J.base, J.hok, r2, q⟩
  | brk => obtain ⟨_, _, _, q⟩ := hs; cases q
  | cont => obtain ⟨_, _, _, q⟩ := hs; cases q
end
section
variable {X : Cx} {k : Nat} {f : Addr} {fd : FuncData} {ps : List Str} {sp : Sp} {x : Str} {p pos : Pos} {e : Expr} {es : List Expr} {t : TA}
theorem passG : Passes CX0 X XE0 := fun _ _ _ _ _ _ _ h => h.elim
/-- a call of such a def -/
theorem FnG.call (F : FnG X.prog X.w X.K X.mg X.base k f fd ps sp) (hr : Room k X.A) (hg : X.A.guards = some []) (hb : Binds X.K fd ps []) {pins : List (Addr × Obj)} {σ : L2.St} {H : Hp} {s : Shared} {Q : VK} {us : List Value} {vs : List V} (I : Inv X pins σ H s) (r : Vals vs us) (h : sp (vs ++ []) H Q XE0) :
    wpAny (model X.prog X.w) X.A (call (.ref f) us) (EP X pins σ Q) X.xe s := by
  rw [List.append_nil] at h
  have hl : us.length = ps.length := r.length.symm.trans (F.len _ _ _ _ h)
  have hb := hb s us I.kIn (by rw [List.append_nil]; exact hl)
  rw [List.append_nil] at hb
  refine wpAny_call (codeAny_mono (F.go X.A X.stack s H ⟨us, []⟩ us vs Q XE0 hr hg I.env0 hb r h) fun res s2 q => ?_)
  match res, q with
  | .error e, q => exact q.elim
  | .ok (.ret u), q => exact I.after q
  | .ok .next, q => exact q.elim
  | .ok .brk, q => exact q.elim
  | .ok .cont, q => exact q.elim
theorem FnG.pe (F : FnG X.prog X.w X.K X.mg X.base k f fd ps sp) (hr : Room k X.A) (hgd : X.A.guards = some []) (hg : Gl X x) (hm : X.mg x = some (.ref f)) (hk : PySem.W.keepIn X.K (.ref f) = true) (hb : Binds X.K fd ps [])
    (ha : PA X (e :: es) t) (hdb : (x == ("__debug__" : Str)) = false) (he : starEach (e :: es) X.env = (false, eval e X.env) :: starEach es X.env) (hpl : (backTo pos (starEach es X.env)).any (·.1) = false) :
    PE X (.Call (.Name x p) (e :: es) [] pos) (tCall sp [] XE0 t) := by
  constructor
  intro pins s σ H Q I h
  refine wpAny_Call_Name_kw (ld_glob I hg hm (PySem.W.callWith_K (h₀ := X.base) I.ok.mod.kin hk ?_ he hpl) hdb)
  exact thn (ha.run pos pins s σ H _ I h) fun us s1 ⟨vs, H1, I1, r, q⟩ => ⟨I1.kIn, F.call hr hgd hb I1 r q⟩
theorem FnG.pe0 (F : FnG X.prog X.w X.K X.mg X.base k f fd ps sp) (hr : Room k X.A) (hgd : X.A.guards = some []) (hg : Gl X x) (hm : X.mg x = some (.ref f)) (hk : PySem.W.keepIn X.K (.ref f) = true) (hb : Binds X.K fd ps []) (hdb : (x == ("__debug__" : Str)) = false) :
    PE X (.Call (.Name x p) [] [] pos) (tCall sp [] XE0 tNil) := by
  constructor
  intro pins s σ H Q I h
  exact wpAny_Call_Name_kw (ld_glob I hg hm (PySem.W.callWith_K0 I.kIn hk (F.call (us := []) (vs := []) hr hgd hb I .nil h)) hdb)
end
/-- the law's def is called by the caller, who holds no guard -/
theorem lawG {P : Program} {w : World} {K : PySem.W.Frag} {mg mb : Str → Option Value} {k : Nat} {fa a : Addr} {fd : FuncData} {x : Str} {sp : Sp} {s₁ : Shared} {vs : List Value} {ns : List Int}
    (inK : K.In s₁.heap) (gl : s₁.heap.Ns mainGlobals mg) (bl : s₁.heap.Ns builtinsNs mb) (boot : ∀ x : Str, x ≠ "__name__" → mb x = bootBuiltins x) (noLim : s₁.heap.NoLimit) (gens : s₁.gens = #[])
    (at_a : s₁.heap.get? a = some { cls := .type "list", data := .seq vs.toArray }) (areI : IntsAre vs ns) (size : ns.length ≤ sizeLine) (room : Room k callerA)
    (F : ∀ base : Heap, K.In base → base.Ns mainGlobals mg → FnG P w K mg base k fa fd [x] sp) (bnd : ∀ (s : Shared) (u : Value), BindsTo s fd ⟨[u], []⟩ [(x, u)])
    (wish : ∀ H : Hp, Only H → SqL K H a (ns.map V.int) → sp [.ref a] H (fun v _ => v = .bl true) XE0) :
    codeAny (model P w) callerA (.call (.ref fa) ⟨[.ref a], []⟩) (fun r s' => r = .ok (.ret (.bool true)) ∧ OldK s₁.heap s'.heap ∧ s'.os = s₁.os ∧ AllBare s'.gens) s₁ := by
  have rel := vals_ints areI
  have sameLen := areI.length
  suffices core : ∀ H : Hp, (∀ b, H b = none ∨ (b = a ∧ ∃ o xs, H b = some (.frz o (.lst xs)))) → SqL K H a (ns.map V.int) → HOk P w H s₁.heap → (H a ≠ none → K.lookup a = none) →
      codeAny (model P w) callerA (.call (.ref fa) ⟨[.ref a], []⟩) (fun r s' => r = .ok (.ret (.bool true)) ∧ OldK s₁.heap s'.heap ∧ s'.os = s₁.os ∧ AllBare s'.gens) s₁ by
    cases hk : K.lookup a with
    | some o =>
      have q := inK a o hk
      rw [at_a] at q
      cases q
      have sq : SqL K (fun _ => none) a (ns.map V.int) := .inr ⟨_, vs.toArray, _, hk, rfl, rfl, rfl, by rw [List.size_toArray, sameLen]; exact size, by simpa using rel⟩
      exact core (fun _ => none) (fun _ => .inl rfl) sq (fun b u z => by have z2 : (none : Option HO) = some u := z; cases z2) fun z => absurd rfl z
    | none =>
      have one : ∀ b, b = a → (if b = a then some (HO.frz { cls := .type "list", data := .seq vs.toArray } (.lst (ns.map V.int))) else none) = some (HO.frz { cls := .type "list", data := .seq vs.toArray } (.lst (ns.map V.int))) := fun b hb => if_pos hb
      refine core (fun b => if b = a then some (.frz { cls := .type "list", data := .seq vs.toArray } (.lst (ns.map V.int))) else none) (fun b => ?_) (.inl (.inr ⟨{ cls := .type "list", data := .seq vs.toArray }, one a rfl⟩)) (fun b u z => ?_) fun _ => hk
      · by_cases hb : b = a
        · exact .inr ⟨hb, _, _, one b hb⟩
        · exact .inl (if_neg hb)
      · by_cases hb : b = a
        · have z2 := (one b hb).symm.trans z
          cases z2
          subst hb
          exact ⟨at_a, by rw [List.length_map]; exact size, vs, _, rel, at_a⟩
        · have z2 := (if_neg hb).symm.trans z
          cases z2
  intro H only sq hok apart
  have stays : ∀ {b : Addr} {o : Obj}, s₁.heap.get? b = some o → H b = none → (hidT s₁.heap H).get? b = some o := hidT_get
  have dictFree : ∀ {b : Addr} {o : Obj} {es : Array DictEntry} {ep : Nat}, s₁.heap.get? b = some o → o.data = .dict es ep → H b = none := by
    intro b o es ep q d
    rcases only b with z | ⟨rfl, _⟩
    · exact z
    · rw [at_a] at q
      cases q
      have d2 : Data.seq vs.toArray _ = Data.dict es ep := d
      cases d2
  have nsStays : ∀ {b : Addr} {m : Str → Option Value}, s₁.heap.Ns b m → (hidT s₁.heap H).Ns b m := by
    rintro b m ⟨o, es, ep, q, d, r⟩
    exact ⟨o, es, ep, stays q (dictFree q d), d, r⟩
  have kStays : K.In (hidT s₁.heap H) := by
    intro b o q
    refine stays (inK b o q) ?_
    rcases only b with z | ⟨rfl, _, _, z⟩
    · exact z
    · have := apart (by rw [z]; simp)
      rw [q] at this
      cases this
  have m0 : Mod K mg (hidT s₁.heap H) := ⟨kStays, nsStays gl, ⟨mb, nsStays bl, boot⟩, let ⟨mc, h1, h2⟩ := noLim; ⟨mc, nsStays h1, h2⟩⟩
  have env0 : Env0 P w K mg (hidT s₁.heap H) callerA [] s₁ H := ⟨rfl, m0, fun b o q => of_hidT q, Nat.le_of_eq (hidT_size _ _), trivial, fun b hb => (by cases hb), hok, .of_eq gens⟩
  have only2 : Only H := fun b => (only b).imp id fun ⟨_, o, xs, z⟩ => ⟨o, xs, z⟩
  refine codeAny_mono ((F _ kStays (nsStays gl)).go callerA [] s₁ H ⟨[.ref a], []⟩ [.ref a] [.ref a] _ _ room rfl env0 (bnd s₁ (.ref a)) (.cons rfl .nil) (wish H only2 sq)) fun r s2 h => ?_
  match r, h with
  | .error e, h => exact h.elim
  | .ok .next, h => exact h.elim
  | .ok .brk, h => exact h.elim
  | .ok .cont, h => exact h.elim
  | .ok (.ret u), ⟨v, H2, os, bare, un, hok2, rr, q⟩ =>
    have qv : v = .bl true := q
    subst qv
    have hu : u = Value.bool true := rr
    subst hu
    refine ⟨rfl, OldK.of_keep fun b o ho => ?_, os, bare⟩
    rcases only2 b with z | ⟨ob, xs, z⟩
    · exact un.keep b o ho z (fun y => by cases y) (by simp)
    · obtain ⟨e1, _⟩ := hok b _ z
      obtain ⟨e2, _⟩ := hok2 b _ (un.frzs b ob _ z)
      rw [ho] at e1
      cases e1
      exact e2
/-- a law's end -/
theorem walkG {l : PySem.W.OpenLaw} {n k : Nat} {q : Program} {loose : List Str} {XP : (Str → Option Value) → Heap → Prop} {YP : World → Heap → Prop} {d : DefRec} {x : Str} (hn : l.most = some n) (small : n ≤ sizeLine) (hdf : d.params.defaults = []) (room : Room k callerA)
    (F : ∀ (w : World) (mg : Str → Option Value) (fa : Addr) (h : Heap), YP w h → h.Ns mainGlobals mg → mg d.name = some (.ref fa) → ∃ (K : PySem.W.Frag) (fd : FuncData) (sp : Sp), K.In h ∧ (∀ (s : Shared) (u : Value), BindsTo s fd ⟨[u], []⟩ [(x, u)]) ∧
      (∀ (H : Hp) (a : Addr) (ns : List Int), ns.length ≤ n → Only H → SqL K H a (ns.map V.int) → sp [.ref a] H (fun v _ => v = .bl true) XE0) ∧ ∀ base : Heap, K.In base → base.Ns mainGlobals mg → FnG l.prog w K mg base k fa fd [x] sp) :
    PySem.W.WalkO q loose XP YP l.row.toRowW d [] (fun f vs => PySem.call f vs) :=
  Att.attach_call hn hdf fun w s₀ s₁ mg mb fa o pm cd doc a vs ns G Y ho hd hcd hmg hobj hints hlen hg => by
    obtain ⟨K, fd, sp, inK, bnd, wish, FF⟩ := F w mg fa _ Y G.T.g hmg
    exact lawG inK G.T.g G.T.b G.T.builtins G.T.nolimit hg hobj hints (Nat.le_trans hlen small) room FF bnd fun H hO hS => wish H a ns hlen hO hS
end Py

/-! Pv10: the call of a def. -/
namespace Py
open PySem PySem.Spec PyProof.Rows L2
section
variable {X : Cx} {G : Gh} {σ : L2.St} {H H' : Hp} {ρ ρ' : Env} {F F' : Hp} {a b c e : Expr} {pos : Pos}

theorem backF_in {P : Addr → Prop} {a : Addr} (h : P a) : backF P F a = none := by unfold backF; rw [if_pos h]
theorem backF_out {P : Addr → Prop} {a : Addr} (h : ¬ P a) : backF P F a = F a := by unfold backF; rw [if_neg h]
/-- what is behind a call, the lent ones given back -/
structure Back (G : Gh) (σ : L2.St) (H : Hp) (ρ : Env) (F : Hp) (ls : List Nat) (H' F' : Hp) : Prop where
  e2 : Ext F (backF (Lent σ ρ ls) F')
  e3 : Ext (backF (Lent σ ρ ls) F') H'
  e4 : ∀ a o, H a = some o → backF (Lent σ ρ ls) F' a = F a
  pure : ∀ a o, F' a = some o → ¬ isMut o → backF (Lent σ ρ ls) F' a = some o
theorem Back.mk' (S : SOk G σ H ρ F) (ls : List Nat) (e1 : ∀ a o, Lent σ ρ ls a → H a = some o → H' a = some o) (e2 : Ext (lendF σ ρ ls F H) F') (e3 : Ext F' H') (e4 : ∀ a o, H a = some o → F' a = lendF σ ρ ls F H a) : Back G σ H ρ F ls H' F' := by
  refine ⟨fun a o e => ?_, fun a o e => ?_, fun a o e => ?_, fun a o e hn => ?_⟩
  · have hL : ¬ Lent σ ρ ls a := fun z => by rw [(z.facts S).1] at e; cases e
    rw [backF_out hL]
    exact e2 _ _ (by rw [lend_out hL]; exact e)
  · by_cases hL : Lent σ ρ ls a
    · rw [backF_in hL] at e; cases e
    · rw [backF_out hL] at e; exact e3 _ _ e
  · by_cases hL : Lent σ ρ ls a
    · rw [backF_in hL, (hL.facts S).1]
    · rw [backF_out hL, e4 a o e, lend_out hL]
  · by_cases hL : Lent σ ρ ls a
    · obtain ⟨_, ⟨xs, g, hm⟩, _⟩ := hL.facts S
      have g' := e1 a xs hL g
      have := e3 _ _ e
      rw [g'] at this
      exact absurd (Option.some.inj this ▸ hm) hn
    · rw [backF_out hL]; exact e
theorem Back.res {ls : List Nat} {x : V} {ret : Ret} (B : Back G σ H ρ F ls H' F') (hp : pureR ret = true) (r : ResOk G.K F' H H' x (resOf ret)) : ResOk G.K (backF (Lent σ ρ ls) F') H H' x (resOf ret) := by
  unfold resOf at r ⊢
  unfold pureR at hp
  cases hr : ret.own with
  | false =>
    rw [hr] at r hp
    simp only [Bool.false_eq_true, if_false] at r hp ⊢
    exact pure_rep B.pure 20 _ _ hp r
  | true =>
    rw [hr] at r hp
    simp only [if_true] at r hp ⊢
    obtain ⟨a, rfl, n, h1, h2⟩ := r
    refine ⟨a, rfl, n, ?_, ?_⟩
    · by_cases hL : Lent σ ρ ls a
      · exact backF_in hL
      · rw [backF_out hL]; exact h1
    · cases hv : ret.val with
      | lst l =>
        rw [hv] at h2 hp
        obtain ⟨xs, q, r⟩ := h2
        exact ⟨xs, q, pure_repL B.pure 20 _ _ (pureL_lst hp) r⟩
      | dict t ks vs => rw [hv] at hp; cases hp
      | _ => rw [hv] at h2; exact h2.elim
theorem Back.list {ls : List Nat} {l : Addr} {out : PV} (B : Back G σ H ρ F ls H' F') (hp : pureL out = true) (r : MRep G.K F' H' l out) : MRep G.K (backF (Lent σ ρ ls) F') H' l out := by
  cases out with
  | lst k =>
    obtain ⟨xs, q, r⟩ := r
    exact ⟨xs, q, pure_repL B.pure 20 _ _ (pureL_lst hp) r⟩
  | dict t ks vs => cases hp
  | _ => exact r.elim
theorem lend_post {res : Ret} {Q : VK} (S : SOk G σ H ρ F) (ls : List Nat)
    (h : ∀ x H' F', SOk G σ H' (if pureR res then ρ else freezeL ρ ls) F' → Ext F F' → RR G σ H' F' (if pureR res then ρ else freezeL ρ ls) x (resOf res).r → Q x H') : Post G.K (lendF σ ρ ls F H) H (resOf res) Q := by
  by_cases hp : pureR res = true
  · intro x H' F' e1 e2 e3 e4 hr
    rw [if_pos hp] at h
    have B := Back.mk' S ls (fun a xs _ g => e1 _ _ g) e2 e3 e4
    have P : Post G.K F H (resOf res) Q := Post.mk S h
    exact P x H' _ e1 B.e2 B.e3 B.e4 (B.res hp hr)
  · rw [if_neg hp] at h
    exact Post.mk (S.lent ls) fun x H' F' S' e' r' => h x H' F' S' ((lend_ext S ls).1.trans e') r'
/-- behind a call that changes slot i's list -/
theorem SOk.growIo (S : SOk G σ H ρ F) {i : Nat} {p out : PV} {l : Addr} (q : slotAt ρ i = .own p) (hl : σ[i]? = some (some (.ref l))) (e1 : ∀ a o, H a = some o → a ≠ l → H' a = some o) (e2 : Ext F F') (e3 : Ext F' H') (e4 : ∀ a o, H a = some o → F' a = F a)
    (M : MRep G.K F' H' l out) : SOk G σ H' (ρ.set i (.own out)) F' := by
  obtain ⟨a, h1, h2, h3, h4⟩ := S.own i p q
  obtain rfl : l = a := by rw [hl] at h1; simpa using h1
  have hi := slotAt_lt q (by simp)
  obtain ⟨ol, hol⟩ := h3.there
  refine ⟨by rw [List.length_set]; exact S.len, e3, fun b u e hio => ?_, fun j v e => ?_, fun j v e => ?_, fun j k v w2 b g1 g2 g3 g4 => ?_, fun b hb => ?_, fun b u g1 g2 => ?_⟩
  · have hb : b ≠ l := fun z => by
      subst z
      rcases h4 with h4 | h4
      · rw [h4] at e; cases e
      · exact hio h4
    exact e1 _ _ (S.keep b u e hio) hb
  · rw [slotAt_set hi] at e
    by_cases hj : i = j
    · rw [if_pos hj] at e; cases e
    · rw [if_neg hj] at e
      obtain ⟨x, g1, g2⟩ := S.sh j v e
      exact ⟨x, g1, g2.mono e2 _ _⟩
  · rw [slotAt_set hi] at e
    by_cases hj : i = j
    · subst hj
      rw [if_pos rfl] at e
      obtain rfl : out = v := by simpa using e
      exact ⟨l, hl, by rw [e4 l ol hol]; exact h2, M, h4⟩
    · rw [if_neg hj] at e
      obtain ⟨b, g1, g2, g3, g4⟩ := S.own j v e
      have hb : b ≠ l := fun z => hj (S.sep i j p v l q e hl (by rw [← z]; exact g1))
      obtain ⟨o, ho⟩ := g3.there
      exact ⟨b, g1, by rw [e4 b o ho]; exact g2, g3.mono e2 (by rw [ho]; exact e1 _ _ ho hb), g4⟩
  · have key : ∀ j v, slotAt (ρ.set i (.own out)) j = .own v → ∃ v', slotAt ρ j = .own v' := fun j v e => by
      rw [slotAt_set hi] at e
      by_cases hj : i = j
      · subst hj; exact ⟨p, q⟩
      · rw [if_neg hj] at e; exact ⟨v, e⟩
    obtain ⟨_, k1⟩ := key j v g1
    obtain ⟨_, k2⟩ := key k w2 g2
    exact S.sep j k _ _ b k1 k2 g3 g4
  · obtain ⟨g1, o', ho'⟩ := S.pin b hb
    refine ⟨g1, ?_⟩
    by_cases hb' : b = l
    · subst hb'; exact M.there
    · exact ⟨o', e1 _ _ ho' hb'⟩
  · rw [e4 b u (S.keep b u g1 g2)]; exact S.old b u g1 g2
theorem io_post {ret : Ret} {Q : VK} (S : SOk G σ H ρ F) (ls : List Nat) {i : Nat} {p : PV} {l : Addr} (q : slotAt ρ i = .own p) (hl : σ[i]? = some (some (.ref l))) (hi : i ∉ ls)
    (h : ∀ x H' F', SOk G σ H' ((if pureR ret && pureL ret.out then ρ else freezeL ρ ls).set i (.own ret.out)) F' → Ext F F' → RR G σ H' F' ((if pureR ret && pureL ret.out then ρ else freezeL ρ ls).set i (.own ret.out)) x (resOf ret).r → Q x H') :
    PostIo G.K (lendF σ ρ ls F H) H l ret.out (resOf ret) Q := by
  intro x H' F' e1 e2 e3 e4 hM hr
  have hil := slotAt_lt q (by simp)
  obtain ⟨a0, g1, g2, g3, g4⟩ := S.own i p q
  obtain rfl : l = a0 := by rw [hl] at g1; simpa using g1
  obtain ⟨ol, hol⟩ := g3.there
  have nl : ¬ Lent σ ρ ls l := fun ⟨j, hj, w, k1, k2⟩ => hi (by rw [S.sep i j p w l q k1 hl k2]; exact hj)
  have fin : ∀ (ρ1 : Env) (F1 : Hp), slotAt ρ1 i = .own p → (hlen : i < ρ1.length) → (∀ j w, slotAt ρ1 j = .own w → ∃ w', slotAt ρ j = .own w') → ResOk G.K F1 H H' x (resOf ret) → RR G σ H' F1 (ρ1.set i (.own ret.out)) x (resOf ret).r := by
    intro ρ1 F1 _ hlen hsub hr
    cases hres : resOf ret with
    | sh v => rw [hres] at hr; exact hr
    | own v =>
      rw [hres] at hr
      obtain ⟨a, rfl, n, h1, h2⟩ := hr
      obtain ⟨k1, k2, k3⟩ := S.new n
      refine ⟨a, rfl, h1, h2, k1, k2, fun j w hw => ?_⟩
      rw [slotAt_set hlen] at hw
      by_cases hj : i = j
      · subst hj
        rw [hl]
        intro z
        obtain rfl : l = a := by simpa using z
        rw [hol] at n; cases n
      · rw [if_neg hj] at hw
        obtain ⟨w', hw'⟩ := hsub j w hw
        exact k3 j w' hw'
  by_cases hp : (pureR ret && pureL ret.out) = true
  · rw [if_pos hp] at h
    obtain ⟨hp1, hp2⟩ := and_tt hp
    have B := Back.mk' S ls (fun a xs hL g => e1 _ _ g (fun z => nl (by rw [← z]; exact hL))) e2 e3 e4
    exact h x H' _ (S.growIo q hl e1 B.e2 B.e3 B.e4 (B.list hp2 hM)) B.e2 (fin ρ _ q hil (fun j w hw => ⟨w, hw⟩) (B.res hp1 hr))
  · rw [if_neg hp] at h
    have S2 := S.lent ls
    have q2 : slotAt (freezeL ρ ls) i = .own p := by
      rw [(freeze_at ρ ls i).1, q]
      simp [hi]
    refine h x H' F' (S2.growIo q2 hl e1 e2 e3 e4 hM) ((lend_ext S ls).1.trans e2) (fin _ _ q2 (by rw [(freeze_at ρ ls 0).2]; exact hil) (fun j w hw => ?_) hr)
    rw [(freeze_at ρ ls j).1] at hw
    cases qj : slotAt ρ j with
    | none => rw [qj] at hw; cases hw
    | sh u => rw [qj] at hw; cases hw
    | own u => exact ⟨u, rfl⟩

/-- a def stands where the text's name says -/
structure DefAt (X : Cx) (x : Str) (np : Nat) (d : Den) : Prop where
  ex : ∃ (j : Nat) (f : Addr) (fd : FuncData) (ps : List Str), X.mg x = some (.ref f) ∧ PySem.W.keepIn X.K (.ref f) = true ∧ Binds X.K fd ps [] ∧ FnG X.prog X.w X.K X.mg X.base j f fd ps (spD X.kw np d) ∧ Room j X.A ∧ X.A.guards = some []
theorem passes0 : Passes CX0 X XE0 := fun _ _ _ _ _ _ _ h => h.elim
abbrev fFn (d : Den) (np : Nat) (fa : Env → Option (List R × Env)) : Env → Option (R × Env) := fun ρ => match fa ρ with
      | none => none
      | some (rs, ρ1) => if rs.length = np then callD d rs ρ1 else none
theorem wrl_len : ∀ {xs : List V} {rs : List R}, WRL G.K σ F xs rs → xs.length = rs.length
  | _, _, .nil => rfl
  | _, _, .cons _ t => by rw [List.length_cons, List.length_cons, wrl_len t]
theorem res_r (ret : Ret) : (if ret.own then R.own ret.val else .sh ret.val) = (resOf ret).r := by
  unfold resOf
  cases ret.own <;> rfl
/-- the reading of a call -/
theorem call_core {d : Den} {np : Nat} {rs : List R} {xs : List V} {r : R} {Q : VK} (S : SOk G σ H ρ F) (w : WRL G.K σ F xs rs) (hl : rs.length = np) (q : callD d rs ρ = some (r, ρ'))
    (h : ∀ x H' F', SOk G σ H' ρ' F' → Ext F F' → RR G σ H' F' ρ' x r → Q x H') : spD G.K np d xs H Q XE0 := by
  refine ⟨by rw [wrl_len w]; exact hl, ?_⟩
  unfold callD at q
  by_cases hio : d.io = true
  · rw [if_pos hio] at q ⊢
    cases w with
    | nil => cases q
    | cons w0 ws =>
      rename_i x0 xs r0 rest
      cases r0 with
      | sh _ => cases q
      | own _ => cases q
      | slot i =>
        simp only at q
        cases qs : slotAt ρ i with
        | none => rw [qs] at q; cases q
        | sh _ => rw [qs] at q; cases q
        | own p =>
          rw [qs] at q
          simp only at q
          cases qk : pkL rest ρ with
          | none => rw [qk] at q; cases q
          | some vs =>
            rw [qk] at q
            simp only at q
            by_cases hc : (lentL rest).contains i = true
            · rw [if_pos hc] at q; cases q
            · rw [if_neg hc] at q
              cases qf : d.f (p :: vs) with
              | none => rw [qf] at q; cases q
              | some ret =>
                rw [qf] at q
                simp only at q
                rw [res_r] at q
                obtain ⟨rfl, rfl⟩ : (resOf ret).r = r ∧ (if pureR ret && pureL ret.out then ρ else freezeL ρ (lentL rest)).set i (.own ret.out) = ρ' := by simpa using q
                obtain ⟨l, g1, g2, g3, g4⟩ := S.own i p qs
                have w0' : σ[i]? = some (some x0) := w0
                rw [g1] at w0'
                obtain rfl : V.ref l = x0 := by simpa using w0'
                have hi : i ∉ lentL rest := by simpa using hc
                have nl : ¬ Lent σ ρ (lentL rest) l := fun ⟨j, hj, w, k1, k2⟩ => hi (by rw [S.sep i j p w l qs k1 g1 k2]; exact hj)
                exact ⟨lendF σ ρ (lentL rest) F H, l, p, vs, xs, ret, rfl, (lend_ext S _).2, by rw [lend_out nl]; exact g2, g3.mono (lend_ext S _).1 rfl, lend_rep S (lentL rest) (fun _ hi => hi) ws qk, qf, io_post S _ qs g1 hi h⟩
  · rw [if_neg hio] at q ⊢
    cases qk : pkL rs ρ with
    | none => rw [qk] at q; cases q
    | some vs =>
      rw [qk] at q
      simp only at q
      cases qf : d.f vs with
      | none => rw [qf] at q; cases q
      | some ret =>
        rw [qf] at q
        simp only at q
        rw [res_r] at q
        obtain ⟨rfl, rfl⟩ : (resOf ret).r = r ∧ (if pureR ret then ρ else freezeL ρ (lentL rs)) = ρ' := by simpa using q
        exact ⟨lendF σ ρ (lentL rs) F H, vs, ret, (lend_ext S _).2, lend_rep S (lentL rs) (fun _ hi => hi) w qk, qf, lend_post S _ h⟩
theorem fn_key {d : Den} {np : Nat} {fa : Env → Option (List R × Env)} (σ : L2.St) (H : Hp) (Q : VK) (h : tE G (fFn d np fa) σ H Q) : tCall (spD G.K np d) [] XE0 (tA G fa) σ H Q := by
  obtain ⟨ρ, F, r, ρ', S, q, hq⟩ := h
  cases q1 : fa ρ with
  | none => simp only [fFn, q1] at q; cases q
  | some pp =>
    obtain ⟨rs, ρ1⟩ := pp
    simp only [fFn, q1] at q
    by_cases hl : rs.length = np
    · rw [if_pos hl] at q
      refine ⟨ρ, F, rs, ρ1, S, q1, fun xs H1 F1 S1 e1 w1 => ?_⟩
      show spD G.K np d (xs ++ []) H1 Q XE0
      rw [List.append_nil]
      exact call_core S1 w1 hl q fun x H' F' S' e' r' => hq x H' F' S' (e1.trans e') r'
    · rw [if_neg hl] at q; cases q
theorem e_fn {x : Str} {d : Den} {np : Nat} {e : Expr} {es : List Expr} {fa : Env → Option (List R × Env)} {p : Pos} (hK : G.K = X.kw) (D : DefAt X x np d) (hg : Gl X x) (hdb : (x == ("__debug__" : Str)) = false) (ha : PA X (e :: es) (tA G fa)) (hn : noStar (e :: es) = true) :
    PE X (.Call (.Name x p) (e :: es) [] pos) (tE G (fFn d np fa)) := by
  obtain ⟨j, f, fd, ps, h1, h2, h3, h4, h5, h6⟩ := D.ex
  have h := FnG.pe (pos := pos) (p := p) h4 h5 h6 hg h1 h2 h3 ha hdb (noStar_each hn _) (noStar_any (noStar_cons hn).2).1
  rw [← hK] at h
  exact pe_weak h fn_key
theorem e_fn0 {x : Str} {d : Den} {np : Nat} {p : Pos} (hK : G.K = X.kw) (D : DefAt X x np d) (hg : Gl X x) (hdb : (x == ("__debug__" : Str)) = false) :
    PE X (.Call (.Name x p) [] [] pos) (tE G (fFn d np (fun ρ => some ([], ρ)))) := by
  obtain ⟨j, f, fd, ps, h1, h2, h3, h4, h5, h6⟩ := D.ex
  have h := FnG.pe0 (pos := pos) (p := p) h4 h5 h6 hg h1 h2 h3 hdb
  rw [← hK] at h
  refine pe_weak h fun σ H Q hh => ?_
  obtain ⟨ρ, F, rs, ρ1, S, q1, k⟩ := fn_key σ H Q hh
  obtain ⟨rfl, rfl⟩ : [] = rs ∧ ρ = ρ1 := by simpa using q1
  exact k [] H F S (Ext.refl F) .nil
end
end Py

/-! Pv11: stores; what a for walks. -/
namespace Py
open PySem PySem.Spec PyProof.Rows L2
section
variable {X : Cx} {G : Gh} {σ : L2.St} {H H' : Hp} {ρ ρ' : Env} {F F' : Hp} {a b c e : Expr} {pos : Pos} {Φ : Tab}

/-! ### a store -/
theorem setS_some {s : Slot} {i : Nat} (h : setS Φ ρ i s = some ρ') : i < ρ.length ∧ ¬ (Φ.io = true ∧ i = 0) ∧ ρ' = ρ.set i s := by
  unfold setS at h
  by_cases q : (decide (i < ρ.length) && !(Φ.io && i == 0)) = true
  · rw [if_pos q] at h
    obtain ⟨q1, q2⟩ := and_tt q
    refine ⟨of_decide_eq_true q1, fun ⟨z1, z2⟩ => ?_, (Option.some.inj h).symm⟩
    subst z2
    rw [z1] at q2
    exact absurd q2 (by decide)
  · rw [if_neg q] at h; cases h
/-- link: what comes back is the first parameter -/
def IoOk (G : Gh) (Φ : Tab) : Prop := ∀ a, G.io = some a → Φ.io = true
theorem SOk.set (S : SOk G σ H ρ F) (L : IoOk G Φ) {i : Nat} {s : Slot} {x : V} (h : setS Φ ρ i s = some ρ')
    (hs : (∃ v, s = .sh v ∧ Rep G.K F x v) ∨ (∃ v a, s = .own v ∧ x = .ref a ∧ F a = none ∧ MRep G.K F H a v ∧ G.H0 a = none ∧ ∀ j w, slotAt ρ j = .own w → σ[j]? ≠ some (some (.ref a)))) :
    SOk G (σ.set i (some x)) H ρ' F := by
  obtain ⟨hi, hio, rfl⟩ := setS_some h
  have hiσ : i < σ.length := by rw [← S.len]; exact hi
  have get : ∀ j, (σ.set i (some x))[j]? = if i = j then some (some x) else σ[j]? := fun j => by
    by_cases hj : i = j
    · subst hj; rw [if_pos rfl, List.getElem?_set_self hiσ]
    · rw [if_neg hj, List.getElem?_set_ne hj]
  refine ⟨by rw [List.length_set, List.length_set]; exact S.len, S.sub, S.keep, fun j v e => ?_, fun j v e => ?_, fun j k v w a e1 e2 e3 e4 => ?_, fun a ha => ?_, S.old⟩
  · rw [slotAt_set hi] at e
    rw [get]
    by_cases hj : i = j
    · rw [if_pos hj] at e ⊢
      rcases hs with ⟨u, rfl, r⟩ | ⟨u, a, rfl, _⟩
      · obtain rfl : u = v := by simpa using e
        exact ⟨x, rfl, r⟩
      · cases e
    · rw [if_neg hj] at e ⊢; exact S.sh j v e
  · rw [slotAt_set hi] at e
    rw [get]
    by_cases hj : i = j
    · rw [if_pos hj] at e ⊢
      rcases hs with ⟨u, rfl, r⟩ | ⟨u, a, rfl, rfl, h1, h2, h3, h4⟩
      · cases e
      · obtain rfl : u = v := by simpa using e
        exact ⟨a, rfl, h1, h2, .inl h3⟩
    · rw [if_neg hj] at e ⊢; exact S.own j v e
  · rw [slotAt_set hi] at e1 e2
    rw [get] at e3 e4
    by_cases hj : i = j
    · by_cases hk : i = k
      · rw [← hj, ← hk]
      · rw [if_pos hj] at e1 e3
        rw [if_neg hk] at e2 e4
        rcases hs with ⟨u, rfl, r⟩ | ⟨u, a', rfl, rfl, h1, h2, h3, h4⟩
        · cases e1
        · obtain rfl : a' = a := by simpa using e3
          exact absurd e4 (h4 k w e2)
    · by_cases hk : i = k
      · rw [if_neg hj] at e1 e3
        rw [if_pos hk] at e2 e4
        rcases hs with ⟨u, rfl, r⟩ | ⟨u, a', rfl, rfl, h1, h2, h3, h4⟩
        · cases e2
        · obtain rfl : a' = a := by simpa using e4
          exact absurd e3 (h4 j v e1)
      · rw [if_neg hj] at e1 e3
        rw [if_neg hk] at e2 e4
        exact S.sep j k v w a e1 e2 e3 e4
  · obtain ⟨g1, g2⟩ := S.pin a ha
    refine ⟨?_, g2⟩
    rw [get, if_neg (fun z => hio ⟨L a ha, z⟩)]
    exact g1
theorem SOk.asg (S : SOk G σ H ρ F) (L : IoOk G Φ) {i : Nat} {x : V} {r : R} (r1 : RR G σ H F ρ x r) (h : asgR Φ (.name i) r ρ = some ρ') : ∃ F', Ext F F' ∧ SOk G (σ.set i (some x)) H ρ' F' := by
  cases r with
  | sh v => exact ⟨F, Ext.refl F, S.set L h (.inl ⟨v, rfl, r1⟩)⟩
  | own v =>
    obtain ⟨a, rfl, h1, h2, h3, h4, h5⟩ := r1
    exact ⟨F, Ext.refl F, S.set L h (.inr ⟨v, a, rfl, rfl, h1, h2, h3, h5⟩)⟩
  | slot j =>
    have h' : (match fz (.slot j) ρ with | none => none | some (v, ρ1) => setS Φ ρ1 i (.sh v)) = some ρ' := h
    cases q : fz (.slot j) ρ with
    | none => rw [q] at h'; cases h'
    | some p =>
      obtain ⟨v, ρ1⟩ := p
      rw [q] at h'
      obtain ⟨F1, e1, S1, R1⟩ := r1.frz S q
      exact ⟨F1, e1, S1.set L h' (.inl ⟨v, rfl, R1⟩)⟩
/-- a target's slots -/
inductive InT : Nat → T → Prop
  | name (i : Nat) : InT i (.name i)
  | tup {i : Nat} {t : T} {ts : List T} : t ∈ ts → InT i t → InT i (.tup ts)
def Same (P : Nat → Prop) (σ σ' : L2.St) : Prop := σ'.length = σ.length ∧ ∀ i, ¬ P i → σ'[i]? = σ[i]?
theorem Same.trans {P : Nat → Prop} {σ σ1 σ2 : L2.St} (h : Same P σ σ1) (g : Same P σ1 σ2) : Same P σ σ2 := ⟨g.1.trans h.1, fun i hi => (g.2 i hi).trans (h.2 i hi)⟩
theorem Same.imp {P Q : Nat → Prop} {σ σ' : L2.St} (h : Same P σ σ') (hq : ∀ i, P i → Q i) : Same Q σ σ' := ⟨h.1, fun i hi => h.2 i fun z => hi (hq i z)⟩
/-- a target's reading -/
def gT (G : Gh) (Φ : Tab) (t : T) : TG := fun x σ H Q => ∃ ρ F r ρ', SOk G σ H ρ F ∧ RR G σ H F ρ x r ∧ asgR Φ t r ρ = some ρ' ∧ ∀ σ' F', SOk G σ' H ρ' F' → Ext F F' → Same (fun i => InT i t) σ σ' → Q σ' H
def gTs (G : Gh) (Φ : Tab) (ts : List T) : TGs := fun xs σ H Q => ∃ ρ F vs ρ', SOk G σ H ρ F ∧ RepL G.K F xs vs ∧ asgL Φ ts vs ρ = some ρ' ∧ ∀ σ' F', SOk G σ' H ρ' F' → Ext F F' → Same (fun i => ∃ t ∈ ts, InT i t) σ σ' → Q σ' H
theorem asgV_R (t : T) (v : PV) (ρ : Env) : asgV Φ t v ρ = asgR Φ t (.sh v) ρ := by
  cases t with
  | name i => simp only [asgV, asgR]
  | tup ts =>
    simp only [asgV, asgR, pk]
    cases v <;> rfl
theorem pg_weak {tg : Expr} {t t' : TG} (h : PG X tg t) (hw : ∀ x σ H Q, t' x σ H Q → t x σ H Q) : PG X tg t' := ⟨fun pins s σ H v u Q I r w => h.run pins s σ H v u Q I r (hw v σ H Q w)⟩
theorem pgs_weak {tg : List Expr} {t t' : TGs} (h : PGs X tg t) (hw : ∀ x σ H Q, t' x σ H Q → t x σ H Q) : PGs X tg t' := ⟨fun pins s σ H v u Q I r w => h.run pins s σ H v u Q I r (hw v σ H Q w)⟩
theorem g_name {i : Nat} {x : Str} (L : IoOk G Φ) (hN : X.N.Nodup) (hi : X.N[i]? = some x) (hx : Loc X.env.scope x) (hf : X.fn x = true ∨ X.env.scope.names.lookup x = some .local) : PG X (.Name x pos) (gT G Φ (.name i)) := by
  refine pg_weak (pg_name hN hi hx hf) fun x σ H Q ⟨ρ, F, r, ρ', S, r1, q, h⟩ => ?_
  obtain ⟨F', e', S'⟩ := S.asg L r1 q
  exact h _ F' S' e' ⟨by rw [List.length_set], fun j hj => List.getElem?_set_ne (fun z => hj (by rw [← z]; exact .name i))⟩
theorem g_nil : PGs X [] (gTs G Φ []) := by
  refine pgs_weak pgs_nil fun x σ H Q ⟨ρ, F, vs, ρ', S, r1, q, h⟩ => ?_
  cases vs with
  | nil =>
    cases r1
    simp only [asgL] at q
    obtain rfl := Option.some.inj q
    exact ⟨rfl, h σ F S (Ext.refl F) ⟨rfl, fun _ _ => rfl⟩⟩
  | cons _ _ => simp only [asgL] at q; cases q
theorem each_of {e : Expr} {es : List Expr} (h : isStar e = false) : (assignEach (e :: es) X.env).map (·.2) = assign e X.env :: (assignEach es X.env).map (·.2) ∧ (assignEach (e :: es) X.env).map (·.1) = false :: (assignEach es X.env).map (·.1) := by
  cases e <;> first | exact ⟨rfl, rfl⟩ | cases h
theorem each_some : ∀ {es : List Expr}, noStar es = true → (assignEach es X.env).map (·.1) = es.map fun _ => false
  | [], _ => rfl
  | e :: es, h => by
    obtain ⟨h1, h2⟩ := noStar_cons h
    rw [(each_of (X := X) h1).2, each_some h2]
    rfl
theorem each_len {es : List Expr} (h : noStar es = true) : (assignEach es X.env).length = es.length := by
  have := congrArg List.length (each_some (X := X) h)
  simpa using this
theorem each_find {es : List Expr} (h : noStar es = true) : (assignEach es X.env).findIdx? (·.1) = none := by
  rw [List.findIdx?_eq_none_iff]
  intro p hp
  have h1 : p.1 ∈ (assignEach es X.env).map (·.1) := List.mem_map_of_mem hp
  rw [each_some (X := X) h] at h1
  obtain ⟨_, _, h2⟩ := List.mem_map.mp h1
  exact h2.symm
theorem g_cons {e : Expr} {es : List Expr} {t : T} {ts : List T} (hs : isStar e = false) (h1 : PG X e (gT G Φ t)) (h2 : PGs X es (gTs G Φ ts)) : PGs X (e :: es) (gTs G Φ (t :: ts)) := by
  refine pgs_weak (pgs_cons h1 h2 (each_of hs).1) fun x σ H Q ⟨ρ, F, vs, ρ', S, r1, q, h⟩ => ?_
  cases vs with
  | nil => simp only [asgL] at q; cases q
  | cons v vs =>
    cases r1 with
    | cons r1 r2 =>
      simp only [asgL] at q
      cases q1 : asgV Φ t v ρ with
      | none => rw [q1] at q; cases q
      | some ρ1 =>
        rw [q1] at q
        rw [asgV_R] at q1
        refine ⟨_, _, rfl, ρ, F, .sh v, ρ1, S, r1, q1, fun σ1 F1 S1 e1 s1 => ?_⟩
        exact ⟨ρ1, F1, vs, ρ', S1, r2.mono e1 _ _, q, fun σ2 F2 S2 e2 s2 => h σ2 F2 S2 (e1.trans e2) ((s1.imp fun i hi => ⟨t, List.mem_cons_self, hi⟩).trans (s2.imp fun i ⟨u, hu, hi⟩ => ⟨u, List.mem_cons_of_mem _ hu, hi⟩))⟩
theorem asgL_len : ∀ {ts : List T} {vs : List PV} {ρ ρ' : Env}, asgL Φ ts vs ρ = some ρ' → ts.length = vs.length
  | [], vs, ρ, ρ', h => by cases vs with
    | nil => rfl
    | cons _ _ => simp only [asgL] at h; cases h
  | t :: ts, vs, ρ, ρ', h => by
    cases vs with
    | nil => simp only [asgL] at h; cases h
    | cons v vs =>
      simp only [asgL] at h
      cases q1 : asgV Φ t v ρ with
      | none => rw [q1] at h; cases h
      | some ρ1 =>
        rw [q1] at h
        rw [List.length_cons, List.length_cons, asgL_len h]
theorem g_tup {es : List Expr} {k : Nat} {ts : List T} (hK : G.K = X.kw) (hc : X.calm = true) (hn : noStar es = true) (hl : es.length = ts.length) (h : PGs X es (gTs G Φ ts)) : PG X (.Tuple es k pos) (gT G Φ (.tup ts)) := by
  refine ⟨fun pins s σ H x u Q I rx ⟨ρ, F, r, ρ', S, r1, q, hq⟩ => ?_⟩
  have q' : (match pk r ρ with | some (.tup l) => asgL Φ ts l ρ | some (.lst l) => asgL Φ ts l ρ | _ => none) = some ρ' := q
  have hq : ∀ σ' F', SOk G σ' H ρ' F' → Ext F F' → Same (fun i => ∃ t ∈ ts, InT i t) σ σ' → Q σ' H := fun σ' F' S' e' s' => hq σ' F' S' e' (s'.imp fun i ⟨t, ht, hi⟩ => .tup ht hi)
  cases q1 : pk r ρ with
  | none => rw [q1] at q'; cases q'
  | some v =>
    rw [q1] at q'
    have p1 := r1.peek S q1
    cases v with
    | tup l =>
      obtain ⟨a, xs, rfl, h1, h2⟩ := p1.tup
      rw [hK] at h1
      exact (pg_tup (n := es.length) hc h (each_len hn) (each_find hn)).run pins s σ H _ u Q I rx ⟨a, xs, rfl, S.sub.seqT h1, by rw [h2.length, ← asgL_len q', hl], ρ, F, l, ρ', S, h2, q', hq⟩
    | lst l =>
      obtain ⟨a, xs, rfl, h1, h2⟩ := p1.lst S.sub
      exact (pg_unl (n := es.length) hc h (each_len hn) (each_find hn)).run pins s σ H _ u Q I rx ⟨a, xs, rfl, SqL.of h1, by rw [h2.length, ← asgL_len q', hl], ρ, F, l, ρ', S, h2, q', hq⟩
    | _ => cases q'

/-! ### what a for walks -/
structure WalkOk (K : Frg) (F : Hp) (xs : List PV) (J : It) : Prop where
  go : ∀ i F2 H2, Ext F F2 → Ext F2 H2 → i < xs.length → J.go i H2
  yld : ∀ i p F2 H2 x H3, Ext F F2 → Ext F2 H2 → xs[i]? = some p → J.yld i H2 x H3 → ∃ F3, Ext F2 F3 ∧ Ext F3 H3 ∧ Ext H2 H3 ∧ (∀ a o, H2 a = some o → F3 a = F2 a) ∧ Rep K F3 x p
  stop : ∀ i F2 H2, Ext F F2 → Ext F2 H2 → xs.length ≤ i → J.stop i H2
def tI (G : Gh) (f : Env → Option (List PV × Env)) : TI := fun σ H R => ∃ ρ F xs ρ', SOk G σ H ρ F ∧ f ρ = some (xs, ρ') ∧ ∀ J H' F', SOk G σ H' ρ' F' → Ext F F' → WalkOk G.K F' xs J → R J H'
theorem walk_lst {K : Frg} {a : Addr} {vs : List V} {l : List PV} (hF : F a = some (.lst vs)) (r : RepL K F vs l) : WalkOk K F l (Itl K.1 a) where
  go := fun i F2 H2 e1 e2 hi => by
    rw [← r.length] at hi
    exact ⟨vs, vs[i], SqL.of (e2 _ _ (e1 _ _ hF)), by simp [hi]⟩
  yld := fun i p F2 H2 x H3 e1 e2 hp ⟨h1, h2⟩ => by
    subst h1
    obtain ⟨v, g1, g2⟩ := r.get hp
    have := h2 vs (SqL.of (e2 _ _ (e1 _ _ hF)))
    rw [g1] at this
    obtain rfl := Option.some.inj this
    exact ⟨F2, Ext.refl F2, e2, Ext.refl _, fun _ _ _ => rfl, g2.mono e1 _ _⟩
  stop := fun i F2 H2 e1 e2 hi => ⟨vs, SqL.of (e2 _ _ (e1 _ _ hF)), by rw [r.length]; exact hi⟩
theorem walk_tup {K : Frg} {a : Addr} {vs : List V} {l : List PV} (hF : SqT K.1 F a vs) (r : RepL K F vs l) : WalkOk K F l (Itt K.1 a) where
  go := fun i F2 H2 e1 e2 hi => by
    rw [← r.length] at hi
    exact ⟨vs, vs[i], e2.seqT (e1.seqT hF), by simp [hi]⟩
  yld := fun i p F2 H2 x H3 e1 e2 hp ⟨h1, h2⟩ => by
    subst h1
    obtain ⟨v, g1, g2⟩ := r.get hp
    have := h2 vs (e2.seqT (e1.seqT hF))
    rw [g1] at this
    obtain rfl := Option.some.inj this
    exact ⟨F2, Ext.refl F2, e2, Ext.refl _, fun _ _ _ => rfl, g2.mono e1 _ _⟩
  stop := fun i F2 H2 e1 e2 hi => ⟨vs, e2.seqT (e1.seqT hF), by rw [r.length]; exact hi⟩
theorem walk_str {K : Frg} {s : List Nat} (ok : OkS s) : WalkOk K F (s.map fun c => .str [c]) (Its (strP s)) where
  go := fun i F2 H2 e1 e2 hi => by
    rw [List.length_map] at hi
    show i < (strP s).cps.size
    show i < s.toArray.size
    simpa using hi
  yld := fun i p F2 H2 x H3 e1 e2 hp ⟨h1, c, h2, h3⟩ => by
    subst h1
    subst h3
    rw [List.getElem?_map] at hp
    have h2' : s[i]? = some c := by
      have : s.toArray[i]? = some c := h2
      simpa using this
    rw [h2'] at hp
    obtain rfl : PV.str [c] = p := by simpa using hp
    refine ⟨F2, Ext.refl F2, e2, Ext.refl _, fun _ _ _ => rfl, .str [c] ⟨by show 1 ≤ line; decide, fun d hd => ?_⟩⟩
    obtain rfl : d = c := by simpa using hd
    exact ok.2 d (List.mem_of_getElem? h2')
  stop := fun i F2 H2 e1 e2 hi => by
    rw [List.length_map] at hi
    show s.toArray.size ≤ i
    simpa using hi
theorem walk_range {K : Frg} {lo : Int} {n : Nat} : WalkOk K F (rangeL lo n) (Itr lo n) where
  go := fun i F2 H2 e1 e2 hi => by
    show i < n
    simpa [rangeL] using hi
  yld := fun i p F2 H2 x H3 e1 e2 hp ⟨h1, h2⟩ => by
    subst h1
    subst h2
    unfold rangeL at hp
    rw [List.getElem?_map] at hp
    cases q : (List.range n)[i]? with
    | none => rw [q] at hp; cases hp
    | some k =>
      rw [q] at hp
      obtain rfl : PV.int (lo + (k : Int)) = p := by simpa using hp
      have : i = k := by
        rw [List.getElem?_range (by
          by_cases h : i < n
          · exact h
          · rw [List.getElem?_eq_none (by simpa using h)] at q; cases q)] at q
        simpa using q
      subst this
      exact ⟨F2, Ext.refl F2, e2, Ext.refl _, fun _ _ _ => rfl, .int _⟩
  stop := fun i F2 H2 e1 e2 hi => by
    show n ≤ i
    simpa [rangeL] using hi
theorem walk_rangeC {K : Frg} {lo c : Int} {n : Nat} : WalkOk K F ((List.range n).map fun (k : Nat) => .int (lo + (k : Int) * c)) (Itc lo c n) where
  go := fun i F2 H2 e1 e2 hi => by
    show i < n
    simpa using hi
  yld := fun i p F2 H2 x H3 e1 e2 hp ⟨h1, h2⟩ => by
    subst h1
    subst h2
    rw [List.getElem?_map] at hp
    cases q : (List.range n)[i]? with
    | none => rw [q] at hp; cases hp
    | some k =>
      rw [q] at hp
      obtain rfl : PV.int (lo + (k : Int) * c) = p := by simpa using hp
      have : i = k := by
        rw [List.getElem?_range (by
          by_cases h : i < n
          · exact h
          · rw [List.getElem?_eq_none (by simpa using h)] at q; cases q)] at q
        simpa using q
      subst this
      exact ⟨F2, Ext.refl F2, e2, Ext.refl _, fun _ _ _ => rfl, .int _⟩
  stop := fun i F2 H2 e1 e2 hi => by
    show n ≤ i
    simpa using hi
theorem zipL_len : ∀ (l k : List PV), (zipL l k).length = min l.length k.length
  | [], k => by simp [zipL]
  | x :: l, [] => by simp [zipL]
  | x :: l, y :: k => by simp only [zipL, List.length_cons, zipL_len l k]; omega
theorem zipL_get : ∀ {l k : List PV} {i : Nat} {p : PV}, (zipL l k)[i]? = some p → ∃ x y, l[i]? = some x ∧ k[i]? = some y ∧ p = .tup [x, y]
  | [], k, i, p, h => by simp [zipL] at h
  | x :: l, [], i, p, h => by simp [zipL] at h
  | x :: l, y :: k, 0, p, h => by
    simp [zipL] at h
    exact ⟨x, y, rfl, rfl, h.symm⟩
  | x :: l, y :: k, i + 1, p, h => by
    simp only [zipL, List.getElem?_cons_succ] at h ⊢
    exact zipL_get h
theorem walk_pair {K : Frg} {F2 H2 H3 : Hp} {t : Addr} {v w : V} {p q : PV} (e2 : Ext F2 H2) (n : H2 t = none) (h : H3 = L2.upd H2 t (.tup [v, w])) (r1 : Rep K F2 v p) (r2 : Rep K F2 w q) :
    ∃ F3, Ext F2 F3 ∧ Ext F3 H3 ∧ Ext H2 H3 ∧ (∀ a o, H2 a = some o → F3 a = F2 a) ∧ Rep K F3 (.ref t) (.tup [p, q]) := by
  have n2 := e2.none n
  subst h
  refine ⟨L2.upd F2 t (.tup [v, w]), Ext.upd n2, e2.both, Ext.upd n, fun a o e => by rw [upd_ne (ne_of_none e n)], .tup (.inl (.inl upd_same)) (.cons (r1.mono (Ext.upd n2) _ _) (.cons (r2.mono (Ext.upd n2) _ _) .nil))⟩
theorem walk_zipL {K : Frg} {a b : Addr} {vs ws : List V} {l k : List PV} (h1 : F a = some (.lst vs)) (h2 : F b = some (.lst ws)) (r1 : RepL K F vs l) (r2 : RepL K F ws k) : WalkOk K F (zipL l k) (Itz K.1 a b) where
  go := fun i F2 H2 e1 e2 hi => by
    rw [zipL_len, ← r1.length, ← r2.length] at hi
    exact ⟨vs, ws, vs[i]'(by omega), ws[i]'(by omega), SqL.of (e2 _ _ (e1 _ _ h1)), SqL.of (e2 _ _ (e1 _ _ h2)), by rw [List.getElem?_eq_getElem], by rw [List.getElem?_eq_getElem]⟩
  yld := fun i p F2 H2 x H3 e1 e2 hp ⟨t, v, w, g1, g2, g3, g4, g5⟩ => by
    subst g1
    obtain ⟨px, py, k1, k2, rfl⟩ := zipL_get hp
    obtain ⟨v', m1, m2⟩ := r1.get k1
    obtain ⟨w', m3, m4⟩ := r2.get k2
    have a1 := g4 vs (SqL.of (e2 _ _ (e1 _ _ h1)))
    have a2 := g5 ws (SqL.of (e2 _ _ (e1 _ _ h2)))
    rw [m1] at a1
    rw [m3] at a2
    obtain rfl := Option.some.inj a1
    obtain rfl := Option.some.inj a2
    exact walk_pair e2 g2 g3 (m2.mono e1 _ _) (m4.mono e1 _ _)
  stop := fun i F2 H2 e1 e2 hi => by
    rw [zipL_len, ← r1.length, ← r2.length] at hi
    exact ⟨vs, ws, SqL.of (e2 _ _ (e1 _ _ h1)), SqL.of (e2 _ _ (e1 _ _ h2)), by omega⟩
theorem walk_zipT {K : Frg} {a b : Addr} {vs ws : List V} {l k : List PV} (h1 : SqT K.1 F a vs) (h2 : SqT K.1 F b ws) (r1 : RepL K F vs l) (r2 : RepL K F ws k) : WalkOk K F (zipL l k) (RZ.ItzT K.1 a b) where
  go := fun i F2 H2 e1 e2 hi => by
    rw [zipL_len, ← r1.length, ← r2.length] at hi
    exact ⟨vs, ws, vs[i]'(by omega), ws[i]'(by omega), e2.seqT (e1.seqT h1), e2.seqT (e1.seqT h2), by rw [List.getElem?_eq_getElem], by rw [List.getElem?_eq_getElem]⟩
  yld := fun i p F2 H2 x H3 e1 e2 hp ⟨t, v, w, g1, g2, g3, g4, g5⟩ => by
    subst g1
    obtain ⟨px, py, k1, k2, rfl⟩ := zipL_get hp
    obtain ⟨v', m1, m2⟩ := r1.get k1
    obtain ⟨w', m3, m4⟩ := r2.get k2
    have a1 := g4 vs (e2.seqT (e1.seqT h1))
    have a2 := g5 ws (e2.seqT (e1.seqT h2))
    rw [m1] at a1
    rw [m3] at a2
    obtain rfl := Option.some.inj a1
    obtain rfl := Option.some.inj a2
    exact walk_pair e2 g2 g3 (m2.mono e1 _ _) (m4.mono e1 _ _)
  stop := fun i F2 H2 e1 e2 hi => by
    rw [zipL_len, ← r1.length, ← r2.length] at hi
    exact ⟨vs, ws, e2.seqT (e1.seqT h1), e2.seqT (e1.seqT h2), by omega⟩
end
end Py

/-! Pv12: walks of expressions; comprehensions. -/
namespace Py
open PySem PySem.Spec PyProof.Rows L2
section
variable {X : Cx} {G : Gh} {σ : L2.St} {H H' : Hp} {ρ ρ' : Env} {F F' : Hp} {a b c e tg : Expr} {pos : Pos} {Φ : Tab}

abbrev fSeq (f : Env → Option (R × Env)) : Env → Option (List PV × Env) := fun ρ => match f ρ with
    | none => none
    | some (r, ρ1) => (match fz r ρ1 with | none => none | some (x, ρ2) => (match seqOf x with | none => none | some l => some (l, ρ2)))
theorem seq_some {f : Env → Option (R × Env)} {l : List PV} (h : fSeq f ρ = some (l, ρ')) : ∃ r ρ1 x, f ρ = some (r, ρ1) ∧ fz r ρ1 = some (x, ρ') ∧ seqOf x = some l := by
  unfold fSeq at h
  cases q1 : f ρ with
  | none => simp only [q1] at h; cases h
  | some p =>
    obtain ⟨r, ρ1⟩ := p
    simp only [q1] at h
    cases q2 : fz r ρ1 with
    | none => simp only [q2] at h; cases h
    | some p2 =>
      obtain ⟨x, ρ2⟩ := p2
      simp only [q2] at h
      cases q3 : seqOf x with
      | none => simp only [q3] at h; cases h
      | some k =>
        simp only [q3] at h
        obtain ⟨rfl, rfl⟩ : k = l ∧ ρ2 = ρ' := by simpa using h
        exact ⟨r, ρ1, x, rfl, q2, q3⟩
theorem i_seq {f : Env → Option (R × Env)} (hK : G.K = X.kw) (he : PE X e (tE G f)) : PI X tg e (tI G (fSeq f)) := by
  refine ⟨fun pins s σ H R I ⟨ρ, F, l, ρ', S, q, h⟩ => ?_⟩
  obtain ⟨r, ρ1, x, q1, q2, q3⟩ := seq_some q
  cases x with
  | lst k =>
    obtain rfl : k = l := Option.some.inj q3
    refine (pi_list he).run pins s σ H R I ⟨ρ, F, r, ρ1, S, q1, fun y H1 F1 S1 e1 r1 => ?_⟩
    obtain ⟨F2, e2, S2, R2⟩ := r1.frz S1 q2
    cases R2 with
    | lst hF rr => rw [show X.K = G.K.1 by rw [hK]]; exact ⟨_, rfl, ⟨_, SqL.of (S2.sub _ _ hF)⟩, h _ H1 F2 S2 (e1.trans e2) (walk_lst hF rr)⟩
  | tup k =>
    obtain rfl : k = l := Option.some.inj q3
    refine (pi_tup he).run pins s σ H R I ⟨ρ, F, r, ρ1, S, q1, fun y H1 F1 S1 e1 r1 => ?_⟩
    obtain ⟨F2, e2, S2, R2⟩ := r1.frz S1 q2
    cases R2 with
    | tup hF rr => rw [show X.K = G.K.1 by rw [hK]]; exact ⟨_, rfl, ⟨_, S2.sub.seqT hF⟩, h _ H1 F2 S2 (e1.trans e2) (walk_tup hF rr)⟩
  | str k =>
    obtain rfl : (k.map fun c => PV.str [c]) = l := Option.some.inj q3
    refine (pi_str he).run pins s σ H R I ⟨ρ, F, r, ρ1, S, q1, fun y H1 F1 S1 e1 r1 => ?_⟩
    obtain ⟨F2, e2, S2, R2⟩ := r1.frz S1 q2
    cases R2 with
    | str _ ok => exact ⟨_, rfl, h _ H1 F2 S2 (e1.trans e2) (walk_str ok)⟩
  | _ => cases q3
abbrev fRng (f : Env → Option (List R × Env)) : Env → Option (List PV × Env) := fun ρ => match f ρ with
    | none => none
    | some (rs, ρ1) => (match pkL rs ρ1 with | none => none | some vs => (match rng1 vs with | none => none | some l => some (l, ρ1)))
theorem rng_some {f : Env → Option (List R × Env)} {l : List PV} (h : fRng f ρ = some (l, ρ')) : ∃ rs vs, f ρ = some (rs, ρ') ∧ pkL rs ρ' = some vs ∧ rng1 vs = some l := by
  unfold fRng at h
  cases q1 : f ρ with
  | none => simp only [q1] at h; cases h
  | some p =>
    obtain ⟨r, ρ1⟩ := p
    simp only [q1] at h
    cases q2 : pkL r ρ1 with
    | none => simp only [q2] at h; cases h
    | some x =>
      simp only [q2] at h
      cases q3 : rng1 x with
      | none => simp only [q3] at h; cases h
      | some k =>
        simp only [q3] at h
        obtain ⟨rfl, rfl⟩ : k = l ∧ ρ1 = ρ' := by simpa using h
        exact ⟨r, x, rfl, q2, q3⟩
theorem small_of {i : Int} (h : small62 i = true) : -(2 ^ 62) ≤ i ∧ i < 2 ^ 62 := by
  unfold small62 at h
  have h := of_decide_eq_true h
  omega
theorem prl3 {K : Frg} {p q r : PV} {xs : List V} (h : PRL K F H xs [p, q, r]) : ∃ x y z, xs = [x, y, z] ∧ PR K F H x p ∧ PR K F H y q ∧ PR K F H z r := by
  cases h with | cons r t => cases t with | cons r2 t => cases t with | cons r3 t => cases t; exact ⟨_, _, _, rfl, r, r2, r3⟩
theorem prl_len {K : Frg} : ∀ {xs : List V} {ps : List PV}, PRL K F H xs ps → xs.length = ps.length
  | _, _, .nil => rfl
  | _, _, .cons _ t => by rw [List.length_cons, List.length_cons, prl_len t]
def LenIs (f : Env → Option (List R × Env)) (n : Nat) : Prop := ∀ ρ rs ρ', f ρ = some (rs, ρ') → rs.length = n
theorem i_rng1 {f : Env → Option (List R × Env)} {p : Pos} (hg : Gl X "range") (hm : X.mg "range" = none) (ha : PA X [a] (tA G f)) (hn : noStar [a] = true) (hL : LenIs f 1) : PI X tg (.Call (.Name "range" p) [a] [] pos) (tI G (fRng f)) := by
  refine ⟨fun pins s σ H R I ⟨ρ, F, l, ρ', S, q, h⟩ => ?_⟩
  obtain ⟨rs, vs, q1, q2, q3⟩ := rng_some q
  refine (pi_range1 (pos := pos) (p := p) hg hm ha (noStar_each hn _)).run pins s σ H R I ⟨ρ, F, rs, ρ', S, q1, fun xs H1 F1 S1 e1 w1 => ?_⟩
  have pl := w1.peek S1 q2
  have hl := prl_len pl
  rw [wrl_len w1, hL _ _ _ q1] at hl
  match vs, hl, pl, q3 with
  | [.int j], hl, pl, q3 =>
    obtain ⟨x, rfl, hx⟩ := prl1 pl
    obtain rfl := hx.int
    have q3 : (if small62 j = true then some (rangeL 0 j.toNat) else none) = some l := q3
    obtain ⟨hs, rfl⟩ := ite_some q3
    obtain ⟨s1, s2⟩ := small_of hs
    exact ⟨j, rfl, s1, s2, h _ H1 F1 S1 e1 walk_range⟩
theorem i_rng2 {f : Env → Option (List R × Env)} {p : Pos} (hg : Gl X "range") (hm : X.mg "range" = none) (ha : PA X [a, b] (tA G f)) (hn : noStar [a, b] = true) (hL : LenIs f 2) : PI X tg (.Call (.Name "range" p) [a, b] [] pos) (tI G (fRng f)) := by
  refine ⟨fun pins s σ H R I ⟨ρ, F, l, ρ', S, q, h⟩ => ?_⟩
  obtain ⟨rs, vs, q1, q2, q3⟩ := rng_some q
  have hn2 := (noStar_cons hn).2
  refine (pi_range2 (pos := pos) (p := p) hg hm ha (by rw [noStar_each hn, noStar_each hn2]; rfl) (by rw [noStar_each hn2]; rfl)).run pins s σ H R I ⟨ρ, F, rs, ρ', S, q1, fun xs H1 F1 S1 e1 w1 => ?_⟩
  have pl := w1.peek S1 q2
  have hl := prl_len pl
  rw [wrl_len w1, hL _ _ _ q1] at hl
  match vs, hl, pl, q3 with
  | [.int i, .int j], hl, pl, q3 =>
    obtain ⟨x, y, rfl, hx, hy⟩ := prl2 pl
    obtain rfl := hx.int
    obtain rfl := hy.int
    have q3 : (if (small62 i && small62 j) = true then some (rangeL i (j - i).toNat) else none) = some l := q3
    obtain ⟨hs, rfl⟩ := ite_some q3
    obtain ⟨h1, h2⟩ := and_tt hs
    obtain ⟨s1, s2⟩ := small_of h1
    obtain ⟨s3, s4⟩ := small_of h2
    exact ⟨i, j, rfl, ⟨s1, s2, s3, s4⟩, h _ H1 F1 S1 e1 walk_range⟩
theorem rgN_size {i j c : Int} (h : c ≠ 0) : Builtin.Range.rangeSize i j c = (rgN i j c : Nat) := by
  unfold Builtin.Range.rangeSize rgN
  by_cases h0 : 0 < c
  · rw [if_pos h0, if_pos h0]
    by_cases h1 : i < j
    · rw [if_pos h1, if_pos h1]
      have : 0 ≤ (j - i - 1) / c := Int.ediv_nonneg (by omega) (by omega)
      omega
    · rw [if_neg h1, if_neg h1]; rfl
  · rw [if_neg h0, if_neg h0]
    have h2 : c < 0 := by omega
    rw [if_pos h2]
    by_cases h1 : j < i
    · rw [if_pos (show i > j from h1), if_pos h1]
      have : 0 ≤ (i - j - 1) / (-c) := Int.ediv_nonneg (by omega) (by omega)
      omega
    · rw [if_neg (show ¬ i > j from h1), if_neg h1]; rfl
theorem fits_of {i : Int} (h1 : -(2 ^ 63) ≤ i) (h2 : i < 2 ^ 63) : Builtin.Range.rangeFitsLong i = true := by
  unfold Builtin.Range.rangeFitsLong
  rw [decide_eq_true h1, decide_eq_true h2]
  rfl
theorem div_le_self {a b : Int} (ha : 0 ≤ a) (hb : 0 < b) : a / b ≤ a := by
  have h1 : a / b * 1 ≤ a / b * b := Int.mul_le_mul_of_nonneg_left (by omega) (Int.ediv_nonneg ha (by omega))
  have h2 : a / b * b ≤ a := Int.ediv_mul_le a (by omega)
  omega
theorem small_rg {i j c : Int} (h1 : -(2 ^ 62) ≤ i ∧ i < 2 ^ 62) (h2 : -(2 ^ 62) ≤ j ∧ j < 2 ^ 62) (hc : c ≠ 0) (h3 : c.natAbs < 1073741824) : Builtin.Range.small i j c = true := by
  unfold Builtin.Range.small
  have hs : 0 ≤ Builtin.Range.rangeSize i j c ∧ Builtin.Range.rangeSize i j c < 2 ^ 63 := by
    unfold Builtin.Range.rangeSize
    by_cases h0 : c > 0
    · rw [if_pos h0]
      by_cases q : i < j
      · rw [if_pos q]
        have a1 := div_le_self (a := j - i - 1) (b := c) (by omega) h0
        have a2 : 0 ≤ (j - i - 1) / c := Int.ediv_nonneg (by omega) (by omega)
        omega
      · rw [if_neg q]; omega
    · rw [if_neg h0]
      by_cases q : i > j
      · rw [if_pos q]
        have a1 := div_le_self (a := i - j - 1) (b := -c) (by omega) (by omega)
        have a2 : 0 ≤ (i - j - 1) / (-c) := Int.ediv_nonneg (by omega) (by omega)
        omega
      · rw [if_neg q]; omega
  rw [fits_of (by omega) (by omega), fits_of (by omega) (by omega), fits_of (by omega) (by omega), fits_of (by omega) (by omega)]
  by_cases h0 : c > 0
  · rw [if_pos h0, fits_of (by omega) (by omega)]; simp
  · rw [if_neg h0, fits_of (by omega) (by omega)]; simp
theorem i_rng3 {f : Env → Option (List R × Env)} {p : Pos} (hg : Gl X "range") (hm : X.mg "range" = none) (ha : PA X [a, b, c] (tA G f)) (hn : noStar [a, b, c] = true) (hL : LenIs f 3) : PI X tg (.Call (.Name "range" p) [a, b, c] [] pos) (tI G (fRng f)) := by
  refine ⟨fun pins s σ H R I ⟨ρ, F, l, ρ', S, q, h⟩ => ?_⟩
  obtain ⟨rs, vs, q1, q2, q3⟩ := rng_some q
  refine (pi_range3 (pos := pos) (p := p) hg hm ha (noStar_each hn _) (noStar_any (noStar_cons hn).2).1).run pins s σ H R I ⟨ρ, F, rs, ρ', S, q1, fun xs H1 F1 S1 e1 w1 => ?_⟩
  have pl := w1.peek S1 q2
  have hl := prl_len pl
  rw [wrl_len w1, hL _ _ _ q1] at hl
  match vs, hl, pl, q3 with
  | [.int i, .int j, .int c], hl, pl, q3 =>
    obtain ⟨x, y, z, rfl, hx, hy, hz⟩ := prl3 pl
    obtain rfl := hx.int
    obtain rfl := hy.int
    obtain rfl := hz.int
    have q3 : (if (small62 i && small62 j && divOk c) = true then some ((List.range (rgN i j c)).map fun (k : Nat) => PV.int (i + (k : Int) * c)) else none) = some l := q3
    obtain ⟨hs, rfl⟩ := ite_some q3
    obtain ⟨h1, h3⟩ := and_tt hs
    obtain ⟨h1, h2⟩ := and_tt h1
    obtain ⟨d1, d2⟩ := divOk_c h3
    exact ⟨i, j, c, rgN i j c, rfl, ⟨d1, d2, small_rg (small_of h1) (small_of h2) d1 d2, rgN_size d1⟩, h _ H1 F1 S1 e1 walk_rangeC⟩
abbrev fZip (fa fb : Env → Option (R × Env)) : Env → Option (List PV × Env) := fun ρ => match fa ρ with
    | none => none
    | some (ra, ρ1) => (match fb ρ1 with
      | none => none
      | some (rb, ρ2) => (match fz (wt ra) ρ2 with
        | none => none
        | some (x, ρ3) => (match fz (wt rb) ρ3 with
          | none => none
          | some (y, ρ4) => (match x with
            | .lst xs => (match y with | .lst ys => some (zipL xs ys, ρ4) | _ => none)
            | .tup xs => (match y with | .tup ys => some (zipL xs ys, ρ4) | _ => none)
            | _ => none))))
theorem zip_some {fa fb : Env → Option (R × Env)} {l : List PV} (h : fZip fa fb ρ = some (l, ρ')) : ∃ ra ρ1 rb ρ2 x ρ3 y, fa ρ = some (ra, ρ1) ∧ fb ρ1 = some (rb, ρ2) ∧ fz (wt ra) ρ2 = some (x, ρ3) ∧ fz (wt rb) ρ3 = some (y, ρ') ∧
    ((∃ xs ys, x = .lst xs ∧ y = .lst ys ∧ l = zipL xs ys) ∨ (∃ xs ys, x = .tup xs ∧ y = .tup ys ∧ l = zipL xs ys)) := by
  unfold fZip at h
  cases q1 : fa ρ with
  | none => simp only [q1] at h; cases h
  | some p =>
    obtain ⟨ra, ρ1⟩ := p
    simp only [q1] at h
    cases q2 : fb ρ1 with
    | none => simp only [q2] at h; cases h
    | some p2 =>
      obtain ⟨rb, ρ2⟩ := p2
      simp only [q2] at h
      cases q3 : fz (wt ra) ρ2 with
      | none => simp only [q3] at h; cases h
      | some p3 =>
        obtain ⟨x, ρ3⟩ := p3
        simp only [q3] at h
        cases q4 : fz (wt rb) ρ3 with
        | none => simp only [q4] at h; cases h
        | some p4 =>
          obtain ⟨y, ρ4⟩ := p4
          simp only [q4] at h
          cases x with
          | lst xs =>
            cases y with
            | lst ys =>
              obtain ⟨rfl, rfl⟩ : zipL xs ys = l ∧ ρ4 = ρ' := by simpa using h
              exact ⟨ra, ρ1, rb, ρ2, _, ρ3, _, rfl, q2, q3, q4, .inl ⟨xs, ys, rfl, rfl, rfl⟩⟩
            | _ => cases h
          | tup xs =>
            cases y with
            | tup ys =>
              obtain ⟨rfl, rfl⟩ : zipL xs ys = l ∧ ρ4 = ρ' := by simpa using h
              exact ⟨ra, ρ1, rb, ρ2, _, ρ3, _, rfl, q2, q3, q4, .inr ⟨xs, ys, rfl, rfl, rfl⟩⟩
            | _ => cases h
          | _ => cases h
theorem i_zip {fa fb : Env → Option (R × Env)} {p tpos : Pos} {elts : List Expr} {kk : Nat} (hK : G.K = X.kw) (hg : Gl X "zip") (hm : X.mg "zip" = none) (ha : PE X a (tE G fa)) (hb : PE X b (tE G fb)) (hn : noStar [a, b] = true) :
    PI X (.Tuple elts kk tpos) (.Call (.Name "zip" p) [a, b] [] pos) (tI G (fZip fa fb)) := by
  have hn2 := (noStar_cons hn).2
  have hA : PA X [a, b] (tCons (tE G fa) (tCons (tE G fb) tNil)) := pa_cons ha (pa_cons hb pa_nil (noStar_each hn2 _)) (noStar_each hn _)
  refine ⟨fun pins s σ H R I ⟨ρ, F, l, ρ', S, q, h⟩ => ?_⟩
  obtain ⟨ra, ρ1, rb, ρ2, x, ρ3, y, q1, q2, q3, q4, q5⟩ := zip_some q
  refine (RZ.pi_zipA (pos := pos) (p := p) hg hm hA (noStar_each hn _) (noStar_any hn2).1).run pins s σ H R I ⟨ρ, F, ra, ρ1, S, q1, fun u H1 F1 S1 e1 r1 => ?_⟩
  obtain ⟨F1', e1', S1', w1⟩ := r1.wait S1
  refine ⟨ρ1, F1', rb, ρ2, S1', q2, fun v H2 F2 S2 e2 r2 => ?_⟩
  obtain ⟨F2', e2', S2', w2⟩ := r2.wait S2
  obtain ⟨F3, e3, S3, R3⟩ := (WR.rr ((w1.mono e2).mono e2') : RR G σ H2 F2' ρ2 u (wt ra)).frz S2' q3
  obtain ⟨F4, e4, S4, R4⟩ := (WR.rr (w2.mono e3) : RR G σ H2 F3 ρ3 v (wt rb)).frz S3 q4
  have R3' := R3.mono e4 _ _
  have ee := e1.trans (e1'.trans (e2.trans (e2'.trans (e3.trans e4))))
  show ∃ _, _
  rcases q5 with ⟨xs, ys, rfl, rfl, rfl⟩ | ⟨xs, ys, rfl, rfl, rfl⟩
  · cases R3' with
    | lst h1 k1 =>
      cases R4 with
      | lst h2 k2 =>
        rw [show X.K = G.K.1 by rw [hK]]
        exact ⟨_, _, _, _, rfl, .inl ⟨SqL.of (S4.sub _ _ h1), SqL.of (S4.sub _ _ h2), h _ H2 F4 S4 ee (walk_zipL h1 h2 k1 k2)⟩⟩
  · cases R3' with
    | tup h1 k1 =>
      cases R4 with
      | tup h2 k2 =>
        rw [show X.K = G.K.1 by rw [hK]]
        exact ⟨_, _, _, _, rfl, .inr ⟨S4.sub.seqT h1, S4.sub.seqT h2, h _ H2 F4 S4 ee (walk_zipT h1 h2 k1 k2)⟩⟩
end
end Py

/-! Pv13: comprehensions. -/
namespace Py
open PySem PySem.Spec PyProof.Rows L2
section
variable {X : Cx} {G : Gh} {σ : L2.St} {H H' : Hp} {ρ ρ' : Env} {F F' : Hp} {a b c e tg : Expr} {pos : Pos} {Φ : Tab}

def Sib (G G' : Gh) : Prop := G'.K = G.K ∧ G'.io = G.io
/-- the list that is being made -/
def Gd (G : Gh) (D : Addr) (acc : List V) : Gh := { G with H0 := L2.upd G.H0 D (.lst acc), F0 := fun b => if b = D then none else G.F0 b }
theorem Gd.sib (G : Gh) (D : Addr) (acc : List V) : Sib G (Gd G D acc) := ⟨rfl, rfl⟩
section
variable {D : Addr} {acc acc' : List V}
theorem Gd.at : (Gd G D acc).H0 D = some (.lst acc) := upd_same
theorem Gd.ne {b : Addr} (h : b ≠ D) : (Gd G D acc).H0 b = G.H0 b := upd_ne h
theorem Gd.f0 {b : Addr} (h : b ≠ D) : (Gd G D acc).F0 b = G.F0 b := if_neg h
theorem Gd.fD : (Gd G D acc).F0 D = none := if_pos rfl
theorem Gd.own_ne (S : SOk (Gd G D acc) σ H ρ F) (io : G.io ≠ some D) {i : Nat} {w : PV} (q : slotAt ρ i = .own w) : σ[i]? ≠ some (some (.ref D)) := by
  intro z
  obtain ⟨a, h1, _, _, h4⟩ := S.own i w q
  obtain rfl : D = a := by rw [z] at h1; simpa using h1
  rcases h4 with h4 | h4
  · rw [Gd.at] at h4; cases h4
  · exact io h4
theorem SOk.toD (S : SOk G σ H ρ F) (n : H D = none) : SOk (Gd G D acc) σ (L2.upd H D (.lst acc)) ρ F := by
  obtain ⟨n1, n2, n3⟩ := S.new n
  refine ⟨S.len, fun b o e => ?_, fun b o e hio => ?_, S.sh, fun i v q => ?_, S.sep, fun b hb => ?_, fun b o e hio => ?_⟩
  · rw [upd_ne (ne_of_none (S.sub _ _ e) n)]; exact S.sub _ _ e
  · by_cases hb : b = D
    · subst hb; rw [Gd.at] at e; rw [upd_same]; exact e
    · rw [Gd.ne hb] at e; rw [upd_ne hb]; exact S.keep b o e hio
  · obtain ⟨b, h1, h2, h3, h4⟩ := S.own i v q
    obtain ⟨o, ho⟩ := h3.there
    have hb := ne_of_none ho n
    exact ⟨b, h1, h2, h3.mono (Ext.refl F) (upd_ne hb), h4.imp (fun z => by rw [Gd.ne hb]; exact z) id⟩
  · obtain ⟨g1, o, ho⟩ := S.pin b hb
    exact ⟨g1, o, by rw [upd_ne (ne_of_none ho n)]; exact ho⟩
  · by_cases hb : b = D
    · subst hb
      rw [Gd.fD]
      cases q : F b with
      | none => rfl
      | some u => rw [S.sub _ _ q] at n; cases n
    · rw [Gd.ne hb] at e
      rw [Gd.f0 hb]; exact S.old b o e hio
theorem SOk.reD (S : SOk (Gd G D acc) σ H ρ F) (io : G.io ≠ some D) : SOk (Gd G D acc') σ (L2.upd H D (.lst acc')) ρ F := by
  have nF : F D = none := by
    have := S.old D _ Gd.at io
    rw [Gd.fD] at this; exact this
  refine ⟨S.len, fun b o e => ?_, fun b o e hio => ?_, S.sh, fun i v q => ?_, S.sep, fun b hb => ?_, fun b o e hio => ?_⟩
  · rw [upd_ne (ne_of_none e nF)]; exact S.sub _ _ e
  · by_cases hb : b = D
    · subst hb; rw [Gd.at] at e; rw [upd_same]; exact e
    · rw [Gd.ne hb] at e; rw [upd_ne hb]
      exact S.keep b o (by rw [Gd.ne hb]; exact e) hio
  · obtain ⟨b, h1, h2, h3, h4⟩ := S.own i v q
    have hb : b ≠ D := fun z => Gd.own_ne S io q (by rw [← z]; exact h1)
    exact ⟨b, h1, h2, h3.mono (Ext.refl F) (upd_ne hb), h4.imp (fun z => by rw [Gd.ne hb] at z ⊢; exact z) id⟩
  · obtain ⟨g1, o, ho⟩ := S.pin b hb
    exact ⟨g1, o, by rw [upd_ne (fun z => io (by rw [← z]; exact hb))]; exact ho⟩
  · by_cases hb : b = D
    · subst hb; rw [Gd.fD]; exact nF
    · rw [Gd.ne hb] at e
      rw [Gd.f0 hb]
      have := S.old b o (by rw [Gd.ne hb]; exact e) hio
      rw [Gd.f0 hb] at this; exact this
theorem SOk.ofD (S : SOk (Gd G D acc) σ H ρ F) (n : G.H0 D = none) (io : G.io ≠ some D) : SOk G σ H ρ F := by
  refine ⟨S.len, S.sub, fun b o e hio => ?_, S.sh, fun i v q => ?_, S.sep, S.pin, fun b o e hio => ?_⟩
  · exact S.keep b o (by rw [Gd.ne (ne_of_none e n)]; exact e) hio
  · obtain ⟨b, h1, h2, h3, h4⟩ := S.own i v q
    have hb : b ≠ D := fun z => Gd.own_ne S io q (by rw [← z]; exact h1)
    exact ⟨b, h1, h2, h3, h4.imp (fun z => by rw [Gd.ne hb] at z; exact z) id⟩
  · have hb := ne_of_none e n
    have := S.old b o (by rw [Gd.ne hb]; exact e) hio
    rw [Gd.f0 hb] at this; exact this
end
/-! slots forgotten -/
theorem wipe_at : ∀ (vs : List Nat) (i : Nat), i ∉ vs → (wipe σ vs)[i]? = σ[i]?
  | [], _, _ => rfl
  | v :: vs, i, h => by
    unfold wipe
    rw [List.getElem?_set_ne (fun z => h (by rw [z]; exact List.mem_cons_self)), wipe_at vs i (fun z => h (List.mem_cons_of_mem _ z))]
theorem wipe_in : ∀ (vs : List Nat) (i : Nat), i ∈ vs → (wipe σ vs)[i]? = if i < σ.length then some none else none
  | v :: vs, i, h => by
    unfold wipe
    by_cases hv : v = i
    · subst hv
      by_cases hl : v < σ.length
      · rw [if_pos hl, List.getElem?_set_self (by rw [wipe_length]; exact hl)]
      · rw [if_neg hl, List.getElem?_eq_none (by rw [List.length_set, wipe_length]; omega)]
    · rw [List.getElem?_set_ne hv]
      rcases List.mem_cons.mp h with h | h
      · exact absurd h.symm hv
      · exact wipe_in vs i h
theorem wipe_same {σ2 : L2.St} {vs : List Nat} (h : Same (fun i => i ∈ vs) σ σ2) : wipe σ2 vs = wipe σ vs := by
  apply List.ext_getElem?
  intro i
  by_cases hi : i ∈ vs
  · rw [wipe_in _ _ hi, wipe_in _ _ hi, h.1]
  · rw [wipe_at _ _ hi, wipe_at _ _ hi, h.2 i hi]
theorem wipe_wipe (vs : List Nat) : Same (fun i => i ∈ vs) σ (wipe σ vs) := ⟨wipe_length σ vs, fun i hi => wipe_at vs i hi⟩
theorem wipeE_len : ∀ (vs : List Nat) (ρ : Env), (wipeE ρ vs).length = ρ.length
  | [], _ => rfl
  | v :: vs, ρ => by unfold wipeE; rw [List.length_set, wipeE_len vs]
theorem wipeE_at : ∀ (vs : List Nat) (ρ : Env) (i : Nat), slotAt (wipeE ρ vs) i = if i ∈ vs then .none else slotAt ρ i
  | [], ρ, i => by simp [wipeE]
  | v :: vs, ρ, i => by
    unfold wipeE
    by_cases hv : v < (wipeE ρ vs).length
    · rw [slotAt_set hv]
      by_cases h : v = i
      · subst h; simp
      · rw [if_neg h, wipeE_at vs ρ i]
        simp [Ne.symm h]
    · rw [List.set_eq_of_length_le (by omega), wipeE_at vs ρ i]
      by_cases h : i = v
      · subst h
        have : slotAt ρ i = .none := by
          unfold slotAt
          rw [List.getD_eq_getElem?_getD, List.getElem?_eq_none (by rw [wipeE_len] at hv; omega)]
          rfl
        simp [this]
      · simp [h]
theorem backE_len : ∀ (vs : List Nat) (ρ ρ0 : Env), (backE ρ ρ0 vs).length = ρ.length
  | [], _, _ => rfl
  | v :: vs, ρ, ρ0 => by unfold backE; rw [List.length_set, backE_len vs]
theorem backE_at : ∀ (vs : List Nat) (ρ ρ0 : Env) (i : Nat), ρ.length = ρ0.length → slotAt (backE ρ ρ0 vs) i = if i ∈ vs then slotAt ρ0 i else slotAt ρ i
  | [], ρ, ρ0, i, _ => by simp [backE]
  | v :: vs, ρ, ρ0, i, hl => by
    unfold backE
    by_cases hv : v < (backE ρ ρ0 vs).length
    · rw [slotAt_set hv]
      by_cases h : v = i
      · subst h; simp
      · rw [if_neg h, backE_at vs ρ ρ0 i hl]
        simp [Ne.symm h]
    · rw [List.set_eq_of_length_le (by omega), backE_at vs ρ ρ0 i hl]
      by_cases h : i = v
      · subst h
        have h1 : ¬ i < ρ0.length := by rw [backE_len] at hv; omega
        have h2 : slotAt ρ0 i = .none := by
          unfold slotAt
          rw [List.getD_eq_getElem?_getD, List.getElem?_eq_none (by omega)]
          rfl
        have h3 : slotAt ρ i = .none := by
          unfold slotAt
          rw [List.getD_eq_getElem?_getD, List.getElem?_eq_none (by omega)]
          rfl
        simp [h2, h3]
      · simp [h]
theorem SOk.wipe (S : SOk G σ H ρ F) {vs : List Nat} (hio : ∀ a, G.io = some a → 0 ∉ vs) : SOk G (L2.wipe σ vs) H (wipeE ρ vs) F := by
  refine ⟨by rw [wipeE_len, wipe_length]; exact S.len, S.sub, S.keep, fun i v q => ?_, fun i v q => ?_, fun i j v w a q1 q2 q3 q4 => ?_, fun a ha => ?_, S.old⟩
  · rw [wipeE_at] at q
    by_cases hi : i ∈ vs
    · rw [if_pos hi] at q; cases q
    · rw [if_neg hi] at q; rw [wipe_at _ _ hi]; exact S.sh i v q
  · rw [wipeE_at] at q
    by_cases hi : i ∈ vs
    · rw [if_pos hi] at q; cases q
    · rw [if_neg hi] at q; rw [wipe_at _ _ hi]; exact S.own i v q
  · rw [wipeE_at] at q1 q2
    by_cases hi : i ∈ vs
    · rw [if_pos hi] at q1; cases q1
    · by_cases hj : j ∈ vs
      · rw [if_pos hj] at q2; cases q2
      · rw [if_neg hi] at q1
        rw [if_neg hj] at q2
        rw [wipe_at _ _ hi] at q3
        rw [wipe_at _ _ hj] at q4
        exact S.sep i j v w a q1 q2 q3 q4
  · rw [wipe_at _ _ (hio a ha)]; exact S.pin a ha
theorem noOwn_at {vs : List Nat} (h : noOwn ρ vs = true) {i : Nat} (hi : i ∈ vs) (w : PV) : slotAt ρ i ≠ .own w := by
  unfold noOwn at h
  have := List.all_eq_true.mp h i hi
  intro z
  rw [z] at this
  cases this
/-- back in the def: S1 the state ahead of the block -/
theorem SOk.back {ρ1 : Env} {H1 F1 : Hp} {vs : List Nat} (S : SOk G (L2.wipe σ vs) H ρ F) (S1 : SOk G σ H1 ρ1 F1) (e : Ext F1 F) (hn : noOwn ρ1 vs = true) (hio : ∀ a, G.io = some a → 0 ∉ vs) : SOk G σ H (backE ρ ρ1 vs) F := by
  have hl : ρ.length = ρ1.length := by rw [S.len, wipe_length, S1.len]
  refine ⟨by rw [backE_len, S.len, wipe_length], S.sub, S.keep, fun i v q => ?_, fun i v q => ?_, fun i j v w a q1 q2 q3 q4 => ?_, fun a ha => ?_, S.old⟩
  · rw [backE_at _ _ _ _ hl] at q
    by_cases hi : i ∈ vs
    · rw [if_pos hi] at q
      obtain ⟨x, g1, g2⟩ := S1.sh i v q
      exact ⟨x, g1, g2.mono e _ _⟩
    · rw [if_neg hi] at q
      obtain ⟨x, g1, g2⟩ := S.sh i v q
      rw [wipe_at _ _ hi] at g1
      exact ⟨x, g1, g2⟩
  · rw [backE_at _ _ _ _ hl] at q
    by_cases hi : i ∈ vs
    · rw [if_pos hi] at q; exact absurd q (noOwn_at hn hi v)
    · rw [if_neg hi] at q
      obtain ⟨x, g1, g2⟩ := S.own i v q
      rw [wipe_at _ _ hi] at g1
      exact ⟨x, g1, g2⟩
  · rw [backE_at _ _ _ _ hl] at q1 q2
    by_cases hi : i ∈ vs
    · rw [if_pos hi] at q1; exact absurd q1 (noOwn_at hn hi v)
    · by_cases hj : j ∈ vs
      · rw [if_pos hj] at q2; exact absurd q2 (noOwn_at hn hj w)
      · rw [if_neg hi] at q1
        rw [if_neg hj] at q2
        rw [← wipe_at vs _ hi] at q3
        rw [← wipe_at vs _ hj] at q4
        exact S.sep i j v w a q1 q2 q3 q4
  · obtain ⟨g1, g2⟩ := S.pin a ha
    rw [wipe_at _ _ (hio a ha)] at g1
    exact ⟨g1, g2⟩

/-! ### the comprehension -/
abbrev stepL (Φ : Tab) (t : T) (own : List Nat) (fc : Env → Option (Bool × Env)) (fe : Env → Option (R × Env)) : PV → Env → Option (Option PV × Env) := fun x ρ' => match asgV Φ t x ρ' with
          | none => none
          | some ρ2 => (match fc ρ2 with
            | none => none
            | some (false, ρ3) => some (none, wipeE ρ3 own)
            | some (true, ρ3) => (match fe ρ3 with
              | none => none
              | some (r, ρ4) => (match fz r ρ4 with | none => none | some (v, ρ5) => some (some v, wipeE ρ5 own))))
abbrev fLc (Φ : Tab) (t : T) (own : List Nat) (fi : Env → Option (List PV × Env)) (fc : Env → Option (Bool × Env)) (fe : Env → Option (R × Env)) : Env → Option (R × Env) := fun ρ => match fi ρ with
    | none => none
    | some (xs, ρ1) => if noOwn ρ1 own && !(Φ.io && own.contains 0) then
        (match loopC (stepL Φ t own fc fe) xs (wipeE ρ1 own) with
        | none => none
        | some (ys, ρ2) => if ys.length < line then some (.own (.lst ys), backE ρ2 ρ1 own) else none)
      else none
theorem lc_some {t : T} {own : List Nat} {fi : Env → Option (List PV × Env)} {fc : Env → Option (Bool × Env)} {fe : Env → Option (R × Env)} {r : R} (h : fLc Φ t own fi fc fe ρ = some (r, ρ')) :
    ∃ xs ρ1 ys ρ2, fi ρ = some (xs, ρ1) ∧ noOwn ρ1 own = true ∧ ¬ (Φ.io = true ∧ 0 ∈ own) ∧ loopC (stepL Φ t own fc fe) xs (wipeE ρ1 own) = some (ys, ρ2) ∧ ys.length < line ∧ r = .own (.lst ys) ∧ ρ' = backE ρ2 ρ1 own := by
  unfold fLc at h
  cases q1 : fi ρ with
  | none => simp only [q1] at h; cases h
  | some p =>
    obtain ⟨xs, ρ1⟩ := p
    simp only [q1] at h
    by_cases q2 : (noOwn ρ1 own && !(Φ.io && own.contains 0)) = true
    · rw [if_pos q2] at h
      obtain ⟨h1, h2⟩ := and_tt q2
      cases q3 : loopC (stepL Φ t own fc fe) xs (wipeE ρ1 own) with
      | none => simp only [q3] at h; cases h
      | some p2 =>
        obtain ⟨ys, ρ2⟩ := p2
        simp only [q3] at h
        by_cases q4 : ys.length < line
        · rw [if_pos q4] at h
          obtain ⟨rfl, rfl⟩ : R.own (.lst ys) = r ∧ backE ρ2 ρ1 own = ρ' := by simpa using h
          exact ⟨xs, ρ1, ys, ρ2, rfl, h1, fun ⟨z1, z2⟩ => by
            rw [z1] at h2
            simp [z2] at h2, q3, q4, rfl, rfl⟩
        · rw [if_neg q4] at h; cases h
    · rw [if_neg q2] at h; cases h
def gAll (G : Gh) (Φ : Tab) (t : T) : TG := fun x σ H Q => ∃ G', Sib G G' ∧ gT G' Φ t x σ H Q
def tBAll (G : Gh) (f : Env → Option (Bool × Env)) : TT := fun σ H Q => ∃ G', Sib G G' ∧ tB G' f σ H Q
def tEAll (G : Gh) (f : Env → Option (R × Env)) : TE := fun σ H Q => ∃ G', Sib G G' ∧ tE G' f σ H Q
theorem lc_weak {t : T} {own : List Nat} {fi : Env → Option (List PV × Env)} {fc : Env → Option (Bool × Env)} {fe : Env → Option (R × Env)} (L : IoOk G Φ) (ht : ∀ i, InT i t → i ∈ own) (σ : L2.St) (H : Hp) (Q : VK) (h : tE G (fLc Φ t own fi fc fe) σ H Q) :
    tLc (tI G fi) (gAll G Φ t) (tBAll G fc) (tEAll G fe) own σ H Q := by
  obtain ⟨ρ, F, r, ρ', S, q, hq⟩ := h
  obtain ⟨xs, ρ1, ys, ρe, q1, hno, h0, q2, hlen, rfl, rfl⟩ := lc_some q
  have hio : ∀ a, G.io = some a → 0 ∉ own := fun a ha z => h0 ⟨L a ha, z⟩
  refine ⟨ρ, F, xs, ρ1, S, q1, fun J H1 F1 S1 e1 WO D nD => ?_⟩
  obtain ⟨n1, n2, n3⟩ := S1.new nD
  refine ⟨fun i m H => m = xs.length - i ∧ i ≤ xs.length ∧ ∃ F2 ρ2 acc dn rest, Ext F1 F2 ∧ SOk (Gd G D acc) (L2.wipe σ own) H ρ2 F2 ∧ RepL G.K F2 acc dn ∧ loopC (stepL Φ t own fc fe) (xs.drop i) ρ2 = some (rest, ρe) ∧ dn ++ rest = ys,
    ⟨xs.length, by simp, Nat.zero_le _, F1, wipeE ρ1 own, [], [], ys, Ext.refl F1, (S1.toD nD).wipe hio, .nil, by simpa using q2, rfl⟩, ?_⟩
  rintro i m H2 ⟨rfl, hi, F2, ρ2, acc, dn, rest, e2, S2, racc, ql, hy⟩
  have hF2 : F2 D = none := by
    have := S2.old D _ Gd.at n2
    rw [Gd.fD] at this; exact this
  have hH2 : H2 D = some (.lst acc) := S2.keep D _ Gd.at n2
  by_cases hlt : i < xs.length
  · refine .inr ⟨WO.go i F2 H2 e2 S2.sub hlt, fun H' => ∃ F3 ρ3 acc' dn' rest', Ext F1 F3 ∧ SOk (Gd G D acc') (L2.wipe σ own) H' ρ3 F3 ∧ RepL G.K F3 acc' dn' ∧ loopC (stepL Φ t own fc fe) (xs.drop (i + 1)) ρ3 = some (rest', ρe) ∧ dn' ++ rest' = ys,
      fun H' hN => ⟨xs.length - (i + 1), by omega, rfl, hlt, hN⟩, fun x H3 hyld => ?_⟩
    have hp : xs[i]? = some xs[i] := List.getElem?_eq_getElem hlt
    obtain ⟨F3, a1, a2, a3, a4, rx⟩ := WO.yld i _ F2 H2 x H3 e2 S2.sub hp hyld
    have S3 : SOk (Gd G D acc) (L2.wipe σ own) H3 ρ2 F3 := S2.grow a3 a1 a2 a4
    rw [List.drop_eq_getElem_cons hlt] at ql
    unfold loopC at ql
    cases qs : stepL Φ t own fc fe xs[i] ρ2 with
    | none => rw [qs] at ql; cases ql
    | some ps =>
      obtain ⟨o, ρn⟩ := ps
      rw [qs] at ql
      simp only at ql
      cases qr : loopC (stepL Φ t own fc fe) (xs.drop (i + 1)) ρn with
      | none => rw [qr] at ql; cases ql
      | some pr =>
        obtain ⟨ys', ρe'⟩ := pr
        rw [qr] at ql
        simp only at ql
        have hpair := Prod.mk.inj (Option.some.inj ql)
        have hrest := hpair.1
        obtain rfl : ρe' = ρe := hpair.2
        unfold stepL at qs
        cases qa : asgV Φ t xs[i] ρ2 with
        | none => rw [qa] at qs; cases qs
        | some ρa =>
          rw [qa] at qs
          simp only at qs
          rw [asgV_R] at qa
          refine ⟨Gd G D acc, Gd.sib _ _ _, ρ2, F3, .sh xs[i], ρa, S3, rx, qa, fun σ2 F4 S4 e4 sm => ?_⟩
          have hw : L2.wipe σ2 own = L2.wipe σ own := wipe_same ((wipe_wipe own).trans (sm.imp ht))
          refine ⟨by rw [hw], ?_⟩
          cases qc : fc ρa with
          | none => rw [qc] at qs; cases qs
          | some pc =>
            obtain ⟨k, ρb⟩ := pc
            rw [qc] at qs
            refine ⟨Gd G D acc, Gd.sib _ _ _, ρa, F4, k, ρb, S4, qc, fun H5 F5 S5 e5 => ?_⟩
            have ee5 := e2.trans (a1.trans (e4.trans e5))
            cases k with
            | false =>
              simp only at qs
              obtain ⟨rfl, rfl⟩ : none = o ∧ wipeE ρb own = ρn := by simpa using qs
              dsimp only
              rw [if_neg Bool.false_ne_true]
              have S6 := S5.wipe (vs := own) hio
              rw [hw] at S6
              exact ⟨F5, _, acc, dn, ys', ee5, S6, racc.mono (a1.trans (e4.trans e5)) _ _, qr, by rw [← hy, ← hrest]⟩
            | true =>
              simp only at qs
              dsimp only
              rw [if_pos rfl]
              cases qe : fe ρb with
              | none => rw [qe] at qs; cases qs
              | some pe =>
                obtain ⟨r, ρc⟩ := pe
                rw [qe] at qs
                simp only at qs
                cases qf : fz r ρc with
                | none => rw [qf] at qs; cases qs
                | some pf =>
                  obtain ⟨v, ρd⟩ := pf
                  rw [qf] at qs
                  simp only at qs
                  obtain ⟨rfl, rfl⟩ : some v = o ∧ wipeE ρd own = ρn := by simpa using qs
                  refine ⟨Gd G D acc, Gd.sib _ _ _, ρb, F5, r, ρc, S5, qe, fun y H6 F6 S6 e6 r6 => ?_⟩
                  obtain ⟨F7, e7, S7, R7⟩ := r6.frz S6 qf
                  have hD6 : H6 D = some (.lst acc) := S7.keep D _ Gd.at n2
                  have hdn : acc.length < line := by
                    rw [racc.length]
                    have : (dn ++ rest).length = ys.length := by rw [hy]
                    rw [List.length_append, ← hrest] at this
                    simp at this
                    omega
                  refine ⟨acc, hD6, by rw [← line_eq]; exact hdn, ?_⟩
                  have S8 := (S7.reD (acc' := acc ++ [y]) n2).wipe (vs := own) hio
                  rw [hw] at S8
                  exact ⟨F7, _, acc ++ [y], dn ++ [v], ys', ee5.trans (e6.trans e7), S8, (racc.mono (a1.trans (e4.trans (e5.trans (e6.trans e7)))) _ _).append (.cons R7 .nil), qr, by rw [← hy, ← hrest]; simp⟩
  · have hie : xs.length ≤ i := by omega
    refine .inl ⟨WO.stop i F2 H2 e2 S2.sub hie, ?_⟩
    rw [List.drop_eq_nil_of_le hie] at ql
    unfold loopC at ql
    obtain ⟨rfl, rfl⟩ : [] = rest ∧ ρ2 = ρe := by simpa using ql
    rw [List.append_nil] at hy
    subst hy
    have S3 := (S2.ofD n1 n2).back S1 e2 hno hio
    have hl2 : ρ2.length = ρ1.length := by rw [S2.len, wipe_length, S1.len]
    refine hq _ H2 F2 S3 (e1.trans e2) ⟨D, rfl, hF2, ⟨acc, hH2, racc⟩, n1, n2, fun j w hj => ?_⟩
    rw [backE_at _ _ _ _ hl2] at hj
    by_cases hjo : j ∈ own
    · rw [if_pos hjo] at hj; exact absurd hj (noOwn_at hno hjo w)
    · rw [if_neg hjo] at hj
      have := Gd.own_ne S2 n2 hj
      rw [wipe_at _ _ hjo] at this
      exact this
end
end Py

/-! Ps0: hash tables of sets, up to 2048 slots. -/
namespace Ps
open PySem PySem.Spec PyProof.Rows L2

/-- the slots that a round has met -/
def cov (m : Nat) : Nat → Nat → Nat → Nat
  | 0, _, acc => acc
  | f + 1, x, acc => cov m f ((x * 5 + 1) % (m + 1)) (acc ||| (1 <<< x))
theorem cov_bit (m : Nat) : ∀ (f b acc j : Nat), (cov m f (lcgN m b) acc).testBit j = true → acc.testBit j = true ∨ ∃ c, b ≤ c ∧ c < b + f ∧ lcgN m c = j
  | 0, b, acc, j, h => .inl h
  | f + 1, b, acc, j, h => by
    rcases cov_bit m f (b + 1) _ j h with q | ⟨c, h1, h2, h3⟩
    · rw [Nat.testBit_or, Bool.or_eq_true] at q
      rcases q with q | q
      · exact .inl q
      · refine .inr ⟨b, Nat.le_refl _, by omega, ?_⟩
        rw [Nat.one_shiftLeft, Nat.testBit_two_pow] at q
        exact of_decide_eq_true q
    · exact .inr ⟨c, by omega, by omega, h3⟩
structure Gd (m : Nat) : Prop where
  five : m = 7 ∨ m = 31 ∨ m = 127 ∨ m = 511 ∨ m = 2047
  odd : m % 2 = 1
  low : m ≤ 2047
  rnd : lcgN m (m + 1) = 0
  all : ∀ j, j ≤ m → ∃ b, b ≤ m ∧ lcgN m b = j
theorem gd_of {m : Nat} (h0 : m = 7 ∨ m = 31 ∨ m = 127 ∨ m = 511 ∨ m = 2047) (h1 : m % 2 = 1) (h2 : m ≤ 2047) (h3 : lcgN m (m + 1) = 0) (h4 : cov m (m + 1) 0 0 = 2 ^ (m + 1) - 1) : Gd m := by
  refine ⟨h0, h1, h2, h3, fun j hj => ?_⟩
  have e : (cov m (m + 1) (lcgN m 0) 0).testBit j = true := by
    show (cov m (m + 1) 0 0).testBit j = true
    rw [h4, Nat.testBit_two_pow_sub_one]
    exact decide_eq_true (by omega)
  rcases cov_bit m (m + 1) 0 0 j e with q | ⟨c, _, hc, e2⟩
  · rw [Nat.zero_testBit] at q; cases q
  · exact ⟨c, by omega, e2⟩
theorem gd7 : Gd 7 := gd_of (by decide) rfl (by decide) (by decide +kernel) (by decide +kernel)
theorem gd31 : Gd 31 := gd_of (by decide) rfl (by decide) (by decide +kernel) (by decide +kernel)
theorem gd127 : Gd 127 := gd_of (by decide) rfl (by decide) (by decide +kernel) (by decide +kernel)
theorem gd511 : Gd 511 := gd_of (by decide) rfl (by decide) (by decide +kernel) (by decide +kernel)
theorem gd2047 : Gd 2047 := gd_of (by decide) rfl (by decide) (by decide +kernel) (by decide +kernel)
variable {m : Nat}
theorem Gd.per (g : Gd m) : ∀ k, lcgN m (m + 1 + k) = lcgN m k
  | 0 => g.rnd
  | k + 1 => congrArg (fun z => (z * 5 + 1) % (m + 1)) (Gd.per g k)
theorem Gd.go (g : Gd m) {i j : Nat} (hi : i ≤ m) (hj : j ≤ m) : ∃ k, k ≤ m ∧ lcgI m i k = j := by
  obtain ⟨a, a1, rfl⟩ := g.all i hi
  obtain ⟨b, b1, rfl⟩ := g.all j hj
  by_cases c : a ≤ b
  · exact ⟨b - a, by omega, by rw [lcgN_add, show a + (b - a) = b by omega]⟩
  · exact ⟨m + 1 + b - a, by omega, by rw [lcgN_add, show a + (m + 1 + b - a) = m + 1 + b by omega, g.per]⟩
theorem Gd.run (g : Gd m) (h : Int) {j : Nat} (hj : j ≤ m) : ∃ n, n ≤ m + 12 ∧ runI m (SetTable.bits h) n = j := by
  obtain ⟨k, k1, k2⟩ := g.go (runI_le m (SetTable.bits h) 12) hj
  exact ⟨12 + k, by omega, (runI_tail (bits_lt h) k).trans k2⟩
theorem Gd.nth (g : Gd m) (h : Int) {j : Nat} (hj : j ≤ m) : ∃ k, k < 10 * SetTable.turns m ∧ way m h k = j := by
  obtain ⟨n, n1, n2⟩ := g.run h hj
  obtain ⟨k, k1, k2⟩ := run_nth m (SetTable.bits h) n
  refine ⟨k, by unfold SetTable.turns; omega, ?_⟩
  show (L2.nth m (runAt m (SetTable.bits h % (m + 1)) (SetTable.bits h)) k).j = j
  rw [k2]; exact n2
theorem way_in (m : Nat) (h : Int) (k : Nat) : way m h k ≤ m := by
  have i1 : SetTable.bits h % (m + 1) ≤ m := Nat.lt_succ_iff.mp (Nat.mod_lt _ (by omega))
  have i2 := runEnd_bd i1
  have i3 := nth_in (m := m) k (runAt m (SetTable.bits h % (m + 1)) (SetTable.bits h)) (by
    simp only [runAt]; omega)
  exact Nat.le_trans (Nat.le_add_right _ _) i3

/-- a table and the hashes of what stands in it, place by place -/
structure Tb (t : SetTable) (hs : List Int) : Prop where
  up : Ris t.place.toList
  no : t.dummies = #[]
  sz : t.place.size = hs.length
  gd : Gd t.mask
  le : ∀ x ∈ t.place.toList, x ≤ t.mask
  hit : ∀ (i : Nat) (h : Int) (j : Nat), hs[i]? = some h → t.place.toList[i]? = some j → ∃ k, way t.mask h k = j ∧ ∀ c, c < k → way t.mask h c ∈ t.place.toList
variable {t : SetTable} {hs : List Int}
theorem Tb.len (T : Tb t hs) : t.place.toList.length = hs.length := by rw [Array.length_toList]; exact T.sz
theorem Tb.gap (T : Tb t hs) (hl : hs.length ≤ t.mask) (h : Int) : ∃ K, K < 10 * SetTable.turns t.mask ∧ way t.mask h K ∉ t.place.toList ∧ ∀ k, k < K → way t.mask h k ∈ t.place.toList := by
  obtain ⟨j, j1, j2⟩ := st_missing t.place.toList (t.mask + 1) (by rw [T.len]; omega)
  obtain ⟨k, k1, k2⟩ := T.gd.nth h (Nat.lt_succ_iff.mp j1)
  obtain ⟨K, q1, q2, q3⟩ := st_least (p := fun k => way t.mask h k ∉ t.place.toList) k (by rw [← k2] at j2; exact j2)
  exact ⟨K, by omega, q2, fun c hc => Classical.byContradiction fun z => q3 c hc z⟩
theorem Tb.ahead (T : Tb t hs) {h : Int} {K i j : Nat} (hK : way t.mask h K ∉ t.place.toList) (hi : hs[i]? = some h) (hj : t.place.toList[i]? = some j) : ∃ k, k < K ∧ way t.mask h k = j := by
  obtain ⟨k, e, z⟩ := T.hit i h j hi hj
  refine ⟨k, Nat.lt_of_not_le fun c => ?_, e⟩
  rcases Nat.eq_or_lt_of_le c with c | c
  · exact hK (c ▸ e ▸ List.mem_of_getElem? hj)
  · exact hK (z K c)
/-- one more is put in -/
theorem Tb.put (T : Tb t hs) {h : Int} {K j p : Nat} (ej : way t.mask h K = j) (ep : SetTable.below t.place j = p) (hK : j ∉ t.place.toList) (hb : ∀ k, k < K → way t.mask h k ∈ t.place.toList) :
    p ≤ hs.length ∧ (t.put j).2 = p ∧ Tb (t.put j).1 (hs.take p ++ h :: hs.drop p) ∧ (t.put j).1.mask = t.mask ∧ (t.put j).1.led = t.led ∧ (t.put j).1.fill = hs.length + 1 := by
  obtain ⟨c1, _, _⟩ := below_cut T.up j
  have p1 : p ≤ t.place.toList.length := by rw [← ep, Array.length_toList]; exact c1
  have p2 : p ≤ hs.length := T.len ▸ p1
  have pl : (t.put j).1.place.toList = t.place.toList.take p ++ j :: t.place.toList.drop p := ep ▸ put_place t j
  have sz : (t.put j).1.place.size = hs.length + 1 := by rw [← Array.length_toList, pl, len_ins _ p1, T.len]
  have mo : ∀ x, x ∈ t.place.toList → x ∈ (t.put j).1.place.toList := fun x hx => by rw [pl]; exact mem_ins.2 (.inr hx)
  refine ⟨p2, ep, ⟨ris_insert T.up fun e => hK (List.mem_of_getElem? (by rw [Array.getElem?_toList]; exact e)), put_dm T.no j, by rw [len_ins _ p2]; exact sz, T.gd, fun x hx => ?_, fun i h' j' e1 e2 => ?_⟩, rfl, rfl, ?_⟩
  · rw [pl] at hx
    rcases mem_ins.1 hx with q | q
    · rw [q, ← ej]; exact way_in _ _ _
    · exact T.le x q
  · rw [tins_get hs p2] at e1
    rw [pl, tins_get _ p1] at e2
    have old : ∀ i, hs[i]? = some h' → t.place.toList[i]? = some j' → ∃ k, way (t.put j).1.mask h' k = j' ∧ ∀ c, c < k → way (t.put j).1.mask h' c ∈ (t.put j).1.place.toList := fun i a b => by
      obtain ⟨k, k1, k2⟩ := T.hit i h' j' a b
      exact ⟨k, k1, fun c hc => mo _ (k2 c hc)⟩
    by_cases a : i < p
    · rw [if_pos a] at e1 e2; exact old i e1 e2
    · rw [if_neg a] at e1 e2
      by_cases b : i = p
      · rw [if_pos b] at e1 e2
        cases e1; cases e2
        exact ⟨K, ej, fun c hc => mo _ (hb c hc)⟩
      · rw [if_neg b] at e1 e2; exact old _ e1 e2
  · show (t.put j).1.place.size + (t.put j).1.dummies.size = _
    rw [sz, put_dm T.no j]; rfl

/-! ### laid anew -/
theorem free_at (g : Gd m) (ow : Array (Option Nat)) (h : Int) {j : Nat} (hj : j ≤ m) (hf : oAt ow j = none) :
    ∃ K, SetTable.layClean.free m ow (SetTable.turns m) (SetTable.bits h % (m + 1)) (SetTable.bits h) = some (way m h K) ∧ oAt ow (way m h K) = none ∧ ∀ k, k < K → oAt ow (way m h k) ≠ none := by
  obtain ⟨n, n1, n2⟩ := g.run h hj
  generalize eo : off m (SetTable.bits h % (m + 1)) (SetTable.bits h) n = o
  have w : way m h o = j := by
    subst eo
    show (L2.nth m (runAt m (SetTable.bits h % (m + 1)) (SetTable.bits h)) _).j = j
    rw [nth_off, itL_run]; exact n2
  obtain ⟨K, k1, k2, k3⟩ := st_least (p := fun k => oAt ow (way m h k) = none) o (by rw [← w] at hf; exact hf)
  refine ⟨K, free_spec m ow _ n _ _ K (by unfold SetTable.turns; omega) (eo ▸ k1) (fun k hk => ?_) (Option.isNone_iff_eq_none.mpr k2), k2, k3⟩
  rw [Option.isNone_eq_false_iff, Option.isSome_iff_ne_none]
  exact k3 k hk
/-- who sits where -/
structure Sits (m : Nat) (done : List Int) (ow : Array (Option Nat)) : Prop where
  sz : ow.size = m + 1
  who : ∀ j k, j ≤ m → oAt ow j = some k → ∃ h K, done[k]? = some h ∧ way m h K = j ∧ ∀ c, c < K → oAt ow (way m h c) ≠ none
  each : ∀ k, k < done.length → ∃ j, j ≤ m ∧ oAt ow j = some k
  few : ∃ l : List Nat, l.length = done.length ∧ ∀ j, j ≤ m → oAt ow j ≠ none → j ∈ l
theorem Sits.nil (m : Nat) : Sits m [] (Array.replicate (m + 1) none) :=
  ⟨by simp, fun j k hj e => (by rw [oAt_init hj] at e; cases e), fun k hk => absurd hk (by simp), ⟨[], rfl, fun j hj e => absurd (oAt_init hj) e⟩⟩
theorem Sits.more (g : Gd m) {done : List Int} {ow : Array (Option Nat)} (W : Sits m done ow) (hl : done.length ≤ m) (h : Int) :
    ∃ j, SetTable.layClean.free m ow (SetTable.turns m) (SetTable.bits h % (m + 1)) (SetTable.bits h) = some j ∧ Sits m (done ++ [h]) (ow.setIfInBounds j (some done.length)) := by
  obtain ⟨l, l1, l2⟩ := W.few
  obtain ⟨z, z1, z2⟩ := st_missing l (m + 1) (by omega)
  have hz : oAt ow z = none := Classical.byContradiction fun c => z2 (l2 z (Nat.lt_succ_iff.mp z1) c)
  obtain ⟨K, f1, f2, f3⟩ := free_at g ow h (Nat.lt_succ_iff.mp z1) hz
  generalize ej : way m h K = j at f1 f2
  have jm : j ≤ m := ej ▸ way_in m h K
  have new := oAt_set_self (owner := ow) (j := j) (some done.length) (by rw [W.sz]; omega)
  have keep : ∀ i, oAt ow i ≠ none → oAt (ow.setIfInBounds j (some done.length)) i = oAt ow i := fun i hi => oAt_set_ne _ fun c => hi (c ▸ f2)
  refine ⟨j, f1, ⟨by rw [Array.size_setIfInBounds]; exact W.sz, fun i k hi e => ?_, fun k hk => ?_, ⟨j :: l, by simp [l1], fun i hi e => ?_⟩⟩⟩
  · by_cases c : i = j
    · subst c
      rw [new] at e
      cases e
      exact ⟨h, K, by simp, ej, fun c hc => by rw [keep _ (f3 c hc)]; exact f3 c hc⟩
    · rw [oAt_set_ne _ c] at e
      obtain ⟨h', K', a1, a2, a3⟩ := W.who i k hi e
      exact ⟨h', K', by rw [List.getElem?_append_left (List.getElem?_eq_some_iff.mp a1).1]; exact a1, a2, fun c hc => by rw [keep _ (a3 c hc)]; exact a3 c hc⟩
  · by_cases c : k < done.length
    · obtain ⟨i, i1, i2⟩ := W.each k c
      exact ⟨i, i1, by rw [keep i (by rw [i2]; simp)]; exact i2⟩
    · obtain rfl : k = done.length := by rw [List.length_append] at hk; simp at hk; omega
      exact ⟨j, jm, new⟩
  · by_cases c : i = j
    · rw [c]; exact List.mem_cons_self
    · rw [oAt_set_ne _ c] at e; exact List.mem_cons_of_mem _ (l2 i hi e)
theorem sits_all (g : Gd m) : ∀ (rest done : List Int) (ow : Array (Option Nat)), Sits m done ow → done.length + rest.length ≤ m →
    ∃ ow', rest.foldl (stepF m) (some (ow, done.length)) = some (ow', (done ++ rest).length) ∧ Sits m (done ++ rest) ow'
  | [], done, ow, W, _ => ⟨ow, by simp, by simpa using W⟩
  | h :: rest, done, ow, W, hl => by
    obtain ⟨j, e, W'⟩ := W.more g (by simp at hl; omega) h
    obtain ⟨ow', a, b⟩ := sits_all g rest (done ++ [h]) _ W' (by simp at hl ⊢; omega)
    refine ⟨ow', ?_, by simpa using b⟩
    rw [List.foldl_cons, stepF_some e]
    simpa using a
theorem lay_ok (t : SetTable) {hs : Array Int} {wanted : Nat} (hw : SetTable.sizeAbove wanted - 1 = m) (g : Gd m) (hn : hs.size ≤ m) :
    ∃ t' order, t.relaid hs wanted = some (t', order) ∧ order.toList.Perm (List.range hs.size) ∧ Tb t' (order.toList.map fun i => hs.getD i 0) ∧ t'.mask = m ∧ t'.led = t.led := by
  obtain ⟨ow, f, W⟩ := sits_all g hs.toList [] _ (Sits.nil m) (by simpa using hn)
  have f' : hs.toList.foldl (stepF m) (some (Array.replicate (m + 1) none, 0)) = some (ow, ([] ++ hs.toList).length) := f
  have lc : SetTable.layClean m hs = some ow := by rw [layClean_eq, f']; rfl
  rw [List.nil_append] at W
  obtain ⟨u1, u2⟩ := ris_live (fun j => ow.getD j none) (List.range (m + 1)) List.pairwise_lt_range
  change Ris ((liveOf m ow).map (·.1)) at u1
  change ∀ x ∈ (liveOf m ow).map (·.1), x ∈ List.range (m + 1) at u2
  have ml : ∀ j k, (j, k) ∈ liveOf m ow ↔ j ≤ m ∧ oAt ow j = some k := fun j k => mem_live W.sz
  have n1 : (liveOf m ow).length ≤ hs.size := by
    obtain ⟨l, l1, l2⟩ := W.few
    have nd : ((liveOf m ow).map (·.1)).Nodup := List.Pairwise.imp (fun h => Nat.ne_of_lt h) u1
    have q := nat_nodup_len ((liveOf m ow).map (·.1)) l nd fun x hx => by
      obtain ⟨⟨y, k⟩, hq, rfl⟩ := List.mem_map.mp hx
      obtain ⟨b1, b2⟩ := (ml y k).1 hq
      exact l2 y b1 (by rw [b2]; simp)
    rw [List.length_map, l1] at q
    simpa using q
  have all : ∀ k, k < hs.size → k ∈ (liveOf m ow).map (·.2) := fun k hk => by
    obtain ⟨j, b1, b2⟩ := W.each k (by simpa using hk)
    exact List.mem_map.mpr ⟨(j, k), (ml j k).2 ⟨b1, b2⟩, rfl⟩
  have n2 : hs.size ≤ (liveOf m ow).length := by
    have q := nat_nodup_len (List.range hs.size) ((liveOf m ow).map (·.2)) List.nodup_range fun k hk => all k (List.mem_range.mp hk)
    simpa using q
  refine ⟨tabOf t m ow, ((liveOf m ow).map (·.2)).toArray, by rw [relaid_eq, hw, lc]; rfl, perm_range hs.size _ (by simp; omega) (by simpa using all), ⟨u1, rfl, ?_, g, fun x hx => ?_, fun i h j h1 h2 => ?_⟩, rfl, rfl⟩
  · show ((liveOf m ow).map (·.1)).toArray.size = _
    simp
  · exact Nat.lt_succ_iff.mp (List.mem_range.mp (u2 x hx))
  · change (((liveOf m ow).map (·.2)).map fun i => hs.getD i 0)[i]? = some h at h1
    change ((liveOf m ow).map (·.1))[i]? = some j at h2
    simp only [List.getElem?_map] at h1 h2
    cases hq : (liveOf m ow)[i]? with
    | none => rw [hq] at h2; cases h2
    | some q =>
      obtain ⟨y, k⟩ := q
      rw [hq] at h1 h2
      cases h2; cases h1
      obtain ⟨b1, b2⟩ := (ml y k).1 (List.mem_of_getElem? hq)
      obtain ⟨h0, K, a1, a2, a3⟩ := W.who y k b1 b2
      have e0 : hs.getD k 0 = h0 := by rw [Array.getD_eq_getD_getElem?, ← Array.getElem?_toList, a1]; rfl
      refine ⟨K, by show way m (hs.getD k 0) K = y; rw [e0]; exact a2, fun c hc => ?_⟩
      show way m (hs.getD k 0) c ∈ (liveOf m ow).map (·.1)
      rw [e0]
      cases z : oAt ow (way m h0 c) with
      | none => exact absurd z (a3 c hc)
      | some k2 => exact List.mem_map.mpr ⟨_, (ml _ k2).2 ⟨way_in _ _ _, z⟩, rfl⟩
end Ps

/-! Ps1: sets of tuples (nested), added to one by one. -/
namespace Ps
open PySem PySem.Spec PyProof.Rows L2
section
variable {P : Program} {w : World} {A : Around} {E : Value → Shared → Prop} {s : Shared}
/-- a tuple that is the key -/
def Tk (h : Heap) (k : NestedKey) (a : Addr) : Prop := NestedIs h k (.ref a) ∧ k.depth ≤ 8
theorem Tk.kind {h : Heap} {k : NestedKey} {a : Addr} (x : Tk h k a) : (nestedKind P w).is h k a := x
theorem Tk.keep {h h' : Heap} {k : NestedKey} {a : Addr} (x : Tk h k a) (hk : ∀ c o, h.get? c = some o → h'.get? c = some o) : Tk h' k a := ⟨NestedIs.at (fun b o _ _ e _ => hk b o e) _ _ x.1, x.2⟩
theorem Tk.apart {h h' : Heap} {k : NestedKey} {a b : Addr} {o : Obj} {es : Array (Int × Value)} {ep : Nat} {t : SetTable} (x : Tk h k a) (ho : h.get? b = some o) (hd : o.data = .set es ep t) (hs : Heap.SameBut b h h') : Tk h' k a := by
  refine ⟨NestedIs.at (fun c u vs n hc hq => ?_) _ _ x.1, x.2⟩
  have hne : c ≠ b := by
    intro e
    subst e
    rw [ho] at hc
    cases hc
    rw [hd] at hq
    cases hq
  exact (hs.2 c hne).trans hc
theorem Tk.inj {h : Heap} {k k' : NestedKey} {a : Addr} (x : Tk h k a) (y : Tk h k' a) : k = k' := NestedIs.inj _ _ _ x.1 y.1

/-! ### questions that are asked of a key -/
abbrev Says (P : Program) (w : World) (s : Shared) (m : Sem Bool) (b : Bool → Prop) : Prop := ∀ (A : Around) (E : Value → Shared → Prop) (Q : Bool → Shared → Prop), (∀ x, b x → Q x s) → wpAny (model P w) A m Q E s
theorem says_pure {x : Bool} {b : Bool → Prop} (h : b x) : Says P w s (pure x) b := fun A E Q q => wpAny_pure (q x h)
theorem class_tup {n : Nat} {a : Addr} {o : Obj} {vs : Array Value} {m : Nat} (ho : s.heap.get? a = some o) (hc : o.cls = .type "tuple") (hd : o.data = .seq vs m) (hv : ∀ v ∈ vs.toList, Says P w s (ofAClassStatement n v) (· = false)) :
    Says P w s (ofAClassStatement (n + 1) (.ref a)) (· = false) := fun A E Q h => by
  have hT : s.TypeIs (.ref a) "tuple" := ⟨o, ho, hc⟩
  unfold ofAClassStatement
  refine wpAny_bind (wpAny_typeOf hT ?_)
  dsimp only
  have e : (("tuple" : String) == "tuple") = true := by decide
  simp only [e, if_true, Bool.not_true, Bool.false_eq_true, if_false]
  try refine wpAny_bind (wpAny_pure ?_)
  try simp only [Bool.not_true, Bool.false_eq_true, if_false]
  refine wpAny_bind (wpAny_seqItems ho hd ?_)
  dsimp only
  refine wpAny_bind ?_
  change wpAny _ _ (forIn vs _ _) _ _ s
  rw [← Array.forIn_toList]
  refine wpAny_forIn_list _ (fun rest r z => r.1 = none ∧ z = s ∧ ∀ v ∈ rest, Says P w s (ofAClassStatement n v) (· = false)) _ ?_ ?_ _ _ ⟨rfl, rfl, hv⟩
  · rintro v rest r z ⟨hr, rfl, all⟩
    refine wpAny_bind (all v List.mem_cons_self _ _ _ fun x hx => ?_)
    subst hx
    simp only [Bool.false_eq_true, if_false]
    exact wpAny_pure ⟨rfl, rfl, fun u hu => all u (List.mem_cons_of_mem _ hu)⟩
  · rintro ⟨r1, r2⟩ z ⟨hr, rfl, _⟩
    cases hr
    exact wpAny_pure (h false rfl)
mutual
theorem class_key : ∀ (k : NestedKey) (v : Value) (n : Nat) (s : Shared), NestedIs s.heap k v → k.depth ≤ n → Says P w s (ofAClassStatement n v) (· = false)
  | .none, _, n, s, x, _ => by cases x; cases n <;> exact says_pure rfl
  | .num i, _, n, s, x, _ => by cases x <;> cases n <;> exact says_pure rfl
  | .text y, _, n, s, x, _ => by cases x; cases n <;> exact says_pure rfl
  | .tup ks, _, n, s, x, hn => by
    cases x with
    | tup hg hc hd hk =>
      simp only [NestedKey.depth] at hn
      cases n with
      | zero => omega
      | succ n => exact class_tup hg hc hd (class_keys ks _ n s hk (by omega))
theorem class_keys : ∀ (ks : List NestedKey) (vs : List Value) (n : Nat) (s : Shared), NestedAll s.heap ks vs → NestedKey.depthAll ks ≤ n → ∀ v ∈ vs, Says P w s (ofAClassStatement n v) (· = false)
  | [], _, n, s, x, _, v, hv => by cases x; cases hv
  | k :: ks, _, n, s, x, hn, v, hv => by
    cases x with
    | cons x1 x2 =>
      simp only [NestedKey.depthAll] at hn
      rcases List.mem_cons.mp hv with e | hv
      · rw [e]; exact class_key k _ n s x1 (by omega)
      · exact class_keys ks _ n s x2 (by omega) v hv
end
theorem byval_tup {n : Nat} {a : Addr} {o : Obj} {vs : Array Value} {m : Nat} (ho : s.heap.get? a = some o) (hc : o.cls = .type "tuple") (hd : o.data = .seq vs m) (hv : ∀ v ∈ vs.toList, Says P w s (hashByValue n v) (fun _ => True)) :
    Says P w s (hashByValue (n + 1) (.ref a)) (fun _ => True) := fun A E Q h => by
  have hT : s.TypeIs (.ref a) "tuple" := ⟨o, ho, hc⟩
  unfold hashByValue
  refine wpAny_bind (wpAny_specialOf hT F.slot_tuple_hash.lookup ?_)
  change wpAny _ _ (seqItems? (.ref a) >>= _) _ _ s
  refine wpAny_bind (wpAny_seqItems ho hd ?_)
  refine wpAny_bind ?_
  change wpAny _ _ (forIn vs _ _) _ _ s
  rw [← Array.forIn_toList]
  refine wpAny_forIn_list _ (fun rest r z => (r.1 = none ∨ ∃ b, r.1 = some b) ∧ z = s ∧ ∀ v ∈ rest, Says P w s (hashByValue n v) (fun _ => True)) _ ?_ ?_ _ _ ⟨.inl rfl, rfl, hv⟩
  · rintro v rest r z ⟨hr, rfl, all⟩
    refine wpAny_bind (all v List.mem_cons_self _ _ _ fun x _ => ?_)
    cases x
    · simp only [Bool.not_false, if_true]
      exact wpAny_pure (wpAny_pure (h _ True.intro))
    · simp only [Bool.not_true, Bool.false_eq_true, if_false]
      exact wpAny_pure ⟨.inl rfl, rfl, fun u hu => all u (List.mem_cons_of_mem _ hu)⟩
  · rintro ⟨r1, r2⟩ z ⟨hr, rfl, _⟩
    rcases hr with hr | ⟨b, hr⟩ <;> cases hr <;> exact wpAny_pure (h _ True.intro)
mutual
theorem byval_key : ∀ (k : NestedKey) (v : Value) (n : Nat) (s : Shared), NestedIs s.heap k v → Says P w s (hashByValue n v) (fun _ => True)
  | .none, _, n, s, x => by cases x; cases n <;> exact says_pure True.intro
  | .num i, _, n, s, x => by cases x <;> cases n <;> exact says_pure True.intro
  | .text y, _, n, s, x => by cases x; cases n <;> exact says_pure True.intro
  | .tup ks, _, n, s, x => by
    cases x with
    | tup hg hc hd hk =>
      cases n with
      | zero => exact says_pure True.intro
      | succ n => exact byval_tup hg hc hd (byval_keys ks _ n s hk)
theorem byval_keys : ∀ (ks : List NestedKey) (vs : List Value) (n : Nat) (s : Shared), NestedAll s.heap ks vs → ∀ v ∈ vs, Says P w s (hashByValue n v) (fun _ => True)
  | [], _, n, s, x, v, hv => by cases x; cases hv
  | k :: ks, _, n, s, x, v, hv => by
    cases x with
    | cons x1 x2 =>
      rcases List.mem_cons.mp hv with e | hv
      · rw [e]; exact byval_key k _ n s x1
      · exact byval_keys ks _ n s x2 v hv
end
/-- nobody sees a search among keys -/
theorem unseen {k : NestedKey} {b : Addr} {Q : Bool → Shared → Prop} (hk : Tk s.heap k b) {ys : List Value} (hy : ∀ y ∈ ys, ∃ k' c, y = Value.ref c ∧ Tk s.heap k' c) (h : Q false s) :
    wpAny (model P w) A (searchCouldBeSeen (.ref b) ys) Q E s := by
  unfold searchCouldBeSeen
  refine wpAny_bind (wpAny_forIn_list _ (fun rest r z => r.1 = none ∧ z = s ∧ ∀ y ∈ rest, ∃ k' c, y = Value.ref c ∧ Tk s.heap k' c) _ ?_ ?_ _ _ ⟨rfl, rfl, hy⟩)
  · rintro v rest r z ⟨hr, rfl, all⟩
    obtain ⟨k', c, rfl, hc⟩ := all v List.mem_cons_self
    have all' := fun u hu => all u (List.mem_cons_of_mem _ hu)
    dsimp only
    by_cases hv : (b == c || (carriedByValue (.ref b) && carriedByValue (.ref c))) = true
    · exact wp_if_pos hv (wpAny_pure ⟨rfl, rfl, all'⟩)
    · refine wp_if_neg hv (wpAny_bind ((nestedKind P w).quiet hk ?_))
      simp only [Bool.not_true, Bool.false_eq_true, if_false]
      refine wpAny_bind ((nestedKind P w).quiet hc ?_)
      simp only [Bool.not_true, Bool.false_eq_true, if_false]
      refine wpAny_bind (class_key k _ 8 _ hk.1 hk.2 _ _ _ fun x hx => ?_)
      subst hx
      simp only [Bool.false_eq_true, if_false]
      refine wpAny_bind (class_key k' _ 8 _ hc.1 hc.2 _ _ _ fun x hx => ?_)
      subst hx
      simp only [Bool.false_eq_true, if_false]
      exact wpAny_pure ⟨rfl, rfl, all'⟩
  · rintro ⟨r1, r2⟩ z ⟨hr, rfl, _⟩
    cases hr
    exact wpAny_pure h

/-! ### the set -/
abbrev Row := Value × NestedKey
/-- a value that is the key -/
def Kv (h : Heap) (k : NestedKey) (v : Value) : Prop := NestedIs h k v ∧ k.depth ≤ 8
theorem Kv.keep {h h' : Heap} {k : NestedKey} {v : Value} (x : Kv h k v) (hk : ∀ c o, h.get? c = some o → h'.get? c = some o) : Kv h' k v := ⟨NestedIs.at (fun b o _ _ e _ => hk b o e) _ _ x.1, x.2⟩
theorem Kv.apart {h h' : Heap} {k : NestedKey} {v : Value} {b : Addr} {o : Obj} {es : Array (Int × Value)} {ep : Nat} {t : SetTable} (x : Kv h k v) (ho : h.get? b = some o) (hd : o.data = .set es ep t) (hs : Heap.SameBut b h h') : Kv h' k v := by
  refine ⟨NestedIs.at (fun c u vs n hc hq => ?_) _ _ x.1, x.2⟩
  have hne : c ≠ b := by
    intro e
    subst e
    rw [ho] at hc
    cases hc
    rw [hd] at hq
    cases hq
  exact (hs.2 c hne).trans hc
def rowsE (w : World) (L : List Row) : List (Int × Value) := L.map fun p => (p.2.hash w, p.1)
structure St (P : Program) (w : World) (h : Heap) (a : Addr) (L : List Row) (es : Array (Int × Value)) (ep : Nat) (t : SetTable) : Prop where
  ob : ∃ o, h.get? a = some o ∧ o.ExactSet ∧ o.data = .set es ep t
  rows : es.toList = rowsE w L
  tab : Tb t (L.map fun p => p.2.hash w)
  nd : (L.map (·.2)).Nodup
  key : ∀ p ∈ L, Kv h p.2 p.1
  led : w.params.followText "set-order" = true ∨ t.led = true
  room : L.length * 5 < t.mask * 3
variable {a : Addr} {L : List Row} {es : Array (Int × Value)} {ep : Nat} {t : SetTable}
theorem rowsE_len (L : List Row) : (rowsE w L).length = L.length := List.length_map _
theorem St.size (R : St P w s.heap a L es ep t) : es.size = L.length := by rw [← Array.length_toList, R.rows, rowsE_len]
theorem fits_of {n : Nat} (h1 : t.place.size = n) (h2 : t.dummies = #[]) (h3 : n ≤ t.mask) : t.fits n = true := by
  unfold SetTable.fits SetTable.fill
  rw [h2, h1, beq_self_eq_true, Bool.true_and]
  exact decide_eq_true (by simpa using h3)
theorem St.fits (R : St P w s.heap a L es ep t) : t.fits es.size = true := by
  refine fits_of (by rw [R.tab.sz, R.size, List.length_map]) R.tab.no ?_
  have := R.room
  rw [R.size]; omega
theorem St.at (R : St P w s.heap a L es ep t) {i : Nat} {p : Row} (h : L[i]? = some p) : es[i]? = some (p.2.hash w, p.1) := by
  rw [← Array.getElem?_toList, R.rows, rowsE, List.getElem?_map, h]; rfl
theorem St.stay (R : St P w s.heap a L es ep t) : ¬ t.gaveWay = true := by
  unfold SetTable.gaveWay
  rw [R.tab.gd.odd]; decide
theorem St.keep {h h' : Heap} (R : St P w h a L es ep t) (ha : ∀ o, h.get? a = some o → h'.get? a = some o) (ht : ∀ p ∈ L, Kv h' p.2 p.1) : St P w h' a L es ep t := by
  obtain ⟨o, ho, r⟩ := R.ob
  exact ⟨⟨o, ha o ho, r⟩, R.rows, R.tab, R.nd, ht, R.led, R.room⟩
abbrev wayN (m : Nat) (h : Int) (c : Nat) : SetTable.Probe := L2.nth m (runAt m (SetTable.bits h % (m + 1)) (SetTable.bits h)) c
theorem nth_clean (m : Nat) : ∀ (n : Nat) (p : SetTable.Probe), p.dummy = none → (L2.nth m p n).dummy = none
  | 0, _, h => h
  | n + 1, p, h => nth_clean m n (adv m p) (by unfold adv; split <;> exact h)
/-- the search, from some step on -/
theorem seek (R : St P w s.heap a L es ep t) (refs : ∀ p ∈ L, ∃ b, p.1 = Value.ref b) {x : Addr} {k : NestedKey} (hx : Tk s.heap k x) (hu : A.units + 8 < cLine) {K : Nat} (k1 : K < 10 * SetTable.turns t.mask)
    (k2 : way t.mask (k.hash w) K ∉ t.place.toList) (k3 : ∀ c, c < K → way t.mask (k.hash w) c ∈ t.place.toList) {Q : SetFound → Shared → Prop}
    (yes : k ∈ L.map (·.2) → Q (.there none) s) (no : k ∉ L.map (·.2) → Q (.free (way t.mask (k.hash w) K) false) s) :
    ∀ (f c : Nat) (st : Option SetTable.Probe), st.getD (t.probeStart (k.hash w)) = wayN t.mask (k.hash w) c → c ≤ K → K - c < f →
      (∀ (i : Nat) p, L[i]? = some p → p.2 = k → ∃ c', c ≤ c' ∧ c' < K ∧ t.place.toList[i]? = some (way t.mask (k.hash w) c')) →
      wpAny (model P w) A (setSearchFrom a (.ref x) (k.hash w) true f st) Q E s
  | 0, c, st, _, _, hf, _ => absurd hf (by omega)
  | f + 1, c, st, hst, hc, hf, re => by
    obtain ⟨o, ho, hex, hd⟩ := R.ob
    rw [setSearchFrom_succ]
    refine wpAny_bind (wpAny_setState_of ho hd R.fits ?_)
    dsimp only
    refine wp_if_neg R.stay ?_
    try refine wpAny_bind (wpAny_pure ?_)
    have sh : ∀ q, L2.nth t.mask (wayN t.mask (k.hash w) c) q = wayN t.mask (k.hash w) (c + q) := fun q => (nth_add t.mask c _ q).symm
    have sj : ∀ q, (L2.nth t.mask (wayN t.mask (k.hash w) c) q).j = way t.mask (k.hash w) (c + q) := fun q => congrArg SetTable.Probe.j (sh q)
    have hA : ∀ (i : Nat) p, L[i]? = some p → (es[i]?.map (·.1)).getD 0 = p.2.hash w := fun i p hp => by rw [R.at hp]; rfl
    have sp := go_spec t R.tab.up R.tab.no (fun i => (es[i]?.map (·.1)).getD 0) (k.hash w) (10 * SetTable.turns t.mask) (K - c) (wayN t.mask (k.hash w) c) (nth_clean _ _ _ rfl) (by omega)
      (fun q hq => by rw [sj]; exact k3 _ (by omega)) (by rw [sj, show c + (K - c) = K by omega]; exact k2)
    rcases sp with ⟨q, i, q1, q2, q3, q4, q5⟩ | ⟨q4, q5⟩
    · have pr : t.probe (fun i => (es[i]?.map (·.1)).getD 0) (k.hash w) (st.getD (t.probeStart (k.hash w))) = some (.candidate (way t.mask (k.hash w) (c + q)) i (wayN t.mask (k.hash w) (c + (q + 1)))) := by
        rw [hst, ← sj, ← sh]; exact q5
      rw [pr]
      dsimp only
      rw [sj] at q2
      have iL : i < L.length := by
        have z := (List.getElem?_eq_some_iff.mp q2).1
        rw [R.tab.len, List.length_map] at z
        exact z
      obtain ⟨p, hp⟩ : ∃ p, L[i]? = some p := ⟨_, List.getElem?_eq_getElem iL⟩
      have pm := List.mem_of_getElem? hp
      have live : t.slot (way t.mask (k.hash w) (c + q)) = .live i := slot_live R.tab.up q2
      have rest : wpAny (model P w) A (searchRest a (.ref x) (k.hash w) true f es t (way t.mask (k.hash w) (c + q)) i (wayN t.mask (k.hash w) (c + (q + 1)))) Q E s := by
        unfold searchRest
        obtain ⟨pb, hpb⟩ := refs p pm
        have kb : Tk s.heap p.2 pb := by have z := R.key p pm; rw [hpb] at z; exact z
        have atp : es[i]? = some (p.2.hash w, Value.ref pb) := by rw [R.at hp, hpb]
        rw [atp]
        dsimp only
        refine wpAny_bind (wpAny_holding ((nestedKind P w).eqBool hu kb hx ?_))
        refine wpAny_bind (wpAny_setState_of ho hd R.fits ?_)
        dsimp only
        by_cases e : p.2 = k
        · exact wp_if_pos (by simp [e]) (wpAny_pure (yes (List.mem_map.mpr ⟨p, pm, e⟩)))
        · refine wp_if_neg (by simp [e]) ?_
          try refine wpAny_bind (wpAny_pure ?_)
          rw [sameMem]
          dsimp only
          simp only [if_true, live, atp]
          refine wpAny_bind (wpAny_isSame_ref_self (wpAny_bind (wpAny_pure ?_)))
          simp only [if_true]
          refine wp_if_neg (by simp [e]) ?_
          refine seek R refs hx hu k1 k2 k3 yes no f (c + (q + 1)) _ rfl (by omega) (by omega) fun i0 p0 h0 e0 => ?_
          obtain ⟨c', a1, a2, a3⟩ := re i0 p0 h0 e0
          refine ⟨c', ?_, a2, a3⟩
          rcases Nat.lt_trichotomy c' (c + q) with z | z | z
          · exact absurd ((hA i0 p0 h0).trans (congrArg (NestedKey.hash w) e0)) (q4 (c' - c) i0 (by omega) (by rw [sj, show c + (c' - c) = c' by omega]; exact a3))
          · subst z
            have l0 := slot_live R.tab.up a3
            rw [live] at l0
            cases l0
            rw [hp] at h0
            cases h0
            exact absurd e0 e
          · omega
      by_cases hl : t.led = true
      · refine wp_if_neg (by simp [hl]) ?_
        try refine wpAny_bind (wpAny_pure ?_)
        exact rest
      · refine wp_if_pos (by simp [hl]) (wpAny_bind (unseen hx (fun y hy => ?_) ?_))
        · obtain ⟨e, he, rfl⟩ := List.mem_map.mp hy
          have he1 : e ∈ es ∧ e.1 = k.hash w := by simpa using he
          have he2 : e ∈ es.toList := by simpa using he1.1
          rw [R.rows] at he2
          obtain ⟨p2, hp2, rfl⟩ := List.mem_map.mp he2
          obtain ⟨pb, hpb⟩ := refs p2 hp2
          exact ⟨p2.2, pb, hpb, by have z := R.key p2 hp2; rw [hpb] at z; exact z⟩
        · refine wp_if_neg (by decide) ?_
          try refine wpAny_bind (wpAny_pure ?_)
          exact rest
    · have pr : t.probe (fun i => (es[i]?.map (·.1)).getD 0) (k.hash w) (st.getD (t.probeStart (k.hash w))) = some (.empty (way t.mask (k.hash w) K) none) := by
        have e2 : way t.mask (k.hash w) K = (L2.nth t.mask (wayN t.mask (k.hash w) c) (K - c)).j := by rw [sj, show c + (K - c) = K by omega]
        rw [hst, e2]; exact q5
      rw [pr]
      dsimp only
      refine wpAny_pure (no fun hm => ?_)
      obtain ⟨p0, h0, e0⟩ := List.mem_map.mp hm
      obtain ⟨i0, hi0⟩ := List.mem_iff_getElem?.mp h0
      obtain ⟨c', a1, a2, a3⟩ := re i0 p0 hi0 e0
      exact q4 (c' - c) i0 (by omega) (by rw [sj, show c + (c' - c) = c' by omega]; exact a3) ((hA i0 p0 hi0).trans (congrArg (NestedKey.hash w) e0))
theorem search (R : St P w s.heap a L es ep t) (refs : ∀ p ∈ L, ∃ b, p.1 = Value.ref b) {x : Addr} {k : NestedKey} (hx : Tk s.heap k x) (hu : A.units + 8 < cLine) {Q : SetFound → Shared → Prop} (yes : k ∈ L.map (·.2) → Q (.there none) s)
    (no : ∀ K, k ∉ L.map (·.2) → way t.mask (k.hash w) K ∉ t.place.toList → (∀ c, c < K → way t.mask (k.hash w) c ∈ t.place.toList) → Q (.free (way t.mask (k.hash w) K) false) s) :
    wpAny (model P w) A (setSearch a (.ref x) (k.hash w) true) Q E s := by
  have room := R.room
  have low := R.tab.gd.low
  obtain ⟨K, k1, k2, k3⟩ := R.tab.gap (by rw [List.length_map]; omega) (k.hash w)
  have big : 10 * SetTable.turns t.mask < 100000 := by unfold SetTable.turns; omega
  unfold setSearch
  refine seek R refs hx hu k1 k2 k3 yes (fun hn => no K hn k2 k3) 100000 0 none rfl (Nat.zero_le _) (by omega) fun i p hp e => ?_
  have hi : (L.map fun p => p.2.hash w)[i]? = some (k.hash w) := by rw [List.getElem?_map, hp, ← e]; rfl
  have il : i < t.place.toList.length := by
    rw [R.tab.len, List.length_map]
    exact (List.getElem?_eq_some_iff.mp hp).1
  obtain ⟨c, hc, e2⟩ := R.tab.ahead k2 hi (List.getElem?_eq_getElem il)
  exact ⟨c, Nat.zero_le _, hc, by rw [e2]; exact List.getElem?_eq_getElem il⟩
end
end Ps

/-! Ps2: sets of tuples: adding, set(xs). -/
namespace Ps
open PySem PySem.Spec PyProof.Rows L2
section
variable {P : Program} {w : World} {A : Around} {E : Value → Shared → Prop} {s : Shared} {a : Addr} {L : List Row} {es : Array (Int × Value)} {ep : Nat} {t : SetTable}
theorem filterMap_order (L : List Row) (es : Array (Int × Value)) (hr : es.toList = rowsE w L) : ∀ l : List Nat, (∀ i ∈ l, i < L.length) → l.filterMap (fun i => es[i]?) = rowsE w (l.filterMap (fun i => L[i]?)) ∧
    ((l.filterMap (fun i => L[i]?)).map fun p => p.2.hash w) = l.map fun i => (es.map (·.1)).getD i 0
  | [], _ => ⟨rfl, rfl⟩
  | i :: l, h => by
    obtain ⟨e1, e2⟩ := filterMap_order L es hr l fun j hj => h j (List.mem_cons_of_mem _ hj)
    obtain ⟨p, hp⟩ : ∃ p, L[i]? = some p := ⟨_, List.getElem?_eq_getElem (h i List.mem_cons_self)⟩
    have he : es[i]? = some (p.2.hash w, p.1) := by rw [← Array.getElem?_toList, hr, rowsE, List.getElem?_map, hp]; rfl
    have hg : (es.map (·.1)).getD i 0 = p.2.hash w := by rw [Array.getD_eq_getD_getElem?, Array.getElem?_map, he]; rfl
    constructor
    · rw [List.filterMap_cons_some he, List.filterMap_cons_some hp, e1]; rfl
    · rw [List.filterMap_cons_some hp, List.map_cons, List.map_cons, e2, hg]
theorem filterMap_all (L : List Row) : (List.range L.length).filterMap (fun i => L[i]?) = L := by
  have key : ∀ n, n ≤ L.length → (List.range n).filterMap (fun i => L[i]?) = L.take n := by
    intro n
    induction n with
    | zero => intro _; rfl
    | succ n ih =>
      intro hn
      rw [List.range_succ, List.filterMap_append, ih (by omega), List.take_succ, List.filterMap_cons, List.getElem?_eq_getElem (show n < L.length by omega)]
      rfl
  rw [key _ (Nat.le_refl _), List.take_length]
/-- laid anew -/
theorem relay {o : Obj} (ho : s.heap.get? a = some o) (hex : o.ExactSet) (hd : o.data = .set es ep t) (hr : es.toList = rowsE w L) (hz : t.place.size = es.size) (hn : t.dummies = #[]) (hl : es.size ≤ t.mask)
    (nd : (L.map (·.2)).Nodup) (ky : ∀ p ∈ L, Kv s.heap p.2 p.1) (ld : w.params.followText "set-order" = true ∨ t.led = true) {wanted M : Nat} (hw : SetTable.sizeAbove wanted = M + 1) (g : Gd M) (room : L.length * 5 < M * 3) {Q : Unit → Shared → Prop}
    (hQ : ∀ h' L' es' ep' t', Heap.SameBut a s.heap h' → St P w h' a L' es' ep' t' → L'.Perm L → Q () { s with heap := h' }) : wpAny (model P w) A (setRelay a wanted) Q E s := by
  have sz : es.size = L.length := by rw [← Array.length_toList, hr, rowsE_len]
  have low := g.low
  obtain ⟨t', order, e, pm, T, em, el⟩ := lay_ok (m := M) t (hs := es.map (·.1)) (wanted := wanted) (by omega) g (by rw [Array.size_map, sz]; omega)
  rw [Array.size_map, sz] at pm
  obtain ⟨f1, f2⟩ := filterMap_order L es hr order.toList fun i hi => List.mem_range.mp (pm.mem_iff.mp hi)
  have perm : (order.toList.filterMap fun i => L[i]?).Perm L := by
    have q := pm.filterMap fun i => L[i]?
    rwa [filterMap_all] at q
  rw [← f2] at T
  generalize order.toList.filterMap (fun i => L[i]?) = L2 at f1 perm T
  have fl : (order.filterMap (es[·]?)).toList = rowsE w L2 := by
    first
      | (rw [Array.toList_filterMap]; exact f1)
      | simpa using f1
  have s2 : (order.filterMap (es[·]?)).size = es.size := by rw [← Array.length_toList, fl, rowsE_len, perm.length_eq, sz]
  rw [setRelay_eq]
  refine wpAny_bind (wpAny_setState_of ho hd (fits_of hz hn hl) ?_)
  dsimp only
  refine wp_if_neg (by rw [hw, sizeLine_eq]; omega) ?_
  try refine wpAny_bind (wpAny_pure ?_)
  rw [e]
  dsimp only
  refine wpAny_bind (wp_if_neg (by rw [s2]; simp) ?_)
  try refine wpAny_bind (wpAny_pure ?_)
  refine wpAny_pure ?_
  dsimp only
  refine wpAny_storeSet_of ho hd ?_ (by rw [s2, sz, sizeLine_eq]; omega)
  have sb : Heap.SameBut a s.heap (s.heap.update a (Obj.putSet (order.filterMap (es[·]?)) t')) := Heap.SameBut.update ..
  refine hQ _ L2 _ (ep + 1) t' sb ⟨⟨_, store_at ho hd, ⟨hex.1, hex.2.1, hex.2.2⟩, rfl⟩, fl, T, (perm.map (·.2)).nodup_iff.mpr nd, fun p hp => (ky p (perm.mem_iff.mp hp)).apart ho hd sb, by rw [el]; exact ld, ?_⟩ perm
  rw [perm.length_eq, em]; exact room

theorem next_size {n m : Nat} (hm : m = 7 ∨ m = 31 ∨ m = 127 ∨ m = 511 ∨ m = 2047) (hn : n ≤ 1200) (h1 : (n - 1) * 5 < m * 3) (h2 : n * 5 ≥ m * 3) : ∃ M, SetTable.sizeAbove (SetTable.grown n) = M + 1 ∧ Gd M ∧ n * 5 < M * 3 := by
  rcases hm with e | e | e | e | e <;> subst e
  · obtain rfl : n = 5 := by omega
    exact ⟨31, by decide +kernel, gd31, by decide⟩
  · obtain rfl : n = 19 := by omega
    exact ⟨127, by decide +kernel, gd127, by decide⟩
  · obtain rfl : n = 77 := by omega
    exact ⟨511, by decide +kernel, gd511, by decide⟩
  · obtain rfl : n = 307 := by omega
    exact ⟨2047, by decide +kernel, gd2047, by decide⟩
  · omega
theorem Tb.plain {t : SetTable} {hs : List Int} (T : Tb t hs) (b : Bool) : Tb { t with plain := b } hs := ⟨T.up, T.no, T.sz, T.gd, T.le, T.hit⟩
/-- one key is added -/
theorem add1 (R : St P w s.heap a L es ep t) (refs : ∀ p ∈ L, ∃ b, p.1 = Value.ref b) {x : Addr} {k : NestedKey} (hx : Tk s.heap k x) (hu : A.units + 8 < cLine) (few : L.length < 1200) {Q : Bool → Shared → Prop}
    (hQ : ∀ b h' L' es' ep' t', Heap.SameBut a s.heap h' → St P w h' a L' es' ep' t' → (k ∈ L.map (·.2) → L' = L) → (k ∉ L.map (·.2) → L'.Perm ((.ref x, k) :: L)) → Q b { s with heap := h' }) :
    wpAny (model P w) A (setAddHashed a (.ref x) (k.hash w)) Q E s := by
  obtain ⟨o, ho, hex, hd⟩ := R.ob
  have sz := R.size
  have room := R.room
  unfold setAddHashed
  refine wpAny_holding ?_
  rw [show (100000 : Nat) = 99999 + 1 from rfl, setAddHashedIn_succ]
  refine wpAny_bind (wpAny_setState_of ho hd R.fits ?_)
  dsimp only
  refine wp_if_neg (by simp [byScan, Value.scannable]) ?_
  try refine wpAny_bind (wpAny_pure ?_)
  refine wpAny_bind (search R refs hx hu (fun hm => ?_) fun K hm k2 k3 => ?_)
  · dsimp only
    exact wpAny_pure (hQ false s.heap L es ep t (Heap.SameBut.refl a s.heap) R (fun _ => rfl) fun z => absurd hm z)
  · dsimp only
    refine wpAny_bind (wpAny_setState_of ho hd R.fits ?_)
    dsimp only
    generalize ej : way t.mask (k.hash w) K = j at k2
    generalize epl : SetTable.below t.place j = p
    obtain ⟨q1, q2, q3, q4, q5, q6⟩ := R.tab.put ej epl k2 k3
    generalize hpt : t.put j = pt at q2 q3 q4 q5 q6
    obtain ⟨t1, p'⟩ := pt
    dsimp only at q2 q3 q4 q5 q6
    subst q2
    dsimp only
    have tail : ∀ bv : Bool, wpAny (model P w) A (do
        storeSet a (SetTable.insertAt es p' (k.hash w, Value.ref x)) (if bv then t1 else { t1 with plain := false })
        if !false && (if bv then t1 else { t1 with plain := false }).tooFull then setRelay a (SetTable.grown (es.size + 1))
        return true) Q E s := by
      intro bv
      generalize hT : (if bv = true then t1 else { t1 with plain := false }) = t2
      have T2 : Tb t2 ((L.map fun p => p.2.hash w).take p' ++ k.hash w :: (L.map fun p => p.2.hash w).drop p') ∧ t2.mask = t.mask ∧ t2.led = t.led ∧ t2.fill = L.length + 1 := by
        rw [List.length_map] at q6
        cases bv
        · obtain rfl : { t1 with plain := false } = t2 := by simpa using hT
          exact ⟨q3.plain false, q4, q5, q6⟩
        · obtain rfl : t1 = t2 := by simpa using hT
          exact ⟨q3, q4, q5, q6⟩
      obtain ⟨T2, m2, l2, f2⟩ := T2
      clear hT q3 q4 q5 q6 hpt
      have inn : (SetTable.insertAt es p' (k.hash w, Value.ref x)).toList = rowsE w (L.take p' ++ (Value.ref x, k) :: L.drop p') := by
        subst epl
        rw [SetTable.toList_insertAt, R.rows]
        simp [rowsE]
      have pm : (L.take p' ++ (Value.ref x, k) :: L.drop p').Perm ((Value.ref x, k) :: L) := put_perm L p' (Value.ref x, k)
      have hh : (L.map fun p => p.2.hash w).take p' ++ k.hash w :: (L.map fun p => p.2.hash w).drop p' = (L.take p' ++ (Value.ref x, k) :: L.drop p').map fun p => p.2.hash w := by simp
      rw [hh] at T2
      generalize L.take p' ++ (Value.ref x, k) :: L.drop p' = L1 at pm T2 inn
      generalize SetTable.insertAt es p' (k.hash w, Value.ref x) = es1 at inn
      have n1 : L1.length = L.length + 1 := pm.length_eq
      have z1 : es1.size = L.length + 1 := by rw [← Array.length_toList, inn, rowsE_len, n1]
      have nd1 : (L1.map (·.2)).Nodup := (pm.map (·.2)).nodup_iff.mpr (List.nodup_cons.mpr ⟨hm, R.nd⟩)
      refine wpAny_bind (wpAny_storeSet_of ho hd ?_ (by rw [z1, sizeLine_eq]; omega))
      have sb : Heap.SameBut a s.heap (s.heap.update a (Obj.putSet es1 t2)) := Heap.SameBut.update ..
      have ho1 := store_at (es' := es1) (t' := t2) ho hd
      generalize s.heap.update a (Obj.putSet es1 t2) = h1 at sb ho1
      have ky1 : ∀ p ∈ L1, Kv h1 p.2 p.1 := fun p hp => by
        rcases List.mem_cons.mp (pm.mem_iff.mp hp) with e | hp
        · rw [e]; exact Kv.apart (v := .ref x) hx ho hd sb
        · exact (R.key p hp).apart ho hd sb
      have ld1 : w.params.followText "set-order" = true ∨ t2.led = true := by rw [l2]; exact R.led
      by_cases hf : t2.tooFull = true
      · have full : (L.length + 1) * 5 ≥ t.mask * 3 := by
          have z := hf
          unfold SetTable.tooFull at z
          rw [decide_eq_true_eq, f2, m2] at z
          exact z
        obtain ⟨M, w1, w2, w3⟩ := next_size R.tab.gd.five (n := L.length + 1) (by omega) (by simpa using room) full
        have go : wpAny (model P w) A (setRelay a (SetTable.grown (es.size + 1))) (fun _ z => wpAny (model P w) A (pure true) Q E z) E { s with heap := h1 } := by
          refine relay (s := { s with heap := h1 }) ho1 ⟨hex.1, hex.2.1, hex.2.2⟩ rfl inn (by rw [T2.sz, List.length_map, n1, z1]) T2.no (by rw [z1, m2]; omega) nd1 ky1 ld1 (M := M) (by rw [sz]; exact w1) w2 (by rw [n1]; exact w3) ?_
          intro h2 L2 es2 ep2 t3 sb2 R2 pm2
          exact wpAny_pure (hQ true h2 L2 es2 ep2 t3 (sb.trans sb2) R2 (fun z => absurd z hm) fun _ => pm2.trans pm)
        first
          | (refine wpAny_bind ?_; refine wp_if_pos (by simp [hf]) ?_; exact go)
          | (refine wp_if_pos (by simp [hf]) ?_; refine wpAny_bind ?_; exact go)
      · first
          | refine wp_if_neg (by simp [hf]) ?_
          | (refine wpAny_bind ?_; refine wp_if_neg (by simp [hf]) ?_; refine wpAny_pure ?_)
        refine wpAny_pure (hQ true h1 L1 es1 (ep + 1) t2 sb ⟨⟨_, ho1, ⟨hex.1, hex.2.1, hex.2.2⟩, rfl⟩, inn, T2, nd1, ky1, ld1, ?_⟩ (fun z => absurd z hm) fun _ => pm)
        have z := hf
        unfold SetTable.tooFull at z
        rw [decide_eq_true_eq, f2] at z
        rw [n1]; omega
    have h8 : Says P w s (hashByValue 8 (.ref x)) (fun _ => True) := byval_key k _ 8 s hx.1
    subst epl
    by_cases hp1 : t1.plain = true
    · first
        | (refine wpAny_bind ?_; refine wp_if_pos hp1 ?_; exact h8 _ _ _ fun bv _ => tail bv)
        | exact wp_if_pos hp1 (wpAny_bind (h8 _ _ _ fun bv _ => tail bv))
    · first
        | (refine wpAny_bind ?_; refine wp_if_neg hp1 ?_; refine wpAny_pure ?_; exact tail true)
        | (refine wp_if_neg hp1 ?_; exact tail true)
        | (refine wp_if_neg hp1 ?_; refine wpAny_bind (wpAny_pure ?_); exact tail true)
/-- the leaf that a key is -/
theorem leaf_of {h : Heap} {k : NestedKey} {v : Value} (hv : NestedIs h k v) (hs : v.scannable = true) : ∃ l : Leaf, (leafKind P w).is l v = true ∧ l.key = k := by
  cases hv with
  | none => exact ⟨.none, rfl, rfl⟩
  | @bool b i e => subst e; cases b <;> exact ⟨.num _, rfl, rfl⟩
  | int i t => exact ⟨.num i, decide_eq_true rfl, rfl⟩
  | text x t => exact ⟨.text x, by show (x == x) = true; simp, rfl⟩
  | tup => cases hs
theorem elems_of {h : Heap} {L : List Row} {es : Array (Int × Value)} (hr : es.toList = rowsE w L) (ky : ∀ p ∈ L, Kv h p.2 p.1) (sc : ∀ p ∈ L, p.1.scannable = true) : ElemsOf (leafKind P w) es.toList := fun e he => by
  rw [hr] at he
  obtain ⟨p, hp, rfl⟩ := List.mem_map.mp he
  obtain ⟨l, l1, l2⟩ := leaf_of (P := P) (w := w) (ky p hp).1 (sc p hp)
  exact ⟨⟨l, l1, by show _ = l.key.hash w; rw [l2]⟩, sc p hp⟩
/-- a set, whatever its keys are -/
structure Sv (w : World) (h : Heap) (a : Addr) (L : List Row) (es : Array (Int × Value)) (ep : Nat) (t : SetTable) : Prop where
  ob : ∃ o, h.get? a = some o ∧ o.ExactSet ∧ o.data = .set es ep t
  rows : es.toList = rowsE w L
  up : Ris t.place.toList
  fit : t.fits es.size = true
  nd : (L.map (·.2)).Nodup
  key : ∀ p ∈ L, Kv h p.2 p.1
  led : w.params.followText "set-order" = true ∨ t.led = true
  few : L.length ≤ 1200
theorem Sv.size (R : Sv w s.heap a L es ep t) : es.size = L.length := by rw [← Array.length_toList, R.rows, rowsE_len]
theorem Sv.keep {h h' : Heap} (R : Sv w h a L es ep t) (ha : ∀ o, h.get? a = some o → h'.get? a = some o) (ht : ∀ p ∈ L, Kv h' p.2 p.1) : Sv w h' a L es ep t := by
  obtain ⟨o, ho, r⟩ := R.ob
  exact ⟨⟨o, ha o ho, r⟩, R.rows, R.up, R.fit, R.nd, ht, R.led, R.few⟩
theorem St.sv (R : St P w s.heap a L es ep t) (few : L.length ≤ 1200) : Sv w s.heap a L es ep t := ⟨R.ob, R.rows, R.tab.up, R.fits, R.nd, R.key, R.led, few⟩
/-- rows of entries that are the old ones and one more -/
theorem rows_perm {L : List Row} {es es1 : Array (Int × Value)} {x : Value} {k : NestedKey} (hr : es.toList = rowsE w L) (pm : es1.toList.Perm ((k.hash w, x) :: es.toList)) : ∃ L1 : List Row, es1.toList = rowsE w L1 ∧ L1.Perm ((x, k) :: L) := by
  have key : ∀ (M : List (Int × Value)) (N : List Row), M.Perm (rowsE w N) → ∃ L1 : List Row, M = rowsE w L1 ∧ L1.Perm N := by
    intro M
    induction M with
    | nil =>
      intro N h
      have e := h.symm.eq_nil
      unfold rowsE at e
      rw [List.map_eq_nil_iff] at e
      exact ⟨[], rfl, by rw [e]⟩
    | cons v M ih =>
      intro N h
      obtain ⟨p, hp, rfl⟩ := List.mem_map.mp (h.mem_iff.mp List.mem_cons_self)
      obtain ⟨A, B, rfl⟩ := List.append_of_mem hp
      have h2 : M.Perm (rowsE w (A ++ B)) := by
        unfold rowsE at h ⊢
        rw [List.map_append, List.map_cons] at h
        have q := h.trans List.perm_middle
        rw [List.map_append]
        exact q.cons_inv
      obtain ⟨L1, e1, e2⟩ := ih _ h2
      exact ⟨p :: L1, by rw [e1]; rfl, (e2.cons p).trans List.perm_middle.symm⟩
  refine key _ _ ?_
  rw [hr] at pm
  exact pm
/-- one leaf is added -/
theorem add2 (R : Sv w s.heap a L es ep t) (sc : ∀ p ∈ L, p.1.scannable = true) {x : Value} {k : NestedKey} (hx : Kv s.heap k x) (hs : x.scannable = true) (few : L.length < 1200) {Q : Bool → Shared → Prop}
    (hQ : ∀ b h' L' es' ep' t', Heap.SameBut a s.heap h' → Sv w h' a L' es' ep' t' → (k ∈ L.map (·.2) → L' = L) → (k ∉ L.map (·.2) → L'.Perm ((x, k) :: L)) → Q b { s with heap := h' }) :
    wpAny (model P w) A (setAddHashed a x (k.hash w)) Q E s := by
  obtain ⟨o, ho, hex, hd⟩ := R.ob
  have sz := R.size
  have el : ElemsOf (leafKind P w) es.toList := elems_of R.rows R.key sc
  obtain ⟨lf, l1, rfl⟩ := leaf_of (P := P) (w := w) hx.1 hs
  have hb : es.size < scanBound := by unfold scanBound; omega
  unfold setAddHashed
  refine wpAny_holding ?_
  rw [show (100000 : Nat) = 99999 + 1 from rfl, setAddHashedIn_succ]
  refine wpAny_bind (wpAny_setState_of ho hd R.fit ?_)
  dsimp only
  refine wp_if_pos (byScan_of hs hb el) ?_
  unfold setAddByScan
  refine wpAny_bind ?_
  refine wpAny_bind (wpAny_rule ?_)
  refine wpAny_bind (wpAny_setScan_of (knd := leafKind P w) l1 ho hd R.fit el ?_)
  have mem : ∀ e ∈ es.toList, (leafKind P w).is lf e.2 = true ↔ ∃ p ∈ L, p.2 = lf.key ∧ e = (p.2.hash w, p.1) := fun e he => by
    rw [R.rows] at he
    obtain ⟨p, hp, rfl⟩ := List.mem_map.mp he
    obtain ⟨lg, g1, g2⟩ := leaf_of (P := P) (w := w) (R.key p hp).1 (sc p hp)
    constructor
    · intro z
      have e := (leafKind P w).inj _ _ _ z g1
      exact ⟨p, hp, by rw [e, g2], rfl⟩
    · rintro ⟨q, hq, e1, e2⟩
      injection e2 with _ e3
      obtain ⟨lh, h1, h2⟩ := leaf_of (P := P) (w := w) (R.key q hq).1 (sc q hq)
      have : lh = lf := Leaf.key_inj (h2.trans e1)
      subst this
      show (leafKind P w).is lh p.1 = true
      rw [e3]; exact h1
  cases hfi : List.findIdx? (fun e => (leafKind P w).is lf e.2) es.toList with
  | some j =>
    dsimp only
    obtain ⟨hj, pj, _⟩ := List.findIdx?_eq_some_iff_getElem.mp hfi
    obtain ⟨p, hp, e1, _⟩ := (mem _ (List.getElem_mem hj)).mp pj
    refine wpAny_pure (wpAny_pure (hQ false s.heap L es ep t (Heap.SameBut.refl a s.heap) R (fun _ => rfl) fun z => absurd (List.mem_map.mpr ⟨p, hp, e1⟩) z))
  | none =>
    dsimp only
    have hm : lf.key ∉ L.map (·.2) := fun z => by
      obtain ⟨p, hp, e1⟩ := List.mem_map.mp z
      have he : (p.2.hash w, p.1) ∈ es.toList := by rw [R.rows]; exact List.mem_map.mpr ⟨p, hp, rfl⟩
      have c := List.findIdx?_eq_none_iff.mp hfi _ he
      rw [(mem _ he).mpr ⟨p, hp, e1, rfl⟩] at c
      cases c
    have hgw : ∀ (b : Bool) {z : Shared} {Q' : Unit → Shared → Prop}, Q' () z → wpAny (model P w) A (match b with | true => rule "set.scan.the-table-gave-way" | false => pure ()) Q' E z :=
      fun b z Q' q => by cases b <;> first | exact wpAny_pure q | exact wpAny_rule q
    have pm := layNew_perm t es (lf.key.hash w) x
    have hf1 := layNew_fits t es (lf.key.hash w) x
    have hr1 := layNew_ris t es (lf.key.hash w) x R.up
    have hl1 := layNew_led t es (lf.key.hash w) x
    generalize layNew t es (lf.key.hash w) x = Z at pm hf1 hr1 hl1
    obtain ⟨es1, t1, wasDummy, gave⟩ := Z
    dsimp only at pm hf1 hr1 hl1
    rw [Array.toList_push] at pm
    obtain ⟨L1, r1, p1⟩ := rows_perm R.rows (pm.trans (List.perm_append_singleton _ _))
    have n1 : L1.length = L.length + 1 := p1.length_eq
    have z1 : es1.size = L.length + 1 := by rw [← Array.length_toList, r1, rowsE_len, n1]
    have nd1 : (L1.map (·.2)).Nodup := (p1.map (·.2)).nodup_iff.mpr (List.nodup_cons.mpr ⟨hm, R.nd⟩)
    have tail : ∀ t2 : SetTable, t2.fits es1.size = true → Ris t2.place.toList → (w.params.followText "set-order" = true ∨ t2.led = true) → wpAny (model P w) A (do
        storeSet a es1 t2
        if (!wasDummy && t2.tooFull) = true then do
            (match (relayAll t2 es1 (SetTable.grown es1.size)).2.2 with | true => rule "set.scan.the-table-gave-way" | false => pure ())
            storeSet a (relayAll t2 es1 (SetTable.grown es1.size)).1 (relayAll t2 es1 (SetTable.grown es1.size)).2.1
            pure (some true)
          else pure (some true)) (fun r z => wpAny (model P w) A (match r with | some added => pure added | none => setAddHashedIn a x (lf.key.hash w) 99999) Q E z) E s := by
      intro t2 f2 u2 d2
      refine wpAny_bind (wpAny_storeSet_of ho hd ?_ (by rw [z1, sizeLine_eq]; omega))
      have sb : Heap.SameBut a s.heap (s.heap.update a (Obj.putSet es1 t2)) := Heap.SameBut.update ..
      have ho1 := store_at (es' := es1) (t' := t2) ho hd
      generalize s.heap.update a (Obj.putSet es1 t2) = h1 at sb ho1
      have ky1 : ∀ p ∈ L1, Kv h1 p.2 p.1 := fun p hp => by
        rcases List.mem_cons.mp (p1.mem_iff.mp hp) with e | hp
        · rw [e]; exact hx.apart ho hd sb
        · exact (R.key p hp).apart ho hd sb
      split
      · have pm2 := relayAll_perm t2 es1 (SetTable.grown es1.size)
        have hf3 := relayAll_fits t2 es1 (SetTable.grown es1.size)
        have hr3 := relayAll_ris t2 es1 (SetTable.grown es1.size)
        have hl3 := relayAll_led t2 es1 (SetTable.grown es1.size)
        generalize relayAll t2 es1 (SetTable.grown es1.size) = Y at pm2 hf3 hr3 hl3
        obtain ⟨es2, t3, gave2⟩ := Y
        dsimp only at pm2 hf3 hr3 hl3
        have zz : es2.size = es1.size := by rw [← Array.length_toList, pm2.length_eq, Array.length_toList]
        obtain ⟨L2, g2, p2⟩ : ∃ L2 : List Row, es2.toList = rowsE w L2 ∧ L2.Perm L1 := by
          cases L1 with
          | nil => cases n1
          | cons q L1 => exact rows_perm (w := w) (L := L1) (es := (rowsE w L1).toArray) (by simp) (by rw [r1] at pm2; simpa [rowsE] using pm2)
        refine wpAny_bind (hgw _ ?_)
        refine wpAny_bind (wpAny_storeSet_of ho1 rfl ?_ (by rw [zz, z1, sizeLine_eq]; omega))
        have sb2 : Heap.SameBut a h1 (h1.update a (Obj.putSet es2 t3)) := Heap.SameBut.update ..
        refine wpAny_pure (wpAny_pure (hQ true _ L2 es2 _ t3 (sb.trans sb2) ⟨⟨_, store_at ho1 rfl, ⟨hex.1, hex.2.1, hex.2.2⟩, rfl⟩, g2, hr3, hf3, (p2.map (·.2)).nodup_iff.mpr nd1, fun p hp => (ky1 p (p2.mem_iff.mp hp)).apart ho1 rfl sb2, ?_, by rw [p2.length_eq, n1]; omega⟩ (fun z => absurd z hm) fun _ => p2.trans p1))
        exact d2.imp id fun z => by rw [hl3]; exact z
      · exact wpAny_pure (wpAny_pure (hQ true h1 L1 es1 _ t2 sb ⟨⟨_, ho1, ⟨hex.1, hex.2.1, hex.2.2⟩, rfl⟩, r1, u2, f2, nd1, ky1, d2, by rw [n1]; omega⟩ (fun z => absurd z hm) fun _ => p1))
    have hled : w.params.followText "set-order" = true ∨ t1.led = true := R.led.imp id fun z => by rw [hl1]; exact z
    refine wpAny_bind (hgw _ ?_)
    split
    · refine wpAny_bind ?_
      rw [hashByValue_scannable 8 hs]
      refine wpAny_pure ?_
      split
      · exact tail t1 hf1 hr1 hled
      · exact tail { t1 with plain := false } hf1 hr1 hled
    · refine wpAny_bind (wpAny_pure ?_)
      exact tail t1 hf1 hr1 hled
end
end Ps

/-! Ps3: set(xs), xs a list of tuples. -/
namespace Ps
open PySem PySem.Spec PyProof.Rows L2
/-- what stands in the set behind some items -/
structure Had (ks : List Row) (i : Nat) (L : List Row) : Prop where
  sub : ∀ p ∈ L, p ∈ ks
  all : ∀ p ∈ ks.take i, p.2 ∈ L.map (·.2)
  len : L.length ≤ i
theorem Had.nil (ks : List Row) : Had ks 0 [] := ⟨(fun p h => (nomatch h)), (fun p h => (by simp at h)), Nat.le_refl _⟩
theorem Had.step {ks L L' : List Row} {i : Nat} {x : Row} (g : Had ks i L) (h : ks[i]? = some x) (c1 : x.2 ∈ L.map (·.2) → L' = L) (c2 : x.2 ∉ L.map (·.2) → L'.Perm (x :: L)) : Had ks (i + 1) L' := by
  have tk : ks.take (i + 1) = ks.take i ++ [x] := by rw [List.take_succ, h]; rfl
  by_cases c : x.2 ∈ L.map (·.2)
  · rw [c1 c]
    refine ⟨g.sub, fun p hp => ?_, Nat.le_succ_of_le g.len⟩
    rw [tk, List.mem_append, List.mem_singleton] at hp
    rcases hp with hp | hp
    · exact g.all p hp
    · rw [hp]; exact c
  · have pm := c2 c
    refine ⟨fun p hp => ?_, fun p hp => ?_, by rw [pm.length_eq]; exact Nat.succ_le_succ g.len⟩
    · rcases List.mem_cons.mp (pm.mem_iff.mp hp) with e | z
      · rw [e]; exact List.mem_of_getElem? h
      · exact g.sub p z
    · rw [(pm.map (·.2)).mem_iff, List.map_cons]
      rw [tk, List.mem_append, List.mem_singleton] at hp
      rcases hp with hp | hp
      · exact List.mem_cons_of_mem _ (g.all p hp)
      · rw [hp]; exact List.mem_cons_self
section
variable {P : Program} {w : World} {A : Around} {E : Value → Shared → Prop} {s : Shared}
theorem fresh_st {h : Heap} {a : Addr} (ho : h.get? a = some { cls := .type "set", dict := none, data := .set #[] 0 (.fresh 0 0 (!w.params.followText "set-order")) }) : St P w h a [] #[] 0 (.fresh 0 0 (!w.params.followText "set-order")) where
  ob := ⟨_, ho, ⟨rfl, rfl, rfl⟩, rfl⟩
  rows := rfl
  tab := ⟨.nil, rfl, rfl, gd7, (fun x hx => (nomatch hx)), (fun i h j hi => (by simp at hi))⟩
  nd := .nil
  key := fun p hp => (nomatch hp)
  led := (by cases q : w.params.followText "set-order" with
    | true => exact .inl rfl
    | false => exact .inr rfl)
  room := (by show 0 * 5 < 7 * 3; decide)
/-- what is known of a set while it is filled -/
structure Way (P : Program) (w : World) (S : Addr) (ks : List Row) (M : Heap → List Row → Array (Int × Value) → Nat → SetTable → Prop) : Prop where
  nil : ∀ h : Heap, h.get? S = some { cls := .type "set", dict := none, data := .set #[] 0 (.fresh 0 0 (!w.params.followText "set-order")) } → M h [] #[] 0 (.fresh 0 0 (!w.params.followText "set-order"))
  keep : ∀ {h h' : Heap} {L es ep t}, M h L es ep t → (∀ o, h.get? S = some o → h'.get? S = some o) → (∀ p ∈ L, Kv h' p.2 p.1) → M h' L es ep t
  nd : ∀ {h : Heap} {L es ep t}, M h L es ep t → (L.map (·.2)).Nodup
  add : ∀ {A : Around} {E : Value → Shared → Prop} {s : Shared} {L es ep t} {p : Row} {Q : Bool → Shared → Prop}, A.units + 8 < cLine → p ∈ ks → (∀ q ∈ L, q ∈ ks) → M s.heap L es ep t → Kv s.heap p.2 p.1 → L.length < 1200 →
    (∀ b h' L' es' ep' t', Heap.SameBut S s.heap h' → M h' L' es' ep' t' → (p.2 ∈ L.map (·.2) → L' = L) → (p.2 ∉ L.map (·.2) → L'.Perm (p :: L)) → Q b { s with heap := h' }) → wpAny (model P w) A (setAddHashed S p.1 (p.2.hash w)) Q E s
theorem wayT {S : Addr} {ks : List Row} (hr : ∀ p ∈ ks, ∃ b, p.1 = Value.ref b) : Way P w S ks (fun h L es ep t => St P w h S L es ep t) where
  nil := fun h ho => fresh_st ho
  keep := fun m ha ht => m.keep ha ht
  nd := fun m => m.nd
  add := fun {A E s L es ep t p Q} hu hp hs m kp few hQ => by
    obtain ⟨v, k⟩ := p
    obtain ⟨b, rfl⟩ := hr _ hp
    exact add1 m (fun q hq => hr q (hs q hq)) kp hu few hQ
theorem wayS {S : Addr} {ks : List Row} (hr : ∀ p ∈ ks, p.1.scannable = true) : Way P w S ks (fun h L es ep t => Sv w h S L es ep t) where
  nil := fun h ho => ⟨⟨_, ho, ⟨rfl, rfl, rfl⟩, rfl⟩, rfl, .nil, rfl, .nil, (fun p hp => (nomatch hp)), (fresh_st (P := P) ho).led, Nat.zero_le _⟩
  keep := fun m ha ht => m.keep ha ht
  nd := fun m => m.nd
  add := fun {A E s L es ep t p Q} hu hp hs m kp few hQ => add2 (P := P) m (fun q hq => hr q (hs q hq)) kp (hr _ hp) few hQ
/-- the loop of set.update -/
theorem fill {I : Addr} {fp wr : List Addr} {G : Array GenState → Array GenState → Prop} {n : Nat} {Pv : Nat → Value → Prop} {Sn : Nat → Shared → Prop} {R : Result → Shared → Prop} {M : Heap → List Row → Array (Int × Value) → Nat → SetTable → Prop} {ks : List Row}
    (W : WalksS P w A.in1 I fp wr G n Pv Sn) (S : Addr) (Y : Way P w S ks M) (hSf : S ∉ fp) (hn : n = ks.length) (few : ∀ L : List Row, (L.map (·.2)).Nodup → (∀ p ∈ L, p ∈ ks) → L.length < 1200) (hv : ∀ i v, Pv i v → ∃ p, ks[i]? = some p ∧ v = p.1)
    (h0 : Heap) (hk : ∀ p ∈ ks, Kv h0 p.2 p.1) (hS : h0.get? S = none) (hw : ∀ b ∈ wr, h0.get? b = none) (hu : A.in1.units + 8 < cLine) :
    ∀ (k i : Nat) (s : Shared), n - i = k → i ≤ n → Sn i s → (∀ b o, h0.get? b = some o → s.heap.get? b = some o) → (∃ L es ep t, M s.heap L es ep t ∧ Had ks i L) →
      (∀ s' L es ep t, Moved (S :: wr) G s s' → M s'.heap L es ep t → Had ks n L → (∀ b o, h0.get? b = some o → s'.heap.get? b = some o) → R (.ok (.ret .none)) s') →
      codeAny (model P w) A (.builtin "set.update.loop" ⟨[.ref S, .ref I], []⟩) R s := by
  have hSw : S ∉ wr := fun z => hSf (W.sub _ z)
  have mor : ∀ b ∈ wr, b ∈ S :: wr := fun b hb => List.mem_cons_of_mem _ hb
  have kM : ∀ {s s' : Shared}, Moved wr G s s' → (∀ b o, h0.get? b = some o → s.heap.get? b = some o) → ∀ b o, h0.get? b = some o → s'.heap.get? b = some o := fun hm hkp b o e => by
    refine hm.heap b o (fun hb => ?_) (hkp b o e)
    rw [hw b hb] at e; cases e
  intro k
  induction k with
  | zero =>
    intro i s hk' hi hst hkp ⟨L, es, ep, t, st, g⟩ hR
    obtain rfl : i = n := by omega
    refine codeAny_builtin F.entry_set_update_loop ?_
    rw [Around.under_plainId F.plain_set_update_loop _]
    change wpAny _ A.in1 (pyNext (.ref I) >>= _) _ _ s
    refine wpAny_bind (W.done s _ _ hst fun s' hm => ?_)
    change wpAny _ A.in1 (ret Value.none) _ _ s'
    have z := kM hm hkp
    exact wpAny_pure (hR s' L es ep t (hm.mono mor) (Y.keep st (fun o e => hm.heap S o hSw e) fun p hp => (hk p (g.sub p hp)).keep z) g z)
  | succ k ih =>
    intro i s hk' hi hst hkp ⟨L, es, ep, t, st, g⟩ hR
    have lt : i < n := by omega
    refine codeAny_builtin F.entry_set_update_loop ?_
    rw [Around.under_plainId F.plain_set_update_loop _]
    change wpAny _ A.in1 (pyNext (.ref I) >>= _) _ _ s
    refine wpAny_bind (W.item i s _ _ lt hst fun v s' hP hst' hm => ?_)
    obtain ⟨p, hp, rfl⟩ := hv i v hP
    have pm := List.mem_of_getElem? hp
    have z := kM hm hkp
    have st' : M s'.heap L es ep t := Y.keep st (fun o e => hm.heap S o hSw e) fun q hq => (hk q (g.sub q hq)).keep z
    have hx : Kv s'.heap p.2 p.1 := (hk p pm).keep z
    change wpAny _ A.in1 (holding [p.1] (setAdd S p.1) >>= _) _ _ s'
    refine wpAny_bind (wpAny_holding ?_)
    unfold setAdd
    refine wpAny_holding ?_
    refine wpAny_bind (pyHash_key _ _ _ _ _ hx.1 (by have := hx.2; omega) ?_)
    refine Y.add (s := { s' with toks := s'.toks + p.2.draws }) hu pm g.sub st' hx (few L (Y.nd st) g.sub) fun b h' L' es' ep' t' sb S2 c1 c2 => ?_
    have g' : Had ks (i + 1) L' := g.step hp c1 c2
    have z2 : ∀ b o, h0.get? b = some o → h'.get? b = some o := fun b o e => by
      refine (sb.2 b fun q => ?_).trans (z b o e)
      rw [q, hS] at e; cases e
    refine wpAny_pure ⟨plainId_quiet F.plain_set_update_loop _, ih (i + 1) _ (by omega) lt (W.frame _ s' _ _ hst' (Nat.le_add_right _ _) fun b hb o e => ?_) z2 ⟨L', es', ep', t', S2, g'⟩ fun s3 L3 es3 ep3 t3 hm3 st3 g3 z3 => ?_⟩
    · exact (sb.2 b fun q => hSf (q ▸ hb)).trans e
    · refine hR s3 L3 es3 ep3 t3 (Moved.trans W.gtrans ((hm.mono mor).then_heap (Nat.le_add_right _ _) fun b o hb e => ?_) hm3) st3 g3 z3
      exact (sb.2 b fun q => hb (q ▸ List.mem_cons_self)).trans e
/-- set(xs) -/
theorem make {l : Addr} {items : Array Value} (ks : List Row) {M : Heap → List Row → Array (Int × Value) → Nat → SetTable → Prop} {Q : Value → Shared → Prop} (Y : Way P w s.heap.objs.size ks M) (hh : A.handled = none) (hl : s.heap.IsList l items) (hit : items.toList = ks.map (·.1))
    (hk : ∀ p ∈ ks, Kv s.heap p.2 p.1) (few : ∀ L : List Row, (L.map (·.2)).Nodup → (∀ p ∈ L, p ∈ ks) → L.length < 1200) (hu : A.units + 16 < cLine)
    (h : ∀ (h' : Heap) (tk : Nat) L es ep t, M h' L es ep t → Had ks ks.length L → (∀ b o, s.heap.get? b = some o → h'.get? b = some o) → Q (.ref s.heap.objs.size) { s with heap := h', toks := tk }) :
    wpAny (model P w) A (call (.type "set") [.ref l]) Q E s := by
  have sz : items.size = ks.length := by rw [← Array.length_toList, hit, List.length_map]
  obtain ⟨c, tl, hmro⟩ := F.called_set.mro
  have q1 := F.called_set.made
  have q2 := F.called_set.sub
  have q3 := F.called_set.notType
  have q4 := F.called_set.canCreate
  have q5 := F.typeCall_set_1 (.ref l)
  refine wpAny_call (codeAny_of_tree ?_)
  change wpAny _ _ (callAny (.type "set") _) _ _ _
  refine wpAny_pure ⟨Code.quiet_builtin _ (by decide +kernel), codeAny_builtin F.entry_type_call ?_⟩
  rw [Around.under_plain (weight_type_call_type "set" [.ref l] []) rfl]
  repeat (any_goals (first | assumption | wp_step))
  refine codeAny_mono (code_set_led1 (.ref l) (E := E) (Q₁ := fun obj z => obj = .ref s.heap.objs.size ∧ z = { s with heap := s.heap.push ({ cls := .type "set", dict := none, data := .set #[] 0 (.fresh 0 0 (!w.params.followText "set-order")) } : Obj) }) ⟨rfl, rfl⟩) fun r z hr => ?_
  cases r with
  | error e => exact hr
  | ok fl =>
    cases fl with
    | ret obj =>
      obtain ⟨rfl, rfl⟩ := hr
      have gS : (s.heap.push ({ cls := .type "set", dict := none, data := .set #[] 0 (.fresh 0 0 (!w.params.followText "set-order")) } : Obj)).get? s.heap.objs.size = some ({ cls := .type "set", dict := none, data := .set #[] 0 (.fresh 0 0 (!w.params.followText "set-order")) } : Obj) := Heap.get?_push_size _ (rfl)
      have tS : Shared.TypeIs { s with heap := s.heap.push ({ cls := .type "set", dict := none, data := .set #[] 0 (.fresh 0 0 (!w.params.followText "set-order")) } : Obj) } (.ref s.heap.objs.size) "set" := ⟨_, gS, rfl⟩
      have q6 := F.called_set.init.lookup
      have q7 := F.called_set.init.bind (.ref s.heap.objs.size)
      repeat (any_goals (first | assumption | wp_step))
      refine codeAny_mono (codeAny_call_builtin (R := wants (fun r z => r = .none ∧ ∃ h' tk L es ep t, z = { s with heap := h', toks := tk } ∧ M h' L es ep t ∧ Had ks ks.length L ∧
          (∀ b o, s.heap.get? b = some o → h'.get? b = some o)) E) F.called_set.init.plain F.entry_set_init (check_set_init_1 tS ?_)) fun r2 z2 hr2 => ?_
      · obtain ⟨⟨oc, od, oD, os⟩, hol, hcl, nl, hdl⟩ := hl
        cases hcl
        cases hdl
        have q8 := F.sub_list_set
        have q9 := F.sub_list_frozenset
        have qd : (Value.type "list" == Value.type "dict") = false := by decide
        have hol2 : (s.heap.push ({ cls := .type "set", dict := none, data := .set #[] 0 (.fresh 0 0 (!w.params.followText "set-order")) } : Obj)).get? l = some { cls := .type "list", dict := od, data := .seq items nl, slots := os } := Heap.get?_push_of_some _ hol
        have hl1 : (s.heap.push ({ cls := .type "set", dict := none, data := .set #[] 0 (.fresh 0 0 (!w.params.followText "set-order")) } : Obj)).IsList l items := ⟨_, hol2, rfl, nl, rfl⟩
        unfold Builtin.«set.__init__» noKeywords Builtin.Frozenset.updateFrom
        generalize hPI : pyIter = PI
        wp_walk
        subst hPI
        refine wpAny_pyIter_list hl1 ?_
        refine wpAny_bind (wpAny_runValue ?_)
        have lS : l < s.heap.objs.size := Heap.lt_size hol
        have s1 : (s.heap.push ({ cls := .type "set", dict := none, data := .set #[] 0 (.fresh 0 0 (!w.params.followText "set-order")) } : Obj)).objs.size = s.heap.objs.size + 1 := Heap.size_push ..
        have neI : l ≠ (s.heap.push ({ cls := .type "set", dict := none, data := .set #[] 0 (.fresh 0 0 (!w.params.followText "set-order")) } : Obj)).objs.size := by rw [s1]; exact Nat.ne_of_lt (Nat.lt_succ_of_lt lS)
        have inP : s.heap.objs.size ∉ [(s.heap.push ({ cls := .type "set", dict := none, data := .set #[] 0 (.fresh 0 0 (!w.params.followText "set-order")) } : Obj)).objs.size, l] := by
          rw [s1]; simp only [List.mem_cons, List.not_mem_nil, or_false, not_or]; exact ⟨Nat.ne_of_lt (Nat.lt_succ_self _), Nat.ne_of_gt lS⟩
        have hval : ∀ (i : Nat) (v : Value), items[i]? = some v → ∃ p, ks[i]? = some p ∧ v = p.1 := fun i v hv => by
          rw [← Array.getElem?_toList, hit, List.getElem?_map, Option.map_eq_some_iff] at hv
          obtain ⟨p, e1, e2⟩ := hv
          exact ⟨p, e1, e2.symm⟩
        have none_of : ∀ b, s.heap.objs.size ≤ b → s.heap.get? b = none := fun b hb => by
          cases q : s.heap.get? b with
          | none => rfl
          | some o => exact absurd (Nat.lt_of_lt_of_le (Heap.lt_size q) hb) (Nat.lt_irrefl _)
        refine fill ((Walks.list (by simp [hh]) _ l neI items).toS) s.heap.objs.size Y inP sz few hval s.heap hk (none_of _ (Nat.le_refl _)) (fun b hb => none_of b (by rw [List.mem_singleton.mp hb, s1]; exact Nat.le_succ _)) ?hu (items.size - 0) 0 _ (by omega) (Nat.zero_le _)
          ⟨⟨_, Heap.get?_push_size _ rfl, rfl, rfl⟩, (hl1.push _)⟩ (fun b o e => Heap.get?_push_of_some _ (Heap.get?_push_of_some _ e)) ⟨[], #[], 0, _, Y.nil _ (Heap.get?_push_of_some _ gS), Had.nil ks⟩ ?hR
        case hu => show A.units + 1 + 1 + 1 + 8 < cLine; omega
        case hR =>
          intro s' L es ep t hm st g z
          obtain ⟨h', g2, d', tk', os'⟩ := s'
          obtain rfl : g2 = s.gens := hm.gens
          obtain rfl : d' = s.drawn := hm.drawn
          obtain rfl : os' = s.os := hm.os
          change wpAny _ _ _ _ _ _
          refine wpAny_pure ?_
          change wpAny _ _ (ret Value.none) _ _ _
          rw [sz] at g
          exact wpAny_pure ⟨rfl, h', tk', L, es, ep, t, rfl, st, g, z⟩
      · cases r2 with
        | error e => exact hr2
        | ok fl2 =>
          cases fl2 with
          | ret r =>
            obtain ⟨rfl, h', tk, L, es, ep, t, rfl, st, g, z⟩ := hr2
            repeat (any_goals (first | assumption | wp_step))
            exact h _ _ _ _ _ _ st g z
          | _ => exact hr2.elim
    | _ => exact hr.elim
end
end Ps

/-! Ps3b: set(t), t a tuple of tuples. -/
namespace Ps
open PySem PySem.Spec PyProof.Rows L2
section
variable {P : Program} {w : World} {A : Around} {E : Value → Shared → Prop} {s : Shared}
/-- set(t) -/
theorem makeT {l : Addr} {items : Array Value} (ks : List Row) {M : Heap → List Row → Array (Int × Value) → Nat → SetTable → Prop} {Q : Value → Shared → Prop} (Y : Way P w s.heap.objs.size ks M) (hh : A.handled = none) (hl : s.heap.IsTuple l items) (hit : items.toList = ks.map (·.1))
    (hk : ∀ p ∈ ks, Kv s.heap p.2 p.1) (few : ∀ L : List Row, (L.map (·.2)).Nodup → (∀ p ∈ L, p ∈ ks) → L.length < 1200) (hu : A.units + 16 < cLine)
    (h : ∀ (h' : Heap) (tk : Nat) L es ep t, M h' L es ep t → Had ks ks.length L → (∀ b o, s.heap.get? b = some o → h'.get? b = some o) → Q (.ref s.heap.objs.size) { s with heap := h', toks := tk }) :
    wpAny (model P w) A (call (.type "set") [.ref l]) Q E s := by
  have sz : items.size = ks.length := by rw [← Array.length_toList, hit, List.length_map]
  obtain ⟨c, tl, hmro⟩ := F.called_set.mro
  have q1 := F.called_set.made
  have q2 := F.called_set.sub
  have q3 := F.called_set.notType
  have q4 := F.called_set.canCreate
  have q5 := F.typeCall_set_1 (.ref l)
  refine wpAny_call (codeAny_of_tree ?_)
  change wpAny _ _ (callAny (.type "set") _) _ _ _
  refine wpAny_pure ⟨Code.quiet_builtin _ (by decide +kernel), codeAny_builtin F.entry_type_call ?_⟩
  rw [Around.under_plain (weight_type_call_type "set" [.ref l] []) rfl]
  repeat (any_goals (first | assumption | wp_step))
  refine codeAny_mono (code_set_led1 (.ref l) (E := E) (Q₁ := fun obj z => obj = .ref s.heap.objs.size ∧ z = { s with heap := s.heap.push ({ cls := .type "set", dict := none, data := .set #[] 0 (.fresh 0 0 (!w.params.followText "set-order")) } : Obj) }) ⟨rfl, rfl⟩) fun r z hr => ?_
  cases r with
  | error e => exact hr
  | ok fl =>
    cases fl with
    | ret obj =>
      obtain ⟨rfl, rfl⟩ := hr
      have gS : (s.heap.push ({ cls := .type "set", dict := none, data := .set #[] 0 (.fresh 0 0 (!w.params.followText "set-order")) } : Obj)).get? s.heap.objs.size = some ({ cls := .type "set", dict := none, data := .set #[] 0 (.fresh 0 0 (!w.params.followText "set-order")) } : Obj) := Heap.get?_push_size _ (rfl)
      have tS : Shared.TypeIs { s with heap := s.heap.push ({ cls := .type "set", dict := none, data := .set #[] 0 (.fresh 0 0 (!w.params.followText "set-order")) } : Obj) } (.ref s.heap.objs.size) "set" := ⟨_, gS, rfl⟩
      have q6 := F.called_set.init.lookup
      have q7 := F.called_set.init.bind (.ref s.heap.objs.size)
      repeat (any_goals (first | assumption | wp_step))
      refine codeAny_mono (codeAny_call_builtin (R := wants (fun r z => r = .none ∧ ∃ h' tk L es ep t, z = { s with heap := h', toks := tk } ∧ M h' L es ep t ∧ Had ks ks.length L ∧
          (∀ b o, s.heap.get? b = some o → h'.get? b = some o)) E) F.called_set.init.plain F.entry_set_init (check_set_init_1 tS ?_)) fun r2 z2 hr2 => ?_
      · obtain ⟨⟨oc, od, oD, os⟩, hol, hcl, nl, hdl⟩ := hl
        cases hcl
        cases hdl
        have q8 := F.sub_tuple_set
        have q9 := F.sub_tuple_frozenset
        have qd : (Value.type "tuple" == Value.type "dict") = false := by decide
        have hol2 : (s.heap.push ({ cls := .type "set", dict := none, data := .set #[] 0 (.fresh 0 0 (!w.params.followText "set-order")) } : Obj)).get? l = some { cls := .type "tuple", dict := od, data := .seq items nl, slots := os } := Heap.get?_push_of_some _ hol
        have hl1 : (s.heap.push ({ cls := .type "set", dict := none, data := .set #[] 0 (.fresh 0 0 (!w.params.followText "set-order")) } : Obj)).IsTuple l items := ⟨_, hol2, rfl, nl, rfl⟩
        unfold Builtin.«set.__init__» noKeywords Builtin.Frozenset.updateFrom
        generalize hPI : pyIter = PI
        wp_walk
        subst hPI
        refine wpAny_pyIter_tuple hl1 ?_
        refine wpAny_bind (wpAny_runValue ?_)
        have lS : l < s.heap.objs.size := Heap.lt_size hol
        have s1 : (s.heap.push ({ cls := .type "set", dict := none, data := .set #[] 0 (.fresh 0 0 (!w.params.followText "set-order")) } : Obj)).objs.size = s.heap.objs.size + 1 := Heap.size_push ..
        have neI : l ≠ (s.heap.push ({ cls := .type "set", dict := none, data := .set #[] 0 (.fresh 0 0 (!w.params.followText "set-order")) } : Obj)).objs.size := by rw [s1]; exact Nat.ne_of_lt (Nat.lt_succ_of_lt lS)
        have inP : s.heap.objs.size ∉ [(s.heap.push ({ cls := .type "set", dict := none, data := .set #[] 0 (.fresh 0 0 (!w.params.followText "set-order")) } : Obj)).objs.size, l] := by
          rw [s1]; simp only [List.mem_cons, List.not_mem_nil, or_false, not_or]; exact ⟨Nat.ne_of_lt (Nat.lt_succ_self _), Nat.ne_of_gt lS⟩
        have hval : ∀ (i : Nat) (v : Value), items[i]? = some v → ∃ p, ks[i]? = some p ∧ v = p.1 := fun i v hv => by
          rw [← Array.getElem?_toList, hit, List.getElem?_map, Option.map_eq_some_iff] at hv
          obtain ⟨p, e1, e2⟩ := hv
          exact ⟨p, e1, e2.symm⟩
        have none_of : ∀ b, s.heap.objs.size ≤ b → s.heap.get? b = none := fun b hb => by
          cases q : s.heap.get? b with
          | none => rfl
          | some o => exact absurd (Nat.lt_of_lt_of_le (Heap.lt_size q) hb) (Nat.lt_irrefl _)
        refine fill ((Walks.tuple (by simp [hh]) _ l neI items).toS) s.heap.objs.size Y inP sz few hval s.heap hk (none_of _ (Nat.le_refl _)) (fun b hb => none_of b (by rw [List.mem_singleton.mp hb, s1]; exact Nat.le_succ _)) ?hu (items.size - 0) 0 _ (by omega) (Nat.zero_le _)
          ⟨⟨_, Heap.get?_push_size _ rfl, rfl, rfl⟩, (hl1.push _)⟩ (fun b o e => Heap.get?_push_of_some _ (Heap.get?_push_of_some _ e)) ⟨[], #[], 0, _, Y.nil _ (Heap.get?_push_of_some _ gS), Had.nil ks⟩ ?hR
        case hu => show A.units + 1 + 1 + 1 + 8 < cLine; omega
        case hR =>
          intro s' L es ep t hm st g z
          obtain ⟨h', g2, d', tk', os'⟩ := s'
          obtain rfl : g2 = s.gens := hm.gens
          obtain rfl : d' = s.drawn := hm.drawn
          obtain rfl : os' = s.os := hm.os
          change wpAny _ _ _ _ _ _
          refine wpAny_pure ?_
          change wpAny _ _ (ret Value.none) _ _ _
          rw [sz] at g
          exact wpAny_pure ⟨rfl, h', tk', L, es, ep, t, rfl, st, g, z⟩
      · cases r2 with
        | error e => exact hr2
        | ok fl2 =>
          cases fl2 with
          | ret r =>
            obtain ⟨rfl, h', tk, L, es, ep, t, rfl, st, g, z⟩ := hr2
            repeat (any_goals (first | assumption | wp_step))
            exact h _ _ _ _ _ _ st g z
          | _ => exact hr2.elim
    | _ => exact hr.elim
end
end Ps

/-! Ps4: len(set(xs)), sorted(set(xs)), xs a list of tuples. -/
namespace Py
open PySem PySem.Spec PyProof.Rows L2
mutual
theorem alk_eq : ∀ (p q : PV), alk p q = true → eqv p q = true → p = q
  | .non, .non, _, _ => rfl
  | .bl a, .bl b, _, h => by cases a <;> cases b <;> first | rfl | cases h
  | .int a, .int b, _, h => by rw [show a = b from of_decide_eq_true h]
  | .str a, .str b, _, h => by rw [show a = b from of_decide_eq_true h]
  | .tup a, .tup b, h1, h2 => by rw [alkL_eq a b h1 h2]
  | .lst a, .lst b, h1, h2 => by rw [alkL_eq a b h1 h2]
  | .non, .bl _, h, _ => by cases h
  | .non, .int _, h, _ => by cases h
  | .non, .str _, h, _ => by cases h
  | .non, .tup _, h, _ => by cases h
  | .non, .lst _, h, _ => by cases h
  | .non, .dict _ _ _, h, _ => by cases h
  | .non, .set _, h, _ => by cases h
  | .non, .scr _, h, _ => by cases h
  | .bl _, .non, h, _ => by cases h
  | .bl _, .int _, h, _ => by cases h
  | .bl _, .str _, h, _ => by cases h
  | .bl _, .tup _, h, _ => by cases h
  | .bl _, .lst _, h, _ => by cases h
  | .bl _, .dict _ _ _, h, _ => by cases h
  | .bl _, .set _, h, _ => by cases h
  | .bl _, .scr _, h, _ => by cases h
  | .int _, .non, h, _ => by cases h
  | .int _, .bl _, h, _ => by cases h
  | .int _, .str _, h, _ => by cases h
  | .int _, .tup _, h, _ => by cases h
  | .int _, .lst _, h, _ => by cases h
  | .int _, .dict _ _ _, h, _ => by cases h
  | .int _, .set _, h, _ => by cases h
  | .int _, .scr _, h, _ => by cases h
  | .str _, .non, h, _ => by cases h
  | .str _, .bl _, h, _ => by cases h
  | .str _, .int _, h, _ => by cases h
  | .str _, .tup _, h, _ => by cases h
  | .str _, .lst _, h, _ => by cases h
  | .str _, .dict _ _ _, h, _ => by cases h
  | .str _, .set _, h, _ => by cases h
  | .str _, .scr _, h, _ => by cases h
  | .tup _, .non, h, _ => by cases h
  | .tup _, .bl _, h, _ => by cases h
  | .tup _, .int _, h, _ => by cases h
  | .tup _, .str _, h, _ => by cases h
  | .tup _, .lst _, h, _ => by cases h
  | .tup _, .dict _ _ _, h, _ => by cases h
  | .tup _, .set _, h, _ => by cases h
  | .tup _, .scr _, h, _ => by cases h
  | .lst _, .non, h, _ => by cases h
  | .lst _, .bl _, h, _ => by cases h
  | .lst _, .int _, h, _ => by cases h
  | .lst _, .str _, h, _ => by cases h
  | .lst _, .tup _, h, _ => by cases h
  | .lst _, .dict _ _ _, h, _ => by cases h
  | .lst _, .set _, h, _ => by cases h
  | .lst _, .scr _, h, _ => by cases h
  | .dict _ _ _, _, h, _ => by cases h
  | .set _, _, h, _ => by cases h
  | .scr _, _, h, _ => by cases h
theorem alkL_eq : ∀ (l k : List PV), alkL l k = true → eqvL l k = true → l = k
  | [], [], _, _ => rfl
  | [], _ :: _, _, h => by cases h
  | _ :: _, [], _, h => by cases h
  | x :: l, y :: k, h1, h2 => by
    obtain ⟨a1, a2⟩ := and_tt h1
    obtain ⟨b1, b2⟩ := and_tt h2
    rw [alk_eq x y a1 b1, alkL_eq l k a2 b2]
end
end Py

/-! Ps5: len(set(xs)), sorted(set(xs)): the rules. -/
namespace Py
open PySem PySem.Spec PyProof.Rows L2 Ps
theorem pigeon {α : Type} : ∀ (l D : List α), l.Nodup → (∀ x ∈ l, x ∈ D) → l.length ≤ D.length
  | [], _, _, _ => Nat.zero_le _
  | x :: l, D, hn, hs => by
    obtain ⟨h1, h2⟩ := List.nodup_cons.mp hn
    obtain ⟨A, B, rfl⟩ := List.append_of_mem (hs x List.mem_cons_self)
    have ih := pigeon l (A ++ B) h2 fun y hy => by
      have q := hs y (List.mem_cons_of_mem _ hy)
      rw [List.mem_append, List.mem_cons] at q
      rcases q with q | q | q
      · exact List.mem_append_left _ q
      · exact absurd (q ▸ hy) h1
      · exact List.mem_append_right _ q
    rw [List.length_append] at ih
    rw [List.length_cons, List.length_append, List.length_cons]
    omega
theorem perm_back {α β : Type} (f : α → β) : ∀ (vs : List β) (L : List α), vs.Perm (L.map f) → ∃ L2 : List α, L2.Perm L ∧ L2.map f = vs
  | [], L, h => by
    have e := h.symm.eq_nil
    rw [List.map_eq_nil_iff] at e
    exact ⟨[], by rw [e], rfl⟩
  | v :: vs, L, h => by
    obtain ⟨x, hx, rfl⟩ := List.mem_map.mp (h.mem_iff.mp List.mem_cons_self)
    obtain ⟨A, B, rfl⟩ := List.append_of_mem hx
    have h2 : vs.Perm ((A ++ B).map f) := by
      rw [List.map_append, List.map_cons] at h
      have q := h.trans List.perm_middle
      rw [List.map_append]
      exact q.cons_inv
    obtain ⟨L2, p1, p2⟩ := perm_back f vs (A ++ B) h2
    exact ⟨x :: L2, (p1.cons x).trans List.perm_middle.symm, by rw [List.map_cons, p2]⟩
/-! ### the first of each kind -/
theorem dedup_sub : ∀ {l : List PV} {p : PV}, p ∈ dedupV l → p ∈ l
  | x :: xs, p, h => by
    rcases List.mem_cons.mp h with e | h
    · rw [e]; exact List.mem_cons_self
    · exact List.mem_cons_of_mem _ (dedup_sub (List.mem_filter.mp h).1)
theorem dedup_all {n : Nat} : ∀ {l : List PV}, (∀ p ∈ l, pureD n p = true) → ∀ p ∈ l, nk p ∈ (dedupV l).map nk
  | x :: xs, hp, p, h => by
    by_cases c : nk p = nk x
    · rw [c]; exact List.mem_map.mpr ⟨x, List.mem_cons_self, rfl⟩
    · rcases List.mem_cons.mp h with e | h
      · exact absurd (congrArg nk e) c
      · obtain ⟨q, h1, h2⟩ := List.mem_map.mp (dedup_all (fun z hz => hp z (List.mem_cons_of_mem _ hz)) p h)
        refine List.mem_map.mpr ⟨q, List.mem_cons_of_mem _ (List.mem_filter.mpr ⟨h1, ?_⟩), h2⟩
        have hq := hp q (List.mem_cons_of_mem _ (dedup_sub h1))
        rw [Bool.not_eq_true', Bool.eq_false_iff]
        intro z
        rw [eqv_iff (hp x List.mem_cons_self) hq] at z
        exact c (by rw [← h2, z])
theorem dedup_nodup {n : Nat} : ∀ {l : List PV}, (∀ p ∈ l, pureD n p = true) → ((dedupV l).map nk).Nodup
  | [], _ => .nil
  | x :: xs, hp => by
    have ih := dedup_nodup fun z hz => hp z (List.mem_cons_of_mem _ hz)
    show (nk x :: ((dedupV xs).filter _).map nk).Nodup
    refine List.nodup_cons.mpr ⟨fun h => ?_, List.Nodup.sublist (List.Sublist.map nk List.filter_sublist) ih⟩
    obtain ⟨q, h1, h2⟩ := List.mem_map.mp h
    obtain ⟨h3, h4⟩ := List.mem_filter.mp h1
    have hq := hp q (List.mem_cons_of_mem _ (dedup_sub h3))
    rw [(eqv_iff (hp x List.mem_cons_self) hq).mpr h2.symm] at h4
    cases h4
section
variable {X : Cx} {K : Frg} {F H : Hp} {x : V} {p : PV} {G : Gh}
/-- what a set is made of: tuples, or leaves -/
def okK (l : List PV) : Bool := l.all isTupP || l.all isLeafP
theorem pure_of {l : List PV} (h : okK l = true) : ∀ p ∈ l, pureD 8 p = true := fun p hp => by
  unfold okK at h
  rw [Bool.or_eq_true] at h
  rcases h with h | h
  · have q := List.all_eq_true.mp h p hp
    cases p with
    | tup m => exact q
    | _ => cases q
  · have q := List.all_eq_true.mp h p hp
    cases p with
    | tup m => cases q
    | lst m => cases q
    | dict _ _ => cases q
    | set _ => cases q
    | scr _ => cases q
    | _ => rfl
/-- rows of a list -/
theorem rows_of {pins : List (Addr × Obj)} {σ : L2.St} {s : Shared} (I : Inv X pins σ H s) (e : Ext F H) : ∀ (l : List PV) (xs : List V) (its : List Value), (∀ p ∈ l, pureD 8 p = true) → RepL X.kw F xs l → Vals xs its →
    ∃ ks : List Ps.Row, its = ks.map (·.1) ∧ ks.map (·.2) = l.map nk ∧ ∀ r ∈ ks, Kv s.heap r.2 r.1 ∧ ∃ b, b ∈ l ∧ nk b = r.2 ∧ ∃ x, RelV x r.1 ∧ Rep X.kw F x b
  | [], _, _, _, .nil, .nil => ⟨[], rfl, rfl, fun r h => (nomatch h)⟩
  | p :: l, _, _, h, .cons (v := v) r t, .cons u w => by
    obtain ⟨ks, e1, e2, e3⟩ := rows_of I e l _ _ (fun z hz => h z (List.mem_cons_of_mem _ hz)) t w
    have hp := h p List.mem_cons_self
    have hn := nested_of I e 8 _ _ _ hp r u
    refine ⟨(_, nk p) :: ks, by rw [e1]; rfl, by rw [List.map_cons, List.map_cons, e2], fun r' hr => ?_⟩
    rcases List.mem_cons.mp hr with z | z
    · subst z
      exact ⟨⟨hn, nk_depth 8 _ hp⟩, _, List.mem_cons_self, rfl, _, u, r⟩
    · obtain ⟨a1, b, a2, a3, a4⟩ := e3 r' z
      exact ⟨a1, b, List.mem_cons_of_mem _ a2, a3, a4⟩
/-- set(xs) -/
theorem set_run {pins : List (Addr × Obj)} {σ : L2.St} {s : Shared} {Q : Value → Shared → Prop} {E : Value → Shared → Prop} {l : List PV} {u : Value} (hc : X.calm = true) (hu : X.A.units + 65 < cLine) (I : Inv X pins σ H s) (e : Ext F H) (rx : RelV x u) (hx : PR X.kw F H x (.lst l) ∨ PR X.kw F H x (.tup l))
    (ht : okK l = true) (few : (dedupV l).length < 1200)
    (h : ∀ (a : Addr) (s' : Shared) (L : List Ps.Row) es ep t, Inv X pins σ H s' → Sv X.w s'.heap a L es ep t → L.length = (dedupV l).length → (∀ r ∈ L, ∃ b, b ∈ l ∧ nk b = r.2 ∧ ∃ x, RelV x r.1 ∧ Rep X.kw F x b) → (∀ b ∈ l, nk b ∈ L.map (·.2)) → Q (.ref a) s') :
    wpAny (model X.prog X.w) X.A (call (.type "set") [u]) Q E s := by
  have hpu := pure_of ht
  have core : ∀ (its : List Value) (ks : List Ps.Row), its = ks.map (·.1) → ks.map (·.2) = l.map nk → (∀ r ∈ ks, Kv s.heap r.2 r.1 ∧ ∃ b, b ∈ l ∧ nk b = r.2 ∧ ∃ x, RelV x r.1 ∧ Rep X.kw F x b) →
      (∀ (M : Heap → List Ps.Row → Array (Int × Value) → Nat → SetTable → Prop), Way X.prog X.w s.heap.objs.size ks M → (∀ L : List Ps.Row, (L.map (·.2)).Nodup → (∀ p ∈ L, p ∈ ks) → L.length < 1200) →
        (∀ (h' : Heap) (tk : Nat) L es ep t, M h' L es ep t → Had ks ks.length L → (∀ b o, s.heap.get? b = some o → h'.get? b = some o) → Q (.ref s.heap.objs.size) { s with heap := h', toks := tk }) → wpAny (model X.prog X.w) X.A (call (.type "set") [u]) Q E s) →
      wpAny (model X.prog X.w) X.A (call (.type "set") [u]) Q E s := by
    intro its ks k1 k2 k3 go
    have cnt : ∀ L : List Ps.Row, (L.map (·.2)).Nodup → (∀ p ∈ L, p ∈ ks) → L.length ≤ (dedupV l).length := fun L h1 h2 => by
      have q := pigeon (L.map (·.2)) ((dedupV l).map nk) h1 fun z hz => by
        obtain ⟨r, hr, rfl⟩ := List.mem_map.mp hz
        obtain ⟨_, b, b1, b2, _⟩ := k3 r (h2 r hr)
        rw [← b2]
        exact dedup_all hpu b b1
      rwa [List.length_map, List.length_map] at q
    have few' : ∀ L : List Ps.Row, (L.map (·.2)).Nodup → (∀ p ∈ L, p ∈ ks) → L.length < 1200 := fun L h1 h2 => Nat.lt_of_le_of_lt (cnt L h1 h2) few
    have fin : ∀ (h' : Heap) (tk : Nat) L es ep t, Sv X.w h' s.heap.objs.size L es ep t → Had ks ks.length L → (∀ b o, s.heap.get? b = some o → h'.get? b = some o) → Q (.ref s.heap.objs.size) { s with heap := h', toks := tk } := fun h' tk L es ep t st g kp => by
      have cov : ∀ b ∈ l, nk b ∈ L.map (·.2) := fun b hb => by
        have q : nk b ∈ ks.map (·.2) := by rw [k2]; exact List.mem_map.mpr ⟨b, hb, rfl⟩
        obtain ⟨r, hr, e2⟩ := List.mem_map.mp q
        rw [← e2]
        exact g.all r (by rw [List.take_length]; exact hr)
      refine h _ _ L es ep t (I.kept kp) st (Nat.le_antisymm (cnt L st.nd g.sub) ?_) (fun r hr => (k3 r (g.sub r hr)).2) cov
      have q := pigeon ((dedupV l).map nk) (L.map (·.2)) (dedup_nodup hpu) fun z hz => by
        obtain ⟨b, hb, rfl⟩ := List.mem_map.mp hz
        exact cov b (dedup_sub hb)
      rwa [List.length_map, List.length_map] at q
    have ht' := ht
    unfold okK at ht'
    rw [Bool.or_eq_true] at ht'
    rcases ht' with ht' | ht'
    · refine go _ (wayT fun p hp => ?_) few' fun h' tk L es ep t st g kp => fin h' tk L es ep t (St.sv (s := { s with heap := h' }) st (Nat.le_of_lt (few' L st.nd g.sub))) g kp
      obtain ⟨_, b, b1, b2, x, x1, x2⟩ := k3 p hp
      have z := List.all_eq_true.mp ht' b b1
      cases b with
      | tup m => cases x2 with | tup _ _ => exact ⟨_, x1⟩
      | _ => cases z
    · refine go _ (wayS fun p hp => ?_) few' fin
      obtain ⟨_, b, b1, b2, x, x1, x2⟩ := k3 p hp
      generalize p.1 = pv at x1
      have z := List.all_eq_true.mp ht' b b1
      cases x2 with
      | non => cases x1; rfl
      | bl _ => cases x1; rfl
      | int _ => obtain ⟨t, e⟩ := x1; rw [e]; rfl
      | str _ _ => obtain ⟨t, e⟩ := x1; rw [e]; rfl
      | tup _ _ => cases z
      | lst _ _ => cases z
      | scr _ => cases z
      | dic _ _ => cases z
      | dct _ _ _ => cases z
      | tab _ _ => cases z
      | rpr _ => cases z
  have hpu' := hpu
  rcases hx with hx | hx
  · obtain ⟨a, xs, rfl, s1, r1⟩ := hx.lst e
    cases rx
    obtain ⟨its, rv, pl, hz⟩ := I.list (SqL.of s1)
    obtain ⟨ks, k1, k2, k3⟩ := rows_of I e l xs its hpu r1 rv
    exact core its ks k1 k2 k3 fun M Y few' fin => make (P := X.prog) (w := X.w) ks Y (I.ok.hd hc) pl.isList (by simpa using k1) (fun p hp => (k3 p hp).1) few' (by omega) fin
  · obtain ⟨a, xs, rfl, s1, r1⟩ := hx.tup
    cases rx
    obtain ⟨its, rv, pl, hz⟩ := I.tuple (e.seqT s1)
    obtain ⟨ks, k1, k2, k3⟩ := rows_of I e l xs its hpu r1 rv
    exact core its ks k1 k2 k3 fun M Y few' fin => makeT (P := X.prog) (w := X.w) ks Y (I.ok.hd hc) pl (by simpa using k1) (fun p hp => (k3 p hp).1) few' (by omega) fin
end
end Py

/-! Ps6: len(set(xs)), sorted(set(xs)): calls. -/
namespace Py
open PySem PySem.Spec PyProof.Rows L2 Ps
theorem each_mapFG {α β : Type} {R : Value → β → Prop} (f : α → Value) (g : α → β) : ∀ (L : List α), (∀ r ∈ L, R (f r) (g r)) → PySem.W.EachIs R (L.map f) (L.map g)
  | [], _ => .nil
  | r :: L, h => .cons (h r List.mem_cons_self) (each_mapFG f g L fun z hz => h z (List.mem_cons_of_mem _ hz))
theorem natsLt_anti : ∀ s t : List Nat, natsLt s t = false → natsLt t s = false → s = t
  | [], [], _, _ => rfl
  | [], _ :: _, h, _ => by cases h
  | _ :: _, [], _, h => by cases h
  | x :: s, y :: t, h1, h2 => by
    have h1 : (if x = y then natsLt s t else decide (x < y)) = false := h1
    have h2 : (if y = x then natsLt t s else decide (y < x)) = false := h2
    by_cases e : x = y
    · subst e
      simp only [if_true] at h1 h2
      rw [natsLt_anti s t h1 h2]
    · rw [if_neg e] at h1
      rw [if_neg (Ne.symm e)] at h2
      have a := of_decide_eq_false h1
      have b := of_decide_eq_false h2
      omega
theorem eqv_swap {p q : PV} (h1 : alk p q = true) (h2 : alk q p = true) (h : eqv q p = true) : eqv p q = true := by
  have e := alk_eq q p h2 h
  subst e; exact h
mutual
theorem ltv_anti : ∀ (p q : PV), alk p q = true → alk q p = true → ltv p q = false → ltv q p = false → eqv p q = true
  | .non, .non, _, _, _, _ => rfl
  | .bl a, .bl b, _, _, h1, h2 => by cases a <;> cases b <;> first | rfl | (cases h1; done) | (cases h2; done)
  | .int a, .int b, _, _, h1, h2 => by
    have a1 := of_decide_eq_false h1
    have a2 := of_decide_eq_false h2
    exact decide_eq_true (by omega)
  | .str a, .str b, _, _, h1, h2 => decide_eq_true (natsLt_anti a b h1 h2)
  | .tup a, .tup b, g1, g2, h1, h2 => ltvL_anti a b g1 g2 h1 h2
  | .lst a, .lst b, g1, g2, h1, h2 => ltvL_anti a b g1 g2 h1 h2
  | .non, .bl _, h, _, _, _ => by cases h
  | .non, .int _, h, _, _, _ => by cases h
  | .non, .str _, h, _, _, _ => by cases h
  | .non, .tup _, h, _, _, _ => by cases h
  | .non, .lst _, h, _, _, _ => by cases h
  | .non, .dict _ _ _, h, _, _, _ => by cases h
  | .non, .set _, h, _, _, _ => by cases h
  | .non, .scr _, h, _, _, _ => by cases h
  | .bl _, .non, h, _, _, _ => by cases h
  | .bl _, .int _, h, _, _, _ => by cases h
  | .bl _, .str _, h, _, _, _ => by cases h
  | .bl _, .tup _, h, _, _, _ => by cases h
  | .bl _, .lst _, h, _, _, _ => by cases h
  | .bl _, .dict _ _ _, h, _, _, _ => by cases h
  | .bl _, .set _, h, _, _, _ => by cases h
  | .bl _, .scr _, h, _, _, _ => by cases h
  | .int _, .non, h, _, _, _ => by cases h
  | .int _, .bl _, h, _, _, _ => by cases h
  | .int _, .str _, h, _, _, _ => by cases h
  | .int _, .tup _, h, _, _, _ => by cases h
  | .int _, .lst _, h, _, _, _ => by cases h
  | .int _, .dict _ _ _, h, _, _, _ => by cases h
  | .int _, .set _, h, _, _, _ => by cases h
  | .int _, .scr _, h, _, _, _ => by cases h
  | .str _, .non, h, _, _, _ => by cases h
  | .str _, .bl _, h, _, _, _ => by cases h
  | .str _, .int _, h, _, _, _ => by cases h
  | .str _, .tup _, h, _, _, _ => by cases h
  | .str _, .lst _, h, _, _, _ => by cases h
  | .str _, .dict _ _ _, h, _, _, _ => by cases h
  | .str _, .set _, h, _, _, _ => by cases h
  | .str _, .scr _, h, _, _, _ => by cases h
  | .tup _, .non, h, _, _, _ => by cases h
  | .tup _, .bl _, h, _, _, _ => by cases h
  | .tup _, .int _, h, _, _, _ => by cases h
  | .tup _, .str _, h, _, _, _ => by cases h
  | .tup _, .lst _, h, _, _, _ => by cases h
  | .tup _, .dict _ _ _, h, _, _, _ => by cases h
  | .tup _, .set _, h, _, _, _ => by cases h
  | .tup _, .scr _, h, _, _, _ => by cases h
  | .lst _, .non, h, _, _, _ => by cases h
  | .lst _, .bl _, h, _, _, _ => by cases h
  | .lst _, .int _, h, _, _, _ => by cases h
  | .lst _, .str _, h, _, _, _ => by cases h
  | .lst _, .tup _, h, _, _, _ => by cases h
  | .lst _, .dict _ _ _, h, _, _, _ => by cases h
  | .lst _, .set _, h, _, _, _ => by cases h
  | .lst _, .scr _, h, _, _, _ => by cases h
  | .dict _ _ _, _, h, _, _, _ => by cases h
  | .set _, _, h, _, _, _ => by cases h
  | .scr _, _, h, _, _, _ => by cases h
theorem ltvL_anti : ∀ (l k : List PV), alkL l k = true → alkL k l = true → ltvL l k = false → ltvL k l = false → eqvL l k = true
  | [], [], _, _, _, _ => rfl
  | [], _ :: _, _, _, h, _ => by cases h
  | _ :: _, [], _, _, _, h => by cases h
  | x :: l, y :: k, g1, g2, h1, h2 => by
    obtain ⟨a1, a2⟩ := and_tt g1
    obtain ⟨b1, b2⟩ := and_tt g2
    have h1 : (if eqv x y = true then ltvL l k else ltv x y) = false := h1
    have h2 : (if eqv y x = true then ltvL k l else ltv y x) = false := h2
    by_cases e : eqv x y = true
    · have e' := eqv_swap b1 a1 e
      rw [if_pos e] at h1
      rw [if_pos e'] at h2
      show (eqv x y && eqvL l k) = true
      rw [e, ltvL_anti l k a2 b2 h1 h2]; rfl
    · have e' : ¬ eqv y x = true := fun z => e (eqv_swap a1 b1 z)
      rw [if_neg e] at h1
      rw [if_neg e'] at h2
      exact absurd (ltv_anti x y a1 b1 h1 h2) e
end
mutual
theorem reads_pure {X : Cx} {F H : Hp} {pins : List (Addr × Obj)} {σ : L2.St} {s : Shared} (I : Inv X pins σ H s) (e : Ext F H) : ∀ (n : Nat) (p : PV) (x : V) (u : Value), pureD n p = true → Rep X.kw F x p → RelV x u → Reads s.heap u (dat p) []
  | _, .non, _, _, _, .non, r => by cases r; exact .none
  | _, .bl b, _, _, _, .bl _, r => by cases r; exact .bool b
  | _, .int i, _, _, _, .int _, r => by obtain ⟨t, rfl⟩ := r; exact .int i t
  | _, .str y, _, _, _, .str _ _, r => by obtain ⟨t, rfl⟩ := r; exact .str _ t
  | 0, .tup _, _, _, h, _, _ => by cases h
  | n + 1, .tup l, _, _, h, .tup q r, ru => by
    cases ru
    obtain ⟨its, v, ⟨o, ho, hc, m, hd⟩, _⟩ := I.tuple (e.seqT q)
    exact .tuple ho hc hd (by rw [List.toList_toArray]; exact reads_pureL I e n l _ its (fun p hp => List.all_eq_true.mp h p hp) r v)
  | 0, .lst _, _, _, h, _, _ => by cases h
  | _ + 1, .lst _, _, _, h, _, _ => by cases h
  | 0, .scr _, _, _, h, _, _ => by cases h
  | _ + 1, .scr _, _, _, h, _, _ => by cases h
  | 0, .dict _ _ _, _, _, h, _, _ => by cases h
  | _ + 1, .dict _ _ _, _, _, h, _, _ => by cases h
  | 0, .set _, _, _, h, _, _ => by cases h
  | _ + 1, .set _, _, _, h, _, _ => by cases h
theorem reads_pureL {X : Cx} {F H : Hp} {pins : List (Addr × Obj)} {σ : L2.St} {s : Shared} (I : Inv X pins σ H s) (e : Ext F H) : ∀ (n : Nat) (l : List PV) (xs : List V) (us : List Value), (∀ p ∈ l, pureD n p = true) → RepL X.kw F xs l → Vals xs us → ReadsAll s.heap us (datL l) []
  | _, [], _, _, _, .nil, .nil => .nil
  | n, p :: l, _, _, h, .cons r t, .cons v w => .cons (as := []) (bs := []) (reads_pure I e n p _ _ (h p List.mem_cons_self) r v) (reads_pureL I e n l _ _ (fun z hz => h z (List.mem_cons_of_mem _ hz)) t w)
end
section
variable {X : Cx} {K : Frg} {F H : Hp} {x : V} {p : PV} {G : Gh}
/-- a sorted list of things that are all alike and different is one -/
theorem sort_one {l bs ds : List PV} (hal : ∀ x ∈ l, ∀ y ∈ l, alk x y = true) (hp : ∀ p ∈ l, plainD 19 p = true) (h1 : ∀ b ∈ bs, b ∈ l) (pm : bs.Perm ds) : bs.mergeSort (PySem.W.dataLe false dat) = sortV ds := by
  have h2 : ∀ b ∈ ds, b ∈ l := fun b hb => h1 b (pm.mem_iff.mpr hb)
  have hle : ∀ x ∈ l, ∀ y ∈ l, PySem.W.dataLe false dat x y = !ltv y x := fun x hx y hy => by
    rw [PySem.W.dataLe_eq]
    show (!PySem.W.dataLt (dat y) (dat x)) = _
    rw [lt_dat 19 19 y x (hp y hy) (hp x hx) (hal y hy x hx)]
  have e1 : sortV ds = ds.mergeSort (PySem.W.dataLe false dat) := by
    rw [sortV_eq (le := PySem.W.dataLe false dat) fun x hx y hy => hle x (h2 x hx) y (h2 y hy)]
    exact sortG_merge _ (PySem.W.sortLe_total _ _ _) ds
  rw [e1]
  have p1 := List.mergeSort_perm bs (PySem.W.dataLe false dat)
  have p2 := List.mergeSort_perm ds (PySem.W.dataLe false dat)
  refine List.Perm.eq_of_pairwise (le := fun a b => PySem.W.dataLe false dat a b = true) (fun a b ha hb l1 l2 => ?_) (PySem.W.sort_pairwise (PySem.W.sortLe_total _ _ _) bs) (PySem.W.sort_pairwise (PySem.W.sortLe_total _ _ _) ds) ((p1.trans pm).trans p2.symm)
  have ha' := h1 a (p1.mem_iff.mp ha)
  have hb' := h2 b (p2.mem_iff.mp hb)
  rw [hle a ha' b hb', Bool.not_eq_true'] at l1
  rw [hle b hb' a ha', Bool.not_eq_true'] at l2
  exact alk_eq a b (hal a ha' b hb') (ltv_anti a b (hal a ha' b hb') (hal b hb' a ha') l2 l1)
theorem sorted_run {pins : List (Addr × Obj)} {σ : L2.St} {s : Shared} {Q : VK} {l : List PV} {a : Addr} {L : List Ps.Row} {es : Array (Int × Value)} {ep : Nat} {t : SetTable} (hc : X.calm = true) (hu : X.A.units + 65 < cLine) (I : Inv X pins σ H s) (e : Ext F H)
    (ht : okK l = true) (few : (dedupV l).length < 1200) (hk : sortOk l = true) (R : Ps.Sv X.w s.heap a L es ep t) (hn : L.length = (dedupV l).length) (hL : ∀ r ∈ L, ∃ b, b ∈ l ∧ nk b = r.2 ∧ ∃ x, RelV x r.1 ∧ Rep X.kw F x b) (cov : ∀ b ∈ l, nk b ∈ L.map (·.2))
    (P : Post X.kw F H (.own (.lst (sortV (dedupV l)))) Q) : wpAny (model X.prog X.w) X.A (call (.builtin "sorted") [.ref a]) (EP X pins σ Q) X.xe s := by
  unfold sortOk at hk
  obtain ⟨hk, k4⟩ := and_tt hk
  obtain ⟨hk, k3⟩ := and_tt hk
  obtain ⟨k1, k2⟩ := and_tt hk
  have hp : ∀ p ∈ l, plainD 19 p = true := all_plain k3
  have hself : ∀ p ∈ l, alk p p = true := List.all_eq_true.mp k2
  have hal := alikeL_all k1 hself
  have hpu := pure_of ht
  obtain ⟨g, hg⟩ : ∃ g : Ps.Row → PV, ∀ r ∈ L, g r ∈ l ∧ nk (g r) = r.2 ∧ ∃ x, RelV x r.1 ∧ Rep X.kw F x (g r) := by
    refine ⟨fun r => if h : r ∈ L then Classical.choose (hL r h) else .non, fun r hr => ?_⟩
    have z := Classical.choose_spec (hL r hr)
    simp only [dif_pos hr]
    exact z
  obtain ⟨o, ho, hex, hd⟩ := R.ob
  have hsz := R.size
  have hh := I.ok.hd hc
  refine Calls.call_function_entry kind_sorted plain_sorted entry_sorted (args_sorted1 _) ?_
  unfold Builtin.«sorted»
  refine wpAny_bind (m := checkCount "sorted" 1 1 _) (wpAny_pure ?_)
  refine wpAny_bind (collect_set (A := X.A.in1) hh ⟨o, ho, hex.1, hd⟩ R.fit (by have := R.few; unfold scanBound; omega) R.up R.led fun s1 vs kp1 hz1 g1 o1 pm => ?_)
  have em : es.toList.map (·.2) = L.map (·.1) := by
    rw [R.rows, rowsE, List.map_map]; rfl
  rw [em] at pm
  obtain ⟨Lz, pL, rfl⟩ := perm_back _ vs L pm
  have gL : ∀ r ∈ Lz, g r ∈ l ∧ nk (g r) = r.2 ∧ ∃ x, RelV x r.1 ∧ Rep X.kw F x (g r) := fun r hr => hg r (pL.mem_iff.mp hr)
  have lenL : Lz.length < 1200 := by rw [pL.length_eq, hn]; exact few
  -- the things in the set are the first of each kind
  have pd : (Lz.map g).Perm (dedupV l) := by
    have nk2 : (Lz.map g).map nk = Lz.map (·.2) := by
      rw [List.map_map]
      exact List.map_congr_left fun r hr => (gL r hr).2.1
    have nd2 : ((Lz.map g).map nk).Nodup := by rw [nk2]; exact (pL.map (·.2)).nodup_iff.mpr R.nd
    have same : ∀ b ∈ l, ∀ c ∈ l, nk b = nk c → b = c := fun b hb c hc' z => alk_eq b c (hal b hb c hc') ((eqv_iff (hpu b hb) (hpu c hc')).mpr z)
    have n1 : (Lz.map g).Nodup := (List.pairwise_map.mp nd2).imp fun {x y} h z => h (congrArg nk z)
    have n2 : (dedupV l).Nodup := (List.pairwise_map.mp (dedup_nodup hpu)).imp fun {x y} h z => h (congrArg nk z)
    refine (List.perm_ext_iff_of_nodup n1 n2).mpr fun b => ⟨fun hb => ?_, fun hb => ?_⟩
    · obtain ⟨r, hr, rfl⟩ := List.mem_map.mp hb
      obtain ⟨q, q1, q2⟩ := List.mem_map.mp (dedup_all hpu (g r) (gL r hr).1)
      rw [← same q (dedup_sub q1) (g r) (gL r hr).1 q2]
      exact q1
    · have q := cov b (dedup_sub hb)
      obtain ⟨r, hr, e2⟩ := List.mem_map.mp q
      have r2 := pL.mem_iff.mpr hr
      rw [← same (g r) (gL r r2).1 b (dedup_sub hb) ((gL r r2).2.1.trans e2)]
      exact List.mem_map.mpr ⟨r, r2, rfl⟩
  have hb : ∀ b ∈ Lz.map g, b ∈ l := fun b hb => by
    obtain ⟨r, hr, rfl⟩ := List.mem_map.mp hb
    exact (gL r hr).1
  have hsort := sort_one hal hp hb pd
  refine wpAny_bind (wpAny_newList ?_ (by rw [List.length_map, sizeLine_eq]; omega))
  generalize hvs : Lz.map (·.1) = vs at *
  have hoL : (s1.heap.push (seqObj "list" vs.toArray 0)).get? s1.heap.objs.size = some (seqObj "list" vs.toArray 0) := Heap.get?_push_size _ rfl
  have I1 : Inv X pins σ H { s with heap := s1.heap.push (seqObj "list" vs.toArray 0) } := I.kept (t' := s.toks) fun b o q => Heap.get?_push_of_some _ (kp1 b o q)
  have er : PySem.W.EachIs (fun v b => ∃ as, Reads (s1.heap.push (seqObj "list" vs.toArray 0)) v (dat b) as ∧ s1.heap.objs.size ∉ as) vs (Lz.map g) := by
    rw [← hvs]
    refine each_mapFG _ _ Lz fun r hr => ?_
    obtain ⟨q1, _, x, q2, q3⟩ := gL r hr
    exact ⟨[], PyProof.Rows.Reads.keeps (fun b o q => Heap.get?_push_of_some _ (kp1 b o q)) (reads_pure I e 8 _ x _ (hpu _ q1) q3 q2), fun z => nomatch z⟩
  have ev : PySem.W.EachIs (fun v b => ∃ x, RelV x v ∧ Rep X.kw F x b) vs (Lz.map g) := by
    rw [← hvs]
    exact each_mapFG _ _ Lz fun r hr => (gL r hr).2.2
  refine wpAny_bind (wpAny_holding (PySem.W.list_sort_data (s := { s1 with heap := s1.heap.push (seqObj "list" vs.toArray 0) }) (bs := Lz.map g) (enc := dat) (R := fun v b => ∃ x, RelV x v ∧ Rep X.kw F x b) hoL ev er ?_ ?_ ?_ (fun b hb' => ?_) fun out h1 h2 => ?_))
  · intro d hd1 d' hd2
    obtain ⟨p, hp1, rfl⟩ := List.mem_map.mp hd1
    obtain ⟨q, hq1, rfl⟩ := List.mem_map.mp hd2
    rw [alike_dat 19 19 p q (hp p (hb p hp1)) (hp q (hb q hq1))]
    exact hal p (hb p hp1) q (hb q hq1)
  · have ht' := ht
    unfold okK at ht'
    rw [Bool.or_eq_true] at ht'
    rcases ht' with ht' | ht'
    · refine .inl fun d hd1 => ?_
      obtain ⟨p, hp1, rfl⟩ := List.mem_map.mp hd1
      have z1 := List.all_eq_true.mp ht' p (hb p hp1)
      have z2 := List.all_eq_true.mp k4 p (hb p hp1)
      cases p with
      | tup us =>
        cases us with
        | nil => cases z2
        | cons w us => exact ⟨dat w, datL us, by simp only [dat, datL]⟩
      | _ => cases z1
    · refine .inr fun d hd1 => ?_
      obtain ⟨p, hp1, rfl⟩ := List.mem_map.mp hd1
      have z1 := List.all_eq_true.mp ht' p (hb p hp1)
      have z2 := List.all_eq_true.mp k4 p (hb p hp1)
      cases p with
      | non => cases z2
      | tup us => cases z1
      | lst _ => cases z1
      | dict _ _ => cases z1
      | set _ => cases z1
      | scr _ => cases z1
      | _ => exact ⟨by simp [dat], by simp [dat]⟩
  · rw [List.length_map, sizeLine_eq]; omega
  · have q := depth_dat 19 b (hp b (hb b hb'))
    show X.A.units + 1 + 1 + (dat b).depth < cLine
    omega
  · rw [hsort] at h2
    obtain ⟨ys, v2, r2⟩ := each_back (l := sortV (dedupV l)) h2
    obtain ⟨c, hc2⟩ := sortedHeap_at (vs := vs) (out := out.toArray) hoL
    have hlen : ys.length ≤ sizeLine := by rw [v2.length, h1, List.length_map, sizeLine_eq]; omega
    have kp : ∀ b o, s.heap.get? b = some o → (sortedHeap (s1.heap.push (seqObj "list" vs.toArray 0)) s1.heap.objs.size vs out.toArray).get? b = some o := fun b o q => by
      have q2 := kp1 b o q
      have lt := Heap.lt_size q2
      rw [sortedHeap_old (Nat.ne_of_lt lt) (by rw [size_push']; exact Nat.lt_succ_of_lt lt)]
      exact Heap.get?_push_of_some _ q2
    have hn1 : H s1.heap.objs.size = none := I.hok.fresh hz1
    have J : Inv X pins σ (L2.upd H s1.heap.objs.size (.lst ys)) { s with heap := sortedHeap (s1.heap.push (seqObj "list" vs.toArray 0)) s1.heap.objs.size vs out.toArray, gens := s1.gens, drawn := s1.drawn, toks := s1.toks } :=
      I.call (ch := []) (Un.laid kp hz1 hn1) (I.hok.laid kp hz1 ⟨hlen, out, c, v2, hc2⟩) (by rw [g1]; exact I.bare) (fun _ z => nomatch z)
    have es1 : ({ s1 with heap := sortedHeap (s1.heap.push (seqObj "list" vs.toArray 0)) s1.heap.objs.size vs out.toArray } : Shared) = { s with heap := sortedHeap (s1.heap.push (seqObj "list" vs.toArray 0)) s1.heap.objs.size vs out.toArray, gens := s1.gens, drawn := s1.drawn, toks := s1.toks } := by
      cases s1
      cases s
      cases o1
      rfl
    refine wpAny_pure ⟨_, rfl, ?_⟩
    show EP X pins σ Q _ { s1 with heap := sortedHeap (s1.heap.push (seqObj "list" vs.toArray 0)) s1.heap.objs.size vs out.toArray }
    rw [es1]
    exact ⟨.ref _, _, J, rfl, P.newL e r2 hn1⟩
/-- len(set(x)), sorted(set(x)) -/
theorem pe_cset {b : Bool} {a : Expr} {ta : TE} {nm : String} {p p2 q pos : Pos} (hb : nm = if b then "sorted" else "len") (hc : X.calm = true) (hu : X.A.units + 65 < cLine) (hg : Gl X nm) (hm : X.mg nm = none) (hg2 : Gl X "set") (hm2 : X.mg "set" = none) (ha : PE X a ta)
    (na : starEach [a] X.env = (false, eval a X.env) :: starEach [] X.env := by rfl) : PE X (.Call (.Name nm p) [.Call (.Name "set" p2) [a] [] q] [] pos) (fun σ H Q => ta σ H fun x H1 => rd1 X.kw (cset b) x H1 Q) := by
  refine ⟨fun pins s σ H Q I h => ?_⟩
  cases b with
  | false =>
    subst hb
    refine Call_ (ld_blt I hg hm PySem.boot_len ?_)
    refine PyProof.Rows.callWith_builtin1 (PyProof.Rows.args_cons ?_ rfl) rfl rfl
    refine Call_ (ld_blt I hg2 hm2 PyProof.Rows.boot_set ?_)
    refine PyProof.Rows.callWith_type1 (PyProof.Rows.args_cons (thn (ha.run pins s σ H _ I h) fun v s1 ⟨x, H1, I1, r1, q1⟩ => PyProof.Rows.args_nil ?_) na) na rfl
    obtain ⟨F, px, res, e, hx, hd, P⟩ := q1
    obtain ⟨l, hl, hd⟩ : ∃ l, (PR X.kw F H1 x (.lst l) ∨ PR X.kw F H1 x (.tup l)) ∧ csetL false l = some res := by
      cases px with
      | lst l => exact ⟨l, .inl hx, hd⟩
      | tup l => exact ⟨l, .inr hx, hd⟩
      | _ => cases hd
    have hd : (if (okK l && decide ((dedupV l).length < 1200)) = true then some (Res.sh (.int ((dedupV l).length : Int))) else none) = some res := hd
    split at hd
    · rename_i h0
      obtain ⟨t1, t2⟩ := and_tt h0
      have t2 := of_decide_eq_true t2
      obtain rfl := Option.some.inj hd
      refine set_run hc hu I1 e r1 hl t1 t2 fun a2 s2 L es ep t I2 st hn _ _ => PyProof.Rows.args_nil ?_
      obtain ⟨o, ho, hex, hdd⟩ := st.ob
      have hsz := st.size
      refine call_len_set ho hex hdd st.fit (by rw [hsz, hn]; omega) ⟨.int (dedupV l).length, H1, I2.tok _, ⟨_, by rw [hsz, hn]⟩, P.sh e (.int _)⟩
    · cases hd
  | true =>
    subst hb
    refine Call_ (ld_blt I hg hm PyProof.Rows.boot_sorted ?_)
    refine PyProof.Rows.callWith_builtin1 (PyProof.Rows.args_cons ?_ rfl) rfl rfl
    refine Call_ (ld_blt I hg2 hm2 PyProof.Rows.boot_set ?_)
    refine PyProof.Rows.callWith_type1 (PyProof.Rows.args_cons (thn (ha.run pins s σ H _ I h) fun v s1 ⟨x, H1, I1, r1, q1⟩ => PyProof.Rows.args_nil ?_) na) na rfl
    obtain ⟨F, px, res, e, hx, hd, P⟩ := q1
    obtain ⟨l, hl, hd⟩ : ∃ l, (PR X.kw F H1 x (.lst l) ∨ PR X.kw F H1 x (.tup l)) ∧ csetL true l = some res := by
      cases px with
      | lst l => exact ⟨l, .inl hx, hd⟩
      | tup l => exact ⟨l, .inr hx, hd⟩
      | _ => cases hd
    have hd : (if (okK l && decide ((dedupV l).length < 1200)) = true then (if sortOk l = true then some (Res.own (.lst (sortV (dedupV l)))) else none) else none) = some res := hd
    split at hd
    · rename_i h0
      obtain ⟨t1, t2⟩ := and_tt h0
      have t2 := of_decide_eq_true t2
      split at hd
      · rename_i h3
        obtain rfl := Option.some.inj hd
        exact set_run hc hu I1 e r1 hl t1 t2 fun a2 s2 L es ep t I2 st hn hL cov => PyProof.Rows.args_nil (sorted_run hc hu I2 e t1 t2 h3 st hn hL cov P)
      · cases hd
    · cases hd
end
end Py

/-! Ps7: list(range(..)). -/
namespace Py
open PySem PySem.Spec PyProof.Rows L2
section
variable {X : Cx} {G : Gh} {σ : L2.St} {H H' : Hp} {ρ ρ' : Env} {F F' : Hp} {pos : Pos}
theorem repl_ints {K : Frg} : ∀ L : List Int, RepL K F (L.map V.int) (L.map PV.int)
  | [] => .nil
  | i :: L => .cons (.int i) (repl_ints L)
theorem vals_get : ∀ (us : List Value) (f : Nat → V), (∀ j u, us[j]? = some u → RelV (f j) u) → Vals ((List.range us.length).map f) us
  | [], _, _ => .nil
  | u :: r, f, h => by
    rw [List.length_cons, List.range_succ_eq_map, List.map_cons, List.map_map]
    exact .cons (h 0 u rfl) (vals_get r (f ∘ Nat.succ) fun j v e => h (j + 1) v e)
/-- a range that list reads -/
structure RgRun (X : Cx) (pins : List (Addr × Obj)) (σ : L2.St) (Q : VK) (r : Value) (s : Shared) : Prop where
  ok : ∃ p a b c t u v n H1 F res, r = .ref p ∧ IsRange s.heap p a b c t u v ∧ Inv X pins σ H1 s ∧ Builtin.Range.small a b c = true ∧ Builtin.Range.rangeSize a b c = ((n : Nat) : Int) ∧ n ≤ 16777216 ∧ Ext F H1 ∧ res = .own (.lst ((List.range n).map fun (k : Nat) => PV.int (a + (k : Int) * c))) ∧ Post X.kw F H1 res Q
theorem rgrun_end (hc : X.calm = true) {pins : List (Addr × Obj)} {s : Shared} {Q : VK} {r : Value} (h : RgRun X pins σ Q r s) : wpAny (model X.prog X.w) X.A (call (.type "list") [r]) (EP X pins σ Q) X.xe s := by
  obtain ⟨p, a, b, c, t, u, v, n, H1, F, res, rfl, hr, I1, hs, hn, hl, e, rfl, P⟩ := h.ok
  refine call_list_range (n := n) (I1.ok.hd hc) hr hs hn hl fun h' tk acc c' hk e' hi => ?_
  have hlen : acc.toList.length = n := by rw [Array.length_toList]; exact hi.1
  refine ⟨.ref s.heap.objs.size, upd H1 s.heap.objs.size (.lst (((List.range n).map fun (k : Nat) => a + (k : Int) * c).map V.int)), I1.laid hk (Nat.le_refl _) (show ObjOk X.prog X.w _ _ _ (.lst _) from ⟨?_, acc.toList, c', ?_, ?_⟩), rfl, ?_⟩
  · rw [List.length_map, List.length_map, List.length_range, sizeLine_eq]; omega
  · rw [List.map_map]
    have q := vals_get acc.toList (fun k : Nat => V.int (a + (k : Int) * c)) fun j w hj => by
      obtain ⟨t, rfl⟩ := hi.2 j w (by rw [← hj, Array.getElem?_toList])
      exact ⟨t, rfl⟩
    rw [hlen] at q
    exact q
  · rw [Array.toArray_toList]; exact e'
  · refine P.newL e ?_ (I1.hok.fresh (Nat.le_refl _))
    have := repl_ints (F := F) (K := X.kw) ((List.range n).map fun (k : Nat) => a + (k : Int) * c)
    rw [List.map_map] at this ⊢
    rw [List.map_map] at this
    exact this
theorem lrng_some {vs : List PV} {res : Res} (h : bi1 .lrng vs = some res) : ∃ l, rng1 vs = some l ∧ l.length ≤ 16777216 ∧ res = .own (.lst l) := by
  have h : (match rng1 vs with | some l => (if l.length ≤ 16777216 then some (Res.own (.lst l)) else none) | none => none) = some res := h
  cases q : rng1 vs with
  | none => rw [q] at h; cases h
  | some l =>
    rw [q] at h
    simp only at h
    split at h
    · rename_i hl
      exact ⟨l, rfl, hl, (Option.some.inj h).symm⟩
    · cases h
theorem pe_lrng {a : Expr} {as : List Expr} {ta : TA} {p p2 q pos : Pos} (hc : X.calm = true) (hg : Gl X "list") (hm : X.mg "list" = none) (hg2 : Gl X "range") (hm2 : X.mg "range" = none) (hn : noStar (a :: as) = true) (ha : PA X (a :: as) ta)
    (na : starEach [.Call (.Name "range" p2) (a :: as) [] q] X.env = (false, eval (.Call (.Name "range" p2) (a :: as) [] q) X.env) :: starEach [] X.env := by rfl) :
    PE X (.Call (.Name "list" p) [.Call (.Name "range" p2) (a :: as) [] q] [] pos) (fun σ H Q => ta σ H fun xs H1 => rdN X.kw (bi1 .lrng) xs H1 Q) := by
  refine ⟨fun pins s σ H Q I h => ?_⟩
  refine Call_ (ld_blt I hg hm boot_list (PyProof.Rows.callWith_type1 (args_cons (thn (Q := fun r s1 => RgRun X pins σ Q r s1) ?_ fun r s1 hr => args_nil (rgrun_end hc hr)) na) na))
  refine Call_ (ld_blt I hg2 hm2 boot_range (PyProof.Rows.callWith_type1 (thn (ha.run q pins s σ H _ I h) fun us s1 ⟨xs, H1, I1, r1, q1⟩ => ?_) (noStar_each hn _) (noStar_any (noStar_cons hn).2).1))
  obtain ⟨F, ps, res, e, hp, hd, P⟩ := q1
  obtain ⟨l, hl, hlen, rfl⟩ := lrng_some hd
  match ps, hp, hl with
  | [.int j], hp, hl =>
    obtain ⟨x, rfl, hx⟩ := prl1 hp
    obtain rfl := hx.int
    have hl : (if small62 j then some (rangeL 0 j.toNat) else none) = some l := hl
    obtain ⟨hs, rfl⟩ := ite_some hl
    obtain ⟨v, rfl, t, rfl⟩ := vals1 r1
    obtain ⟨s1', s2'⟩ := small_of hs
    refine call_range_1 ⟨_, 0, j, 1, _, _, _, j.toNat, H1, F, _, rfl, IsRange.new _ _ _ _ _ _ _, I1.kept fun b u e => Heap.get?_push_of_some _ e, small_one (by omega) (by omega) s1' s2', by rw [rangeSize_nat]; simp, by simpa [rangeL] using hlen, e, ?_, P⟩
    simp [rangeL]
  | [.int i, .int j], hp, hl =>
    obtain ⟨x, y, rfl, hx, hy⟩ := prl2 hp
    obtain rfl := hx.int
    obtain rfl := hy.int
    have hl : (if (small62 i && small62 j) = true then some (rangeL i (j - i).toNat) else none) = some l := hl
    obtain ⟨hs, rfl⟩ := ite_some hl
    obtain ⟨h1, h2⟩ := and_tt hs
    obtain ⟨v, w, rfl, ⟨t, rfl⟩, ⟨t', rfl⟩⟩ := vals2 r1
    obtain ⟨s1', s2'⟩ := small_of h1
    obtain ⟨s3', s4'⟩ := small_of h2
    refine call_range_2 ⟨_, i, j, 1, _, _, _, (j - i).toNat, H1, F, _, rfl, IsRange.new _ _ _ _ _ _ _, I1.kept fun b u e => Heap.get?_push_of_some _ e, small_one s1' s2' s3' s4', rangeSize_nat i j, by simpa [rangeL] using hlen, e, ?_, P⟩
    simp [rangeL]
  | [.int i, .int j, .int c], hp, hl =>
    obtain ⟨x, y, z, rfl, hx, hy, hz⟩ := prl3 hp
    obtain rfl := hx.int
    obtain rfl := hy.int
    obtain rfl := hz.int
    have hl : (if (small62 i && small62 j && divOk c) = true then some ((List.range (rgN i j c)).map fun (k : Nat) => PV.int (i + (k : Int) * c)) else none) = some l := hl
    obtain ⟨hs, rfl⟩ := ite_some hl
    obtain ⟨h1, h3⟩ := and_tt hs
    obtain ⟨h1, h2⟩ := and_tt h1
    obtain ⟨d1, d2⟩ := divOk_c h3
    cases r1 with
    | cons r rr =>
      cases rr with
      | cons r' rr =>
        cases rr with
        | cons r'' rr =>
          cases rr
          obtain ⟨t, rfl⟩ := r
          obtain ⟨t', rfl⟩ := r'
          obtain ⟨t'', rfl⟩ := r''
          exact call_range_3 d1 ⟨_, i, j, c, _, _, _, rgN i j c, H1, F, _, rfl, IsRange.new _ _ _ _ _ _ _, I1.kept (t' := s1.toks) fun b u e => Heap.get?_push_of_some _ e, small_rg (small_of h1) (small_of h2) d1 d2, rgN_size d1, by simpa using hlen, e, rfl, P⟩ (.inl (PyProof.noPylong_small d2))
theorem e_lrng {f : Env → Option (List R × Env)} {a : Expr} {as : List Expr} {p p2 q pos : Pos} (hK : G.K = X.kw) (hc : X.calm = true) (hg : Gl X "list") (hm : X.mg "list" = none) (hg2 : Gl X "range") (hm2 : X.mg "range" = none) (hn : noStar (a :: as) = true) (ha : PA X (a :: as) (tA G f)) :
    PE X (.Call (.Name "list" p) [.Call (.Name "range" p2) (a :: as) [] q] [] pos) (tE G (fun ρ => match f ρ with
      | none => none
      | some (rs, ρ1) => (match pkL rs ρ1 with | none => none | some vs => (match bi1 .lrng vs with | none => none | some z => some (z.r, ρ1))))) := by
  refine e_args ?_
  rw [hK]
  exact pe_lrng hc hg hm hg2 hm2 hn ha
end
end Py

/-! Ps8: dict(a list of pairs), the keys of one leaf. -/
namespace Py
open PySem PySem.Spec PyProof.Rows L2
section
variable {X : Cx} {G : Gh} {σ : L2.St} {H H' : Hp} {ρ ρ' : Env} {F F' : Hp} {pos : Pos}
theorem pairs_some {x : PV} {r ks vs : List PV} (h : pairsOf (x :: r) = some (ks, vs)) : ∃ k v ks' vs', x = .tup [k, v] ∧ leafK k = true ∧ pairsOf r = some (ks', vs') ∧ ks = k :: ks' ∧ vs = v :: vs' := by
  unfold pairsOf at h
  split at h
  · rename_i k v
    split at h
    · rename_i ks' vs' q
      split at h
      · rename_i hl
        obtain ⟨rfl, rfl⟩ : k :: ks' = ks ∧ v :: vs' = vs := by simpa using h
        exact ⟨k, v, ks', vs', rfl, hl, q, rfl, rfl⟩
      · cases h
    · cases h
  · cases h
/-- the pairs in the heap -/
theorem prs_rel {pins : List (Addr × Obj)} {s : Shared} (I : Inv X pins σ H s) (e : Ext F H) : ∀ {xs : List V} {l ks vs : List PV} {its : List Value}, RepL X.kw F xs l → Vals xs its → pairsOf l = some (ks, vs) →
    ∃ (bs : List Addr) (ps : List (Value × Value)) (kvs : List (Key × V)) (ws : List (Key × Value)), its = bs.map Value.ref ∧ bs.length = ps.length ∧ (∀ (j : Nat) k v, ps[j]? = some (k, v) → ∃ b, bs[j]? = some b ∧ PairAt s.heap b k v) ∧ KV kvs ws ∧ ws.length = ps.length ∧
      (∀ (j : Nat) k v, ps[j]? = some (k, v) → ∃ kk, ws[j]? = some (kk, v) ∧ keyIs kk k = true) ∧ kvs.map (fun kv => some kv.1) = ks.map keyOf ∧ RepL X.kw F (kvs.map (·.2)) vs ∧ kvs.length = l.length
  | [], [], ks, vs, [], .nil, .nil, h => by
    obtain ⟨rfl, rfl⟩ : [] = ks ∧ [] = vs := by simpa [pairsOf] using h
    exact ⟨[], [], [], [], rfl, rfl, fun j k v q => by simp at q, .nil, rfl, fun j k v q => by simp at q, rfl, .nil, rfl⟩
  | x :: xs, p :: l, ks, vs, u :: its, .cons r rs, .cons w ws0, h => by
    obtain ⟨k, v, ks', vs', rfl, hl, hq, rfl, rfl⟩ := pairs_some h
    obtain ⟨bs, ps, kvs, ws, q1, q2, q3, q4, q5, q6, q7, q8, q9⟩ := prs_rel I e rs ws0 hq
    obtain ⟨b, ys, rfl, hT, ry⟩ := PR.tup (H := H) (.inl r)
    obtain ⟨it2, v2, t2, _⟩ := I.tuple (show SqT X.K H b ys from e.seqT hT)
    cases w
    cases ry with
    | cons rk ry1 =>
      cases ry1 with
      | cons rv ry2 =>
        cases ry2
        cases v2 with
        | cons uk v21 =>
          cases v21 with
          | cons uv v22 =>
            cases v22
            rename_i yv yk zk zv
            obtain ⟨kk, hk, rfl⟩ := leaf_key (H := H) hl (.inl rk)
            have hkey : keyIs kk zk = true := by
              cases kk with
              | inl i => obtain ⟨t, rfl⟩ := uk; exact keyIs_int i t
              | inr z => obtain ⟨t, rfl⟩ := uk; exact keyIs_str z t
            refine ⟨b :: bs, (zk, zv) :: ps, (kk, yv) :: kvs, (kk, zv) :: ws, by rw [q1]; rfl, by simp [q2], ?_, .cons ⟨rfl, uv⟩ q4, by simp [q5], ?_, ?_, .cons rv q8, by simp [q9]⟩
            · intro j k' v' hj
              cases j with
              | zero =>
                obtain ⟨rfl, rfl⟩ : zk = k' ∧ zv = v' := by simpa using hj
                exact ⟨b, rfl, .inl t2⟩
              | succ j =>
                obtain ⟨b', h1, h2⟩ := q3 j k' v' (by simpa using hj)
                exact ⟨b', by simpa using h1, h2⟩
            · intro j k' v' hj
              cases j with
              | zero =>
                obtain ⟨rfl, rfl⟩ : zk = k' ∧ zv = v' := by simpa using hj
                exact ⟨kk, rfl, hkey⟩
              | succ j =>
                obtain ⟨kk', h1, h2⟩ := q6 j k' v' (by simpa using hj)
                exact ⟨kk', by simpa using h1, h2⟩
            · rw [List.map_cons, List.map_cons, q7, hk]
theorem key_eqv {k y : PV} (hk : leafK k = true) (hy : leafK y = true) (e : keyOf y = keyOf k) : eqv k y = true := by
  cases k with
  | int i =>
    cases y with
    | int j =>
      have e2 : (Sum.inl j : Key) = Sum.inl i := Option.some.inj e
      obtain rfl := Sum.inl.inj e2
      simp [eqv]
    | str t =>
      have hy : okSb t = true := hy
      have e2 : (if okSb t = true then some (Sum.inr (strP t) : Key) else none) = some (Sum.inl i) := e
      rw [if_pos hy] at e2
      cases e2
    | _ => cases hy
  | str z =>
    have hk : okSb z = true := hk
    cases y with
    | int j =>
      have e2 : some (Sum.inl j : Key) = (if okSb z = true then some (Sum.inr (strP z) : Key) else none) := e
      rw [if_pos hk] at e2
      cases e2
    | str t =>
      have hy : okSb t = true := hy
      have e2 : (if okSb t = true then some (Sum.inr (strP t) : Key) else none) = (if okSb z = true then some (Sum.inr (strP z) : Key) else none) := e
      rw [if_pos hy, if_pos hk] at e2
      obtain rfl := strP_inj (Sum.inr.inj (Option.some.inj e2))
      simp [eqv]
    | _ => cases hy
  | _ => cases hk
theorem diff_keys : ∀ {ks : List PV} {kvs : List (Key × V)}, ks.all leafK = true → diffL ks = true → kvs.map (fun kv => some kv.1) = ks.map keyOf → (kvs.map (·.1)).Nodup
  | [], [], _, _, _ => List.nodup_nil
  | k :: ks, kv :: kvs, hl, hd, h => by
    rw [List.map_cons, List.map_cons] at h
    injection h with h1 h2
    rw [List.all_cons, Bool.and_eq_true] at hl
    unfold diffL at hd
    rw [Bool.and_eq_true] at hd
    rw [List.map_cons]
    refine List.nodup_cons.mpr ⟨fun hm => ?_, diff_keys hl.2 hd.2 h2⟩
    obtain ⟨q, hq, e⟩ := List.mem_map.mp hm
    have hq' : some q.1 ∈ ks.map keyOf := by rw [← h2]; exact List.mem_map.mpr ⟨q, hq, rfl⟩
    obtain ⟨y, hy, e2⟩ := List.mem_map.mp hq'
    have hy1 := List.all_eq_true.mp hd.1 y hy
    have hy2 := List.all_eq_true.mp hl.2 y hy
    have e3 : keyOf y = keyOf k := by rw [e2, ← h1, e]
    have : eqv k y = true := key_eqv hl.1 hy2 e3
    rw [this] at hy1
    cases hy1
  | [], _ :: _, _, _, h => by cases h
  | _ :: _, [], _, _, h => by cases h
theorem pairs_leaf : ∀ {l ks vs : List PV}, pairsOf l = some (ks, vs) → ks.all leafK = true
  | [], ks, vs, h => by
    obtain ⟨rfl, rfl⟩ : [] = ks ∧ [] = vs := by simpa [pairsOf] using h
    rfl
  | x :: l, ks, vs, h => by
    obtain ⟨k, v, ks', vs', rfl, hl, hq, rfl, rfl⟩ := pairs_some h
    rw [List.all_cons, hl, pairs_leaf hq]; rfl
theorem pairsT_some {x : PV} {r ks vs : List PV} (h : pairsT (x :: r) = some (ks, vs)) : ∃ k v ks' vs', x = .tup [k, v] ∧ isTupP k = true ∧ pairsT r = some (ks', vs') ∧ ks = k :: ks' ∧ vs = v :: vs' := by
  unfold pairsT at h
  split at h
  · rename_i k v
    split at h
    · rename_i ks' vs' q
      split at h
      · rename_i hl
        obtain ⟨rfl, rfl⟩ : k :: ks' = ks ∧ v :: vs' = vs := by simpa using h
        exact ⟨k, v, ks', vs', rfl, hl, q, rfl, rfl⟩
      · cases h
    · cases h
  · cases h
theorem pairsT_tup : ∀ {l ks vs : List PV}, pairsT l = some (ks, vs) → ks.all isTupP = true
  | [], ks, vs, h => by
    obtain ⟨rfl, rfl⟩ : [] = ks ∧ [] = vs := by simpa [pairsT] using h
    rfl
  | x :: l, ks, vs, h => by
    obtain ⟨k, v, ks', vs', rfl, hl, hq, rfl, rfl⟩ := pairsT_some h
    rw [List.all_cons, hl, pairsT_tup hq]; rfl
/-- pairs whose keys are tuples, in the heap -/
theorem prs_relT {pins : List (Addr × Obj)} {s : Shared} (I : Inv X pins σ H s) (e : Ext F H) : ∀ {xs : List V} {l ks vs : List PV} {its : List Value}, RepL X.kw F xs l → Vals xs its → pairsT l = some (ks, vs) →
    ∃ (cs : List Addr) (ps : List (Value × Value)) (es : Xs) (bs ys : List V), its = cs.map Value.ref ∧ cs.length = ps.length ∧ (∀ (j : Nat) k v, ps[j]? = some (k, v) → ∃ b, cs[j]? = some b ∧ PairAt s.heap b k v) ∧ es.length = ps.length ∧
      (∀ (j : Nat) k v, ps[j]? = some (k, v) → ∃ kk b, es[j]? = some (kk, b, v) ∧ k = .ref b) ∧ Ent ks bs ys es ∧ RepL X.kw F bs ks ∧ RepL X.kw F ys vs ∧ ps.length = l.length
  | [], [], ks, vs, [], .nil, .nil, h => by
    obtain ⟨rfl, rfl⟩ : [] = ks ∧ [] = vs := by simpa [pairsT] using h
    exact ⟨[], [], [], [], [], rfl, rfl, fun j k v q => by simp at q, rfl, fun j k v q => by simp at q, .nil, .nil, .nil, rfl⟩
  | x :: xs, p :: l, ks, vs, u :: its, .cons r rs, .cons w ws0, h => by
    obtain ⟨k, v, ks', vs', rfl, hl, hq, rfl, rfl⟩ := pairsT_some h
    obtain ⟨cs, ps, es, bs, ys, q1, q2, q3, q4, q5, q6, q7, q8, q9⟩ := prs_relT I e rs ws0 hq
    obtain ⟨b, zs, rfl, hT, ry⟩ := PR.tup (H := H) (.inl r)
    obtain ⟨it2, v2, t2, _⟩ := I.tuple (show SqT X.K H b zs from e.seqT hT)
    cases w
    cases ry with
    | cons rk ry1 =>
      cases ry1 with
      | cons rv ry2 =>
        cases ry2
        cases v2 with
        | cons uk v21 =>
          cases v21 with
          | cons uv v22 =>
            cases v22
            rename_i yv yk zk zv
            obtain ⟨kb, rfl⟩ := isTup_ref hl rk
            cases uk
            refine ⟨b :: cs, (.ref kb, zv) :: ps, (nk k, kb, zv) :: es, .ref kb :: bs, yv :: ys, by rw [q1]; rfl, by simp [q2], ?_, by simp [q4], ?_, .cons uv q6, .cons rk q7, .cons rv q8, by simp [q9]⟩
            · intro j k' v' hj
              cases j with
              | zero =>
                obtain ⟨rfl, rfl⟩ : Value.ref kb = k' ∧ zv = v' := by simpa using hj
                exact ⟨b, rfl, .inl t2⟩
              | succ j =>
                obtain ⟨b', h1, h2⟩ := q3 j k' v' (by simpa using hj)
                exact ⟨b', by simpa using h1, h2⟩
            · intro j k' v' hj
              cases j with
              | zero =>
                obtain ⟨rfl, rfl⟩ : Value.ref kb = k' ∧ zv = v' := by simpa using hj
                exact ⟨nk k, kb, rfl, rfl⟩
              | succ j =>
                obtain ⟨kk', b', h1, h2⟩ := q5 j k' v' (by simpa using hj)
                exact ⟨kk', b', by simpa using h1, h2⟩
theorem dprsT_end (hu : X.A.units + 65 < cLine) (hc : X.calm = true) {pins : List (Addr × Obj)} {s : Shared} (I : Inv X pins σ H s) (e : Ext F H) {x : V} {u : Value} {l : List PV} {res : Res} {Q : VK} (hx : PR X.kw F H x (.lst l)) (r : RelV x u) (hd : dprsT l = some res) (P : Post X.kw F H res Q) : wpAny (model X.prog X.w) X.A (call (.type "dict") [u]) (EP X pins σ Q) X.xe s := by
  unfold dprsT at hd
  cases hq : pairsT l with
  | none => rw [hq] at hd; cases hd
  | some kv =>
    obtain ⟨ks, vs⟩ := kv
    rw [hq] at hd
    simp only at hd
    by_cases hz : (diffL ks && decide (l.length ≤ 1000000)) = true
    · rw [if_pos hz] at hd
      obtain rfl := Option.some.inj hd
      rw [Bool.and_eq_true] at hz
      have hlen := of_decide_eq_true hz.2
      obtain ⟨a, xs, rfl, hH, rr⟩ := hx.lst e
      cases r
      obtain ⟨its, rv, pl, _⟩ := I.list (SqL.of hH)
      obtain ⟨cs, ps, es, bs, ys, q1, q2, q3, q4, q5, q6, q7, q8, q9⟩ := prs_relT I e rr rv hq
      have ht := pairsT_tup hq
      have nd := diff_nodup ks ht hz.1
      have hsz := sizeLine_eq
      have his := q6.is I e q7 ht
      refine call_dict_pairsH (knd := nestedKind X.prog X.w) (ps := es) (PairArg.list a its.toArray (fun j => cs.getD j 0) ps) (I.ok.hd hc) (by show X.A.units + 2 + 8 < cLine; omega) ⟨pl, ⟨by rw [q1]; simp [q2], fun j k v hj => ?_⟩⟩ ⟨q4, fun j k v hj => ?_⟩ ?_ (by omega) fun h' tk hd' hk => ?_
      · obtain ⟨b, h1, h2⟩ := q3 j k v hj
        have e1 : cs.getD j 0 = b := by rw [List.getD_eq_getElem?_getD, h1]; rfl
        show its.toArray[j]? = some (.ref (cs.getD j 0)) ∧ PairAt s.heap (cs.getD j 0) k v
        rw [e1]
        refine ⟨?_, h2⟩
        rw [q1]
        simp [h1]
      · exact q5 j k v hj
      · exact fun h' hk y hy => nestedKind_stays.stays (fun b o _ _ g _ => hk b o (Nat.ne_of_lt (Heap.lt_size g)) (fun z => by cases z) g) (his y hy)
      · have hbig : (s.heap.objs.size == sysModules) = false := beq_eq_false_iff_ne.mpr (Ne.symm (Nat.ne_of_lt I.big))
        have em : storedAllH [] es = es := by
          rw [stored_nodup es [] (by rw [List.map_nil, List.nil_append, q6.fst]; exact nd), List.nil_append]
        rw [em] at hd'
        refine ⟨.ref s.heap.objs.size, upd H s.heap.objs.size (.ext (dEx s.heap.objs.size X.w es)), I.laid (fun b o => hk b o (by simp)) (Nat.le_refl _) (dEx_obj (P := X.prog) hbig hd'), rfl, ?_⟩
        exact P.newDT e ⟨rfl, es, by rw [upd_same], q6, nd, ht⟩ q7 q8 (I.hok.fresh (Nat.le_refl _))
    · rw [if_neg hz] at hd; cases hd
theorem dprs_end (hu : X.A.units + 65 < cLine) (hc : X.calm = true) {pins : List (Addr × Obj)} {s : Shared} (I : Inv X pins σ H s) (e : Ext F H) {x : V} {u : Value} {px : PV} {res : Res} {Q : VK} (hx : PR X.kw F H x px) (r : RelV x u) (hd : dprs1 px = some res) (P : Post X.kw F H res Q) : wpAny (model X.prog X.w) X.A (call (.type "dict") [u]) (EP X pins σ Q) X.xe s := by
  cases px with
  | lst l =>
    have hd : (match pairsOf l with | some (ks, vs) => if (diffL ks && decide (l.length ≤ 1000000)) = true then some (Res.own (.dict false ks vs)) else none | none => dprsT l) = some res := hd
    cases hq : pairsOf l with
    | none => rw [hq] at hd; exact dprsT_end hu hc I e hx r hd P
    | some kv =>
      obtain ⟨ks, vs⟩ := kv
      rw [hq] at hd
      simp only at hd
      by_cases hz : (diffL ks && decide (l.length ≤ 1000000)) = true
      · rw [if_pos hz] at hd
        obtain rfl := Option.some.inj hd
        rw [Bool.and_eq_true] at hz
        have hlen := of_decide_eq_true hz.2
        obtain ⟨a, xs, rfl, hH, rr⟩ := hx.lst e
        cases r
        obtain ⟨its, rv, pl, _⟩ := I.list (SqL.of hH)
        obtain ⟨bs, ps, kvs, ws, q1, q2, q3, q4, q5, q6, q7, q8, q9⟩ := prs_rel I e rr rv hq
        have hn : (kvs.map (·.1)).Nodup := diff_keys (pairs_leaf hq) hz.1 q7
        have hm : mergeK [] kvs = kvs := by
          rw [merge_nodup kvs [] (by simpa using hn)]; rfl
        have hps : ps.length = l.length := by
          have h1 := rv.length
          have h2 := rr.length
          rw [q1, List.length_map] at h1
          omega
        have hsz := sizeLine_eq
        refine call_dict_pairs (knd := mixKind X.prog X.w) (kvs := ws) (PairArg.list a its.toArray (fun j => bs.getD j 0) ps) (I.ok.hd hc) ⟨pl, ⟨by rw [q1]; simp [q2], fun j k v hj => ?_⟩⟩ ⟨q5, fun j k v hj => ?_⟩ (by omega) fun h' tk hd' hk => ?_
        · obtain ⟨b, h1, h2⟩ := q3 j k v hj
          have e1 : bs.getD j 0 = b := by rw [List.getD_eq_getElem?_getD, h1]; rfl
          show its.toArray[j]? = some (.ref (bs.getD j 0)) ∧ PairAt s.heap (bs.getD j 0) k v
          rw [e1]
          refine ⟨?_, h2⟩
          rw [q1]
          simp [h1]
        · exact q6 j k v hj
        · have hz2 : kvs.length ≤ sizeLine := by rw [hsz]; omega
          have hbig : (s.heap.objs.size == sysModules) = false := beq_eq_false_iff_ne.mpr (Ne.symm (Nat.ne_of_lt I.big))
          have km : KV kvs (merged [] ws) := by
            have := KV.merge (kvs := []) (vs := []) q4 .nil
            rw [hm] at this
            exact this
          refine ⟨.ref s.heap.objs.size, upd H s.heap.objs.size (.dK kvs), I.laid (fun b o => hk b o (by simp)) (Nat.le_refl _) (show ObjOk X.prog X.w _ _ _ (.dK _) from ⟨hz2, hbig, _, km, hd'⟩), rfl, ?_⟩
          exact P.newD e (o := .dK _) ⟨rfl, _, upd_same, q7, rfl⟩ q8 (I.hok.fresh (Nat.le_refl _))
      · rw [if_neg hz] at hd; cases hd
  | _ => cases hd
theorem pe_dprs {a : Expr} {te : TE} {p : Pos} (hu : X.A.units + 65 < cLine) (hc : X.calm = true) (hg : Gl X "dict") (hm : X.mg "dict" = none) (ns : isStar a = false) (ha : PE X a te)
    (na : starEach [a] X.env = (false, eval a X.env) :: starEach [] X.env) :
    PE X (.Call (.Name "dict" p) [a] [] pos) (fun σ H Q => te σ H fun x H1 => rd1 X.kw dprs1 x H1 Q) := by
  refine ⟨fun pins s σ H Q I h => ?_⟩
  refine Call_ (ld_blt I hg hm boot_dict (PyProof.Rows.callWith_type1 (args_cons (thn (ha.run pins s σ H _ I h) fun u s1 ⟨x, H1, I1, r1, q1⟩ => args_nil ?_) na) na))
  obtain ⟨F, px, res, e, hx, hd, P⟩ := q1
  exact dprs_end hu hc I1 e hx r1 hd P
theorem star_one {a : Expr} {env : PySem.Env} (h : isStar a = false) : starEach [a] env = (false, eval a env) :: starEach [] env := by
  cases a <;> first | rfl | cases h
theorem e_dprs {a : Expr} {fa : Env → Option (R × Env)} {p : Pos} (hK : G.K = X.kw) (hu : X.A.units + 65 < cLine) (hc : X.calm = true) (hg : Gl X "dict") (hm : X.mg "dict" = none) (ns : isStar a = false) (he : PE X a (tE G fa)) : PE X (.Call (.Name "dict" p) [a] [] pos)
    (tE G (fun ρ => match fa ρ with
      | none => none
      | some (r, ρ1) => (match pk r ρ1 with | none => none | some x => (match dprs1 x with | none => none | some z => some (z.r, ρ1))))) := by
  have h := pe_dprs (p := p) (pos := pos) hu hc hg hm ns he (star_one ns)
  rw [← hK] at h
  exact e_one h
end
end Py

/-! Ps9: repr of plain data, where no guard is held. -/
namespace Py
open PySem PySem.Spec PyProof.Rows L2
section
variable {X : Cx} {G : Gh} {σ : L2.St} {H H' : Hp} {ρ ρ' : Env} {F F' : Hp} {pos : Pos}
mutual
theorem wgt_dat : ∀ p : PV, smI p = true → (dat p).weight ≤ wgtV p
  | .non, _ => Nat.le_refl _
  | .bl _, _ => Nat.le_refl _
  | .int i, h => by
    have h : i.natAbs < 100000000000 := of_decide_eq_true h
    show (if (i == 0) = true then 0 else i.natAbs.log2 + 1) ≤ 64
    by_cases c : (i == 0) = true
    · rw [if_pos c]; omega
    · rw [if_neg c]
      have hz : i.natAbs ≠ 0 := fun z => c (by simp; omega)
      have : i.natAbs.log2 < 37 := (Nat.log2_lt hz).mpr (Nat.lt_trans h (by decide))
      omega
  | .str s, _ => by
    show (strP s).cps.size ≤ s.length
    simp [strP]
  | .tup l, h => wgt_datL l h
  | .lst l, h => wgt_datL l h
  | .dict _ _ _, h => by cases h
  | .set _, h => by cases h
  | .scr _, h => by cases h
theorem wgt_datL : ∀ l : List PV, smL l = true → PyData.weightAll (datL l) ≤ wgtL l
  | [], _ => Nat.le_refl _
  | x :: xs, h => by
    have h : (smI x && smL xs) = true := h
    rw [Bool.and_eq_true] at h
    have h1 := wgt_dat x h.1
    have h2 := wgt_datL xs h.2
    show (dat x).weight + 1 + PyData.weightAll (datL xs) ≤ wgtV x + 1 + wgtL xs
    omega
end
mutual
theorem sm_dat : ∀ p : PV, smI p = true → (dat p).intsShort 13 = true ∧ (dat p).showable = true ∧ (dat p).hasDict = false
  | .non, _ => ⟨rfl, rfl, rfl⟩
  | .bl _, _ => ⟨rfl, rfl, rfl⟩
  | .int i, h => by
    have h : i.natAbs < 100000000000 := of_decide_eq_true h
    refine ⟨decide_eq_true (PyData.shown_int_le (Nat.lt_trans h (by decide))), decide_eq_true ?_, rfl⟩
    by_cases hz : i.natAbs = 0
    · rw [hz]; decide
    · have : i.natAbs.log2 < 37 := (Nat.log2_lt hz).mpr (Nat.lt_trans h (by decide))
      omega
  | .str s, _ => ⟨rfl, rfl, rfl⟩
  | .tup l, h => sm_datL l h
  | .lst l, h => sm_datL l h
  | .dict _ _ _, h => by cases h
  | .set _, h => by cases h
  | .scr _, h => by cases h
theorem sm_datL : ∀ l : List PV, smL l = true → PyData.intsShortAll 13 (datL l) = true ∧ PyData.showableAll (datL l) = true ∧ PyData.hasDictAll (datL l) = false
  | [], _ => ⟨rfl, rfl, rfl⟩
  | x :: xs, h => by
    have h : (smI x && smL xs) = true := h
    rw [Bool.and_eq_true] at h
    obtain ⟨a1, a2, a3⟩ := sm_dat x h.1
    obtain ⟨b1, b2, b3⟩ := sm_datL xs h.2
    refine ⟨?_, ?_, ?_⟩
    · show (PyData.intsShort 13 (dat x) && PyData.intsShortAll 13 (datL xs)) = true
      rw [a1, b1]; rfl
    · show (PyData.showable (dat x) && PyData.showableAll (datL xs)) = true
      rw [a2, b2]; rfl
    · show (PyData.hasDict (dat x) || PyData.hasDictAll (datL xs)) = false
      rw [a3, b3]; rfl
end
theorem rpr_end (hg : X.A.guards = some []) (hu : X.A.units + 65 < cLine) {pins : List (Addr × Obj)} {s : Shared} (I : Inv X pins σ H s) (e : Ext F H) {x : V} {u : Value} {px : PV} {res : Res} {Q : VK} (hx : PR X.kw F H x px) (r : RelV x u) (hd : rpr1 px = some res) (P : Post X.kw F H res Q) :
    wpAny (model X.prog X.w) X.A (call (.builtin "repr") [u]) (EP X pins σ Q) X.xe s := by
  have hd : (if rpOk px = true then some (Res.sh (.set [.non, px])) else none) = some res := hd
  obtain ⟨ho, rfl⟩ := ite_some hd
  unfold rpOk at ho
  obtain ⟨ho, h3⟩ := and_tt ho
  obtain ⟨h1, h2⟩ := and_tt ho
  have h3 := of_decide_eq_true h3
  obtain ⟨d1, d2, d3⟩ := hx.dp e h1
  obtain ⟨s1, s2, s3⟩ := sm_dat px h2
  have hw := wgt_dat px h2
  have hl : PyData.layable0 (dat px) = true := by
    unfold PyData.layable0
    rw [d2, decide_eq_true (by omega), decide_eq_true (show (dat px).weight ≤ 2 ^ 20 by have : (2 : Nat) ^ 20 = 1048576 := rfl; omega)]
    rfl
  have hz : (dat px).shown.length ≤ sizeLine := PyData.shown_fits_of_layable0 (by decide) (by decide) hl s1
  have fin : ∀ (h' : Heap) (tok tk : Tok), (∀ b o, s.heap.get? b = some o → h'.get? b = some o) → EP X pins σ Q (.str (dat px).shown tok) { s with heap := h', toks := tk } := fun h' tok tk hk =>
    ⟨.str (dat px).shown, H, I.kept (fun b o => hk b o), ⟨tok, rfl⟩, P.sh e (.rpr rfl)⟩
  cases px with
  | non =>
    obtain rfl := hx.non
    cases r
    exact PySem.P.repr_of_none (fin _ _ _ fun _ _ q => q)
  | bl b =>
    obtain rfl := hx.bl
    cases r
    exact PySem.P.repr_of_bool (fin _ _ _ fun _ _ q => q)
  | int i =>
    obtain rfl := hx.int
    obtain ⟨t, rfl⟩ := r
    exact PySem.P.repr_of_int (of_decide_eq_true s2) (fin _ _ _ fun _ _ q => q)
  | str z =>
    obtain ⟨rfl, _⟩ := hx.str
    obtain ⟨t, rfl⟩ := r
    exact PySem.P.repr_of_str (fin _ _ _ fun _ _ q => q) hz
  | tup l =>
    obtain ⟨a, xs, rfl, q1, q2⟩ := hx.tup
    cases r
    obtain ⟨as, rd⟩ := Dp.reads I (dat (.tup l)) (.ref a) (.ref a) d1 rfl
    exact repr_of_reads' rd s2 (fun z => by rw [s3] at z; cases z) hg (by have : (dat (.tup l)).depth ≤ 20 := d3; omega) (fun _ _ q => q) (fun h' tok tk hk => fin h' tok tk hk) hz
  | lst l =>
    obtain ⟨a, xs, rfl, q1, q2⟩ := hx.lst e
    cases r
    obtain ⟨as, rd⟩ := Dp.reads I (dat (.lst l)) (.ref a) (.ref a) d1 rfl
    exact repr_of_reads' rd s2 (fun z => by rw [s3] at z; cases z) hg (by have : (dat (.lst l)).depth ≤ 20 := d3; omega) (fun _ _ q => q) (fun h' tok tk hk => fin h' tok tk hk) hz
  | dict _ _ _ => cases h2
  | set _ => cases h2
  | scr _ => cases h2
theorem pe_rpr {a : Expr} {te : TE} {p : Pos} (hgd : X.A.guards = some []) (hu : X.A.units + 65 < cLine) (hg : Gl X "repr") (hm : X.mg "repr" = none) (ns : isStar a = false) (ha : PE X a te)
    (na : starEach [a] X.env = (false, eval a X.env) :: starEach [] X.env) :
    PE X (.Call (.Name "repr" p) [a] [] pos) (fun σ H Q => te σ H fun x H1 => rd1 X.kw rpr1 x H1 Q) := by
  have h := pe_callB (X := X) (pos := pos) (p := p) (id := "repr") (t := tCons te tNil) (r := fun xs H Q => ∃ x, xs = [x] ∧ rd1 X.kw rpr1 x H Q) (fun pins s σ H xs us Q I rv hh => by
    obtain ⟨x, rfl, F, px, res, e, hx, hd, P⟩ := hh
    obtain ⟨u, rfl, ru⟩ := vals1 rv
    exact rpr_end hgd hu I e hx ru hd P) hg hm (by decide +kernel) (pa_cons ha pa_nil na) (by decide +kernel) (by decide +kernel) na rfl
  refine pe_weak h fun σ H Q q => ?_
  have e : (fun x H1 => ∃ y, [x] = [y] ∧ rd1 X.kw rpr1 y H1 Q) = fun x H1 => rd1 X.kw rpr1 x H1 Q := funext fun x => funext fun H1 => propext ⟨fun ⟨y, e, z⟩ => by cases e; exact z, fun z => ⟨x, rfl, z⟩⟩
  show te σ H (fun x H1 => ∃ y, [x] = [y] ∧ rd1 X.kw rpr1 y H1 Q)
  rw [e]
  exact q
theorem e_rpr {a : Expr} {fa : Env → Option (R × Env)} {p : Pos} (hK : G.K = X.kw) (hgd : X.A.guards = some []) (hu : X.A.units + 65 < cLine) (hg : Gl X "repr") (hm : X.mg "repr" = none) (ns : isStar a = false) (he : PE X a (tE G fa)) : PE X (.Call (.Name "repr" p) [a] [] pos)
    (tE G (fun ρ => match fa ρ with
      | none => none
      | some (r, ρ1) => (match pk r ρ1 with | none => none | some x => (match rpr1 x with | none => none | some z => some (z.r, ρ1))))) := by
  have h := pe_rpr (p := p) (pos := pos) hgd hu hg hm ns he (star_one ns)
  rw [← hK] at h
  exact e_one h
end
end Py

/-! Pv14: the check that an expression of the small language is that of the text. -/
namespace Py
open PySem PySem.Spec PyProof.Rows L2

/-- what is known of a def's text -/
structure Ck where
  N : List Str
  sc : Scope
  fnOk : Str → Bool
  globs : List Str
  fns : List Str
def Ck.blk (C : Ck) (scope : Scope) : Ck := { C with sc := relS scope C.sc, fnOk := fun x => scope.names.lookup x == some .cell }
def bltNames : List Str := ["len", "abs", "int", "str", "min", "max", "sum", "sorted", "tuple", "list", "all", "any", "bool", "isinstance", "range", "zip", "set", "dict", "repr"]
structure Cok (Φ : Tab) (C : Ck) (X : Cx) (G : Gh) : Prop where
  hN : X.N = C.N
  nd : C.N.Nodup
  sc : X.env.scope = C.sc
  K : G.K = X.kw
  calm : X.calm = true
  un : X.A.units + 65 < cLine
  gd : X.A.guards = some []
  io : IoOk G Φ
  fn : ∀ x, C.fnOk x = true → X.fn x = true
  blt : ∀ x ∈ bltNames, X.mg x = none
  gl : ∀ g v, Φ.glob g = some v → ∃ x u y, C.globs[g]? = some x ∧ X.mg x = some u ∧ RelV y u ∧ Rep X.kw (fun _ => none) y v
  def' : ∀ k d, Φ.fn k = some d → ∃ x, C.fns[k]? = some x ∧ DefAt X x d.np d
theorem Cok.block {Φ : Tab} {C : Ck} {X : Cx} {G G' : Gh} (c : Cok Φ C X G) (hs : Sib G G') (scope : Scope) (s : Shared) (H : Hp) (A : Addr) (cl : List (Str × Addr)) (fp : List Addr) : Cok Φ (C.blk scope) (X.blk s H scope (compEnvC scope cl A X.env) fp) G' where
  hN := c.hN
  nd := c.nd
  sc := by
    show (compEnvC scope cl A X.env).scope = relS scope C.sc
    rw [← c.sc]
    rfl
  K := by rw [hs.1]; exact c.K
  calm := c.calm
  un := c.un
  gd := c.gd
  io := fun a h => c.io a (by rw [hs.2] at h; exact h)
  fn := fun x h => h
  blt := c.blt
  gl := c.gl
  def' := fun k d h => by
    obtain ⟨x, h1, h2⟩ := c.def' k d h
    exact ⟨x, h1, ⟨h2.ex⟩⟩

/-! ### the parts of the check -/
def visB (sc : Scope) (x : Str) : Bool := match sc.names.lookup x with
  | some .local => true
  | some .cell => true
  | some .free => true
  | _ => false
def okVar (C : Ck) (i : Nat) (x : Str) : Bool := decide (C.N[i]? = some x) && visB C.sc x && !(x == ("__debug__" : Str)) && !(x == ("__classdict__" : Str))
def okGl (C : Ck) (x : Str) : Bool := decide (C.sc.names.lookup x = some .globalImplicit) && !(x == ("__debug__" : Str))
def okBl (C : Ck) (x y : Str) : Bool := decide (x = y) && decide (C.sc.names.lookup x = some .globalImplicit)
def okS (s : List Nat) : Bool := decide (s.length ≤ line) && s.all fun c => decide (c < 1114112)
def conB (v : PV) (e : Expr) : Bool := match e with
  | .Constant .none _ _ => (match v with | .non => true | _ => false)
  | .Constant (.bool b) _ _ => (match v with | .bl c => b == c | _ => false)
  | .Constant (.int i) _ _ => (match v with | .int j => decide (i = j) | _ => false)
  | .Constant (.str x) _ _ => (match v with | .str s => decide (x = strP s) && okS s | _ => false)
  | _ => false
def isSlice : Expr → Bool
  | .Slice _ _ _ _ => true
  | _ => false
def isSet : Expr → Bool
  | .Set _ _ _ => true
  | _ => false
def isTup : Expr → Bool
  | .Tuple _ _ _ => true
  | _ => false
def blkB (C : Ck) (scope : Scope) (own : List Nat) : Bool :=
  decide (scope.kind = .function) && scope.names.all (fun y => decide (scope.names.lookup y.1 = some y.2)) && own.all (fun i => decide (i < C.N.length)) &&
  scope.names.all (fun y => if y.2 = .free then decide (C.sc.names.lookup y.1 = some .cell) || decide (C.sc.names.lookup y.1 = some .free)
    else if y.2 = .local ∨ y.2 = .cell then decide (y.1 ∈ own.map fun i => C.N.getD i "") || decide (y.1 ∉ C.N) else true)
mutual
/-- a target, its slots among is (where is: not asked) -/
def chkT (C : Ck) : T → Expr → Bool
  | .name i, e => (match e with
    | .Name x _ => decide (C.N[i]? = some x) && (decide (C.sc.names.lookup x = some .local) || (decide (C.sc.names.lookup x = some .cell) && C.fnOk x))
    | _ => false)
  | .tup ts, e => (match e with | .Tuple es _ _ => noStar es && chkTs C ts es | _ => false)
def chkTs (C : Ck) : List T → List Expr → Bool
  | [], es => (match es with | [] => true | _ :: _ => false)
  | t :: ts, es => (match es with | [] => false | e :: es => chkT C t e && chkTs C ts es)
end
mutual
def slotsT : T → List Nat
  | .name i => [i]
  | .tup ts => slotsTs ts
def slotsTs : List T → List Nat
  | [] => []
  | t :: ts => slotsT t ++ slotsTs ts
end
def lineOk (apos cpos : Pos) : Bool := apos.endLine == cpos.line
/-- the keys of a written dict -/
def keysB : List (List Nat) → List (Option Expr) → Bool
  | [], es => (match es with | [] => true | _ :: _ => false)
  | k :: ks, es => (match es with | some (.Constant (.str x) _ _) :: es => decide (x = strP k) && keysB ks es | _ => false)
mutual
def chkE (C : Ck) : E → Expr → Bool
  | .var i, e => (match e with | .Name x _ => okVar C i x | _ => false)
  | .con v, e => conB v e
  | .glob g, e => (match e with | .Name x _ => decide (C.globs[g]? = some x) && okGl C x | _ => false)
  | .tup es, e => (match e with | .Tuple as _ _ => chkEs C es as | _ => false)
  | .lst es, e => (match e with | .List as _ => chkEs C es as | _ => false)
  | .un o a, e => (match e with | .UnaryOp o' a' _ => decide (o' = uop o) && chkE C a a' | _ => false)
  | .bin o a b, e => (match e with | .BinOp a' o' b' _ => decide (o' = bop o) && chkE C a a' && chkE C b b' | _ => false)
  | .cmp o a b, e => (match e with | .Compare a' [o'] [b'] _ => decide (o' = cop o) && !behindInMarks o' b' && chkE C a a' && chkE C b b' | _ => false)
  | .cmp2 o p a b c, e => (match e with | .Compare a' [o', p'] [b', c'] _ => decide (o' = cop o) && decide (p' = cop p) && !lastMarks [o', p'] [b', c'] && chkE C a a' && chkE C b b' && chkE C c c' | _ => false)
  | .not a, e => (match e with | .UnaryOp .Not a' _ => chkE C a a' | _ => false)
  | .and es, e => (match e with | .BoolOp .And (a :: as) _ => chkEs C es (a :: as) | _ => false)
  | .or es, e => (match e with | .BoolOp .Or (a :: as) _ => chkEs C es (a :: as) | _ => false)
  | .ite c a b, e => (match e with | .IfExp c' a' b' _ => chkE C c c' && chkE C a a' && chkE C b b' | _ => false)
  | .ix a i, e => (match e with | .Subscript a' i' _ => !isSlice i' && chkE C a a' && chkE C i i' | _ => false)
  | .sl a lo hi, e => (match e with
    | .Subscript a' (.Slice lo' hi' none _) _ => chkE C a a' && (match lo' with | none => isAbs lo | some l => !isAbs lo && chkE C lo l) && (match hi' with | none => isAbs hi | some h => !isAbs hi && chkE C hi h)
    | _ => false)
  | .rev a, e => (match e with | .Subscript a' (.Slice none none (some (.UnaryOp .USub (.Constant (.int 1) _ _) _)) _) _ => chkE C a a' | _ => false)
  | .dprs a, e => (match e with | .Call (.Name x _) [a'] [] _ => okBl C x "dict" && !isStar a' && chkE C a a' | _ => false)
  | .rpr a, e => (match e with | .Call (.Name x _) [a'] [] _ => okBl C x "repr" && !isStar a' && chkE C a a' | _ => false)
  | .sst lo k a, e => (match e with
    | .Subscript a' (.Slice none none (some (.Constant (.int k') _ _)) _) _ => decide (lo = 0) && decide (k' = (k : Int)) && chkE C a a'
    | .Subscript a' (.Slice (some (.Constant (.int i') _ _)) none (some (.Constant (.int k') _ _)) _) _ => decide (i' = (lo : Int)) && decide (k' = (k : Int)) && chkE C a a'
    | _ => false)
  | .dnew _, e => (match e with | .Dict [] [] _ => true | _ => false)
  | .dispT es, e => (match e with | .Dict keys values _ => decide (keys.length = values.length) && decide (1 ≤ keys.length) && decide (keys.length ≤ 15) && chkPs C es keys values | _ => false)
  | .disp ks es, e => (match e with | .Dict keys values _ => keysB ks keys && decide (ks.length = values.length) && decide (1 ≤ ks.length) && decide (ks.length ≤ 15) && chkEs C es values | _ => false)
  | .cset b a, e => (match e with | .Call (.Name x _) [.Call (.Name y _) [a'] [] _] [] _ => okBl C x (Str.ofString (if b then "sorted" else "len")) && okBl C y "set" && !isStar a' && chkE C a a' | _ => false)
  | .abs, _ => false
  | .bi b es, e => (match b with
    | .isi ts => (match e with
      | .Call (.Name x _) [a', .Name y _] [] _ => (match ts with | [t] => decide (t < 5) && okBl C x "isinstance" && okBl C y (tyName t) && !isStar a' && chkEs C es [a'] | _ => false)
      | _ => false)
    | .lrng => (match e with | .Call (.Name x _) [.Call (.Name y _) (a :: as) [] _] [] _ => okBl C x "list" && okBl C y "range" && noStar (a :: as) && chkEs C es (a :: as) | _ => false)
    | _ => (match e with | .Call (.Name x _) (a :: as) [] _ => okBl C x (bstr b) && noStar (a :: as) && chkEs C es (a :: as) | _ => false))
  | .mt m o es, e => (match e with
    | .Call (.Attribute o' nm apos) (a :: as) [] cpos => decide (nm = (mName m : Str)) && baseOk o' && noStar (a :: as) && decide ((a :: as).length < 29) && lineOk apos cpos && chkE C o o' && chkEs C es (a :: as)
    | _ => false)
  | .pop x m es, e => (match e with
    | .Call (.Attribute (.Name x' _) nm apos) as [] cpos => okVar C x x' && decide (nm = (mutName m : Str)) && noStar as && decide (as.length < 29) && lineOk apos cpos && chkEs C es as && (match m with | .pop0 => as.isEmpty | _ => !as.isEmpty)
    | _ => false)
  | .fn k es, e => (match e with | .Call (.Name x _) as [] _ => decide (C.fns[k]? = some x) && okGl C x && noStar as && chkEs C es as | _ => false)
  | .lc e t it cs own, e' => (match e' with
    | .ListComp b [⟨tg, iter, ifs, 0⟩] scope _ => blkB C scope own && !isSet iter && (slotsT t).all (fun i => own.contains i) && chkI C it iter (isTup tg) && chkT (C.blk scope) t tg && chkEs (C.blk scope) cs ifs && chkE (C.blk scope) e b
    | _ => false)
def chkEs (C : Ck) : Es → List Expr → Bool
  | .nil, as => (match as with | [] => true | _ :: _ => false)
  | .cons e es, as => (match as with | [] => false | a :: as => !isStar a && chkE C e a && chkEs C es as)
def chkPs (C : Ck) : Es → List (Option Expr) → List Expr → Bool
  | .nil, ks, vs => (match ks with | [] => (match vs with | [] => true | _ :: _ => false) | _ :: _ => false)
  | .cons e es, ks, vs => (match es with
    | .nil => false
    | .cons f es => (match ks with
      | some k :: ks => (match vs with | [] => false | v :: vs => chkE C e k && chkE C f v && chkPs C es ks vs)
      | _ => false))
def chkI (C : Ck) : I → Expr → Bool → Bool
  | .seq e, a, _ => chkE C e a
  | .rng es, a, _ => (match a with
    | .Call (.Name x _) as [] _ => okBl C x "range" && noStar as && chkEs C es as && decide (1 ≤ as.length) && decide (as.length ≤ 3)
    | _ => false)
  | .zip a b, e, tup => (match e with | .Call (.Name x _) [a', b'] [] _ => tup && okBl C x "zip" && noStar [a', b'] && chkE C a a' && chkE C b b' | _ => false)
end
end Py

/-! Pv15: an expression that is checked does what the evaluator says. -/
namespace Py
open PySem PySem.Spec PyProof.Rows L2
section
variable {Φ : Tab} {C : Ck} {X : Cx} {G : Gh}
def SE (Φ : Tab) (C : Ck) (e : E) (ast : Expr) : Prop := ∀ (X : Cx) (G : Gh), Cok Φ C X G → PE X ast (tE G (ev Φ e)) ∧ PT X ast (tB G fun ρ => tstR (ev Φ e ρ))
structure SAs (Φ : Tab) (es : Es) (as : List Expr) (X : Cx) (G : Gh) : Prop where
  pa : PA X as (tA G (evs Φ es))
  len : LenIs (evs Φ es) as.length
  aE : ∀ (a : Expr) (bs : List Expr) (pos : Pos), as = a :: bs → PE X (.BoolOp .And as pos) (tE G (evAnd Φ es)) ∧ PW X (.BoolOp .And as pos) (tB G fun ρ => tstR (evAnd Φ es ρ))
  oE : ∀ (a : Expr) (bs : List Expr) (pos : Pos), as = a :: bs → PE X (.BoolOp .Or as pos) (tE G (evOr Φ es)) ∧ PW X (.BoolOp .Or as pos) (tB G fun ρ => tstR (evOr Φ es ρ))
  pts : PTs X as (tB G (evC Φ es))
  pk : ∀ (pos : Pos) (ks : List (List Nat)) (keys : List (Option Expr)), keysB ks keys = true → ks.length = as.length → PK X pos keys as (tK G (evs Φ es) ks)
def SEs (Φ : Tab) (C : Ck) (es : Es) (as : List Expr) : Prop := ∀ (X : Cx) (G : Gh), Cok Φ C X G → SAs Φ es as X G
def SI (Φ : Tab) (C : Ck) (it : I) (ast : Expr) (tup : Bool) : Prop := ∀ (X : Cx) (G : Gh), Cok Φ C X G → ∀ tg, (tup = true → isTup tg = true) → PI X tg ast (tI G (evI Φ it))

theorem k_as {pos : Pos} {keys : List (Option Expr)} {values : List Expr} {ks : List (List Nat)} {f g : Env → Option (List R × Env)} (h : PK X pos keys values (tK G f ks)) (eq : ∀ ρ, g ρ = f ρ) : PK X pos keys values (tK G g ks) := by
  rw [show g = f from funext eq]; exact h
theorem k2_as {pos : Pos} {keys : List (Option Expr)} {values : List Expr} {f g : Env → Option (List R × Env)} (h : PK X pos keys values (tK2 G f)) (eq : ∀ ρ, g ρ = f ρ) : PK X pos keys values (tK2 G g) := by
  rw [show g = f from funext eq]; exact h
theorem keys_all : ∀ (ks : List (List Nat)) (keys : List (Option Expr)), keysB ks keys = true → keys.all (·.isSome) = true ∧ keys.length = ks.length
  | [], keys, h => by
    unfold keysB at h
    cases keys with
    | nil => exact ⟨rfl, rfl⟩
    | cons _ _ => cases h
  | k :: ks, keys, h => by
    unfold keysB at h
    split at h
    · obtain ⟨h1, h2⟩ := and_tt h
      obtain ⟨i1, i2⟩ := keys_all ks _ h2
      exact ⟨by rw [List.all_cons, i1]; rfl, by rw [List.length_cons, List.length_cons, i2]⟩
    · cases h
theorem tt_not {b : Bool} (h : (!b) = true) : b = false := by simpa using h
theorem both (c : Cok Φ C X G) {e : E} {a : Expr} (h : PE X a (tE G (ev Φ e))) (hp : plainT a = true) : PE X a (tE G (ev Φ e)) ∧ PT X a (tB G fun ρ => tstR (ev Φ e ρ)) := ⟨h, t_truth c.K h hp⟩
theorem Cok.var (c : Cok Φ C X G) {i : Nat} {x : Str} (h : okVar C i x = true) : X.N[i]? = some x ∧ Vis X.env.scope x ∧ (x == ("__debug__" : Str)) = false ∧ (x == ("__classdict__" : Str)) = false := by
  unfold okVar at h
  obtain ⟨h, h4⟩ := and_tt h
  obtain ⟨h, h3⟩ := and_tt h
  obtain ⟨h1, h2⟩ := and_tt h
  refine ⟨by rw [c.hN]; exact of_decide_eq_true h1, ?_, tt_not h3, tt_not h4⟩
  rw [c.sc]
  unfold visB at h2
  unfold Vis
  cases q : C.sc.names.lookup x with
  | none => rw [q] at h2; cases h2
  | some k => cases k <;> first | exact .inl rfl | exact .inr (.inl rfl) | exact .inr (.inr rfl) | (rw [q] at h2; cases h2)
theorem Cok.glb (c : Cok Φ C X G) {x : Str} (h : okGl C x = true) : Gl X x ∧ (x == ("__debug__" : Str)) = false := by
  unfold okGl at h
  obtain ⟨h1, h2⟩ := and_tt h
  refine ⟨?_, tt_not h2⟩
  show X.env.scope.names.lookup x = _
  rw [c.sc]
  exact of_decide_eq_true h1
theorem Cok.blg (c : Cok Φ C X G) {x y : Str} (hy : y ∈ bltNames) (h : okBl C x y = true) : x = y ∧ Gl X y ∧ X.mg y = none := by
  unfold okBl at h
  obtain ⟨h1, h2⟩ := and_tt h
  obtain rfl := of_decide_eq_true h1
  refine ⟨rfl, ?_, c.blt _ hy⟩
  show X.env.scope.names.lookup x = _
  rw [c.sc]
  exact of_decide_eq_true h2
theorem con_pe {v : PV} {a : Expr} (h : conB v a = true) : ∃ x, PE X a (tC x) ∧ Rep G.K (fun _ => none) x v := by
  unfold conB at h
  split at h
  · split at h
    · exact ⟨_, pe_non, .non⟩
    · cases h
  · split at h
    · obtain rfl := eq_of_beq h
      exact ⟨_, pe_bl, .bl _⟩
    · cases h
  · split at h
    · obtain rfl := of_decide_eq_true h
      exact ⟨_, pe_int, .int _⟩
    · cases h
  · split at h
    · obtain ⟨h1, h2⟩ := and_tt h
      obtain rfl := of_decide_eq_true h1
      unfold okS at h2
      obtain ⟨h3, h4⟩ := and_tt h2
      exact ⟨_, pe_str, .str _ ⟨of_decide_eq_true h3, fun c hc => of_decide_eq_true (List.all_eq_true.mp h4 c hc)⟩⟩
    · cases h
  · cases h
theorem con_plain {v : PV} {a : Expr} (h : conB v a = true) : plainT a = true := by
  unfold conB at h
  split at h <;> first | rfl | cases h
theorem plainIx_of {b : Expr} (h : isSlice b = false) : PlainIx b := by
  intro o i
  cases b <;> first | rfl | cases h
theorem set_of {b : Expr} (h : isSet b = false) (env : PySem.Env) : ∀ x, foldedSetIterable b env x = pure x := by
  intro x
  cases b <;> first | rfl | cases h
theorem blk_of (hN : X.N = C.N) (hsc : X.env.scope = C.sc) {scope : Scope} {own : List Nat} (h : blkB C scope own = true) : BlkOk X.N X.env.scope scope (own.map fun i => (C.N.getD i "", i)) := by
  unfold blkB at h
  obtain ⟨h, h4⟩ := and_tt h
  obtain ⟨h, h3⟩ := and_tt h
  obtain ⟨h1, h2⟩ := and_tt h
  refine ⟨of_decide_eq_true h1, fun y hy => of_decide_eq_true (List.all_eq_true.mp h2 y hy), fun p hp => ?_, fun y hy hf => ?_, fun y hy hf => ?_⟩
  · obtain ⟨i, hi, rfl⟩ := List.mem_map.mp hp
    have := of_decide_eq_true (List.all_eq_true.mp h3 i hi)
    rw [hN]
    show C.N[i]? = some (C.N.getD i "")
    rw [List.getD_eq_getElem?_getD, List.getElem?_eq_getElem this]
    rfl
  · have := List.all_eq_true.mp h4 y hy
    rw [if_pos hf, Bool.or_eq_true, decide_eq_true_eq, decide_eq_true_eq] at this
    rw [hsc]; exact this
  · have := List.all_eq_true.mp h4 y hy
    have hnf : ¬ y.2 = .free := by rcases hf with hf | hf <;> rw [hf] <;> decide
    rw [if_neg hnf, if_pos hf, Bool.or_eq_true, decide_eq_true_eq, decide_eq_true_eq] at this
    rw [List.map_map, hN]
    exact this
theorem own_map (C : Ck) (own : List Nat) : (own.map fun i => (C.N.getD i "", i)).map (·.2) = own := by
  rw [List.map_map]
  exact List.map_id _
/-! targets -/
theorem Cok.nodup (c : Cok Φ C X G) : X.N.Nodup := by rw [c.hN]; exact c.nd
mutual
theorem sT : ∀ (t : T) (a : Expr), chkT C t a = true → Cok Φ C X G → PG X a (gT G Φ t)
  | .name i, a, h, c => by
    unfold chkT at h
    split at h
    · rename_i x pos
      obtain ⟨h1, h2⟩ := and_tt h
      rw [Bool.or_eq_true] at h2
      have hN : X.N[i]? = some x := by rw [c.hN]; exact of_decide_eq_true h1
      rcases h2 with h2 | h2
      · have hl : X.env.scope.names.lookup x = some .local := by rw [c.sc]; exact of_decide_eq_true h2
        exact g_name c.io c.nodup hN (.inl hl) (.inr hl)
      · obtain ⟨h2, h3⟩ := and_tt h2
        have hl : X.env.scope.names.lookup x = some .cell := by rw [c.sc]; exact of_decide_eq_true h2
        exact g_name c.io c.nodup hN (.inr hl) (.inl (c.fn x h3))
    · cases h
  | .tup ts, a, h, c => by
    unfold chkT at h
    split at h
    · rename_i es k pos
      obtain ⟨h1, h2⟩ := and_tt h
      obtain ⟨h3, h4⟩ := sTs ts es h2 h1 c
      exact g_tup c.K c.calm h1 h4 h3
    · cases h
theorem sTs : ∀ (ts : List T) (as : List Expr), chkTs C ts as = true → noStar as = true → Cok Φ C X G → PGs X as (gTs G Φ ts) ∧ as.length = ts.length
  | [], as, h, hn, c => by
    unfold chkTs at h
    cases as with
    | nil => exact ⟨g_nil, rfl⟩
    | cons _ _ => cases h
  | t :: ts, as, h, hn, c => by
    unfold chkTs at h
    cases as with
    | nil => cases h
    | cons a as =>
      obtain ⟨h1, h2⟩ := and_tt h
      obtain ⟨n1, n2⟩ := noStar_cons hn
      obtain ⟨g1, g2⟩ := sTs ts as h2 n2 c
      exact ⟨g_cons n1 (sT t a h1 c) g1, by rw [List.length_cons, List.length_cons, g2]⟩
end
mutual
theorem slots_in : ∀ (t : T) (i : Nat), InT i t → i ∈ slotsT t
  | .name j, i, h => by cases h; simp [slotsT]
  | .tup ts, i, h => by
    cases h with
    | tup h1 h2 =>
      unfold slotsT
      exact slots_ins ts i _ h1 h2
theorem slots_ins : ∀ (ts : List T) (i : Nat) (t : T), t ∈ ts → InT i t → i ∈ slotsTs ts
  | t' :: ts, i, t, h1, h2 => by
    unfold slotsTs
    rcases List.mem_cons.mp h1 with h1 | h1
    · exact List.mem_append_left _ (slots_in t' i (h1 ▸ h2))
    · exact List.mem_append_right _ (slots_ins ts i t h1 h2)
end

/-- the comprehension -/
theorem s_lc {e : E} {t : T} {it : I} {cs : Es} {own : List Nat} {b tg iter : Expr} {ifs : List Expr} {scope : Scope} (c : Cok Φ C X G) (hb : blkB C scope own = true) (hs : isSet iter = false) (ht : (slotsT t).all (fun i => own.contains i) = true)
    (hi : SI Φ C it iter (isTup tg)) (hT : chkT (C.blk scope) t tg = true) (hcs : SEs Φ (C.blk scope) cs ifs) (he : SE Φ (C.blk scope) e b) :
    (PI X tg iter (tI G (evI Φ it)) ∧ BlkOk X.N X.env.scope scope (own.map fun i => (C.N.getD i "", i)) ∧ (∀ x, foldedSetIterable iter X.env x = pure x) ∧
    (∀ (s : Shared) (H : Hp) (A : Addr) (cl : List (Str × Addr)) (fp : List Addr), PG (X.blk s H scope (compEnvC scope cl A X.env) fp) tg (gAll G Φ t)) ∧
    (∀ (s : Shared) (H : Hp) (A : Addr) (cl : List (Str × Addr)) (fp : List Addr), PTs (X.blk s H scope (compEnvC scope cl A X.env) fp) ifs (tBAll G (evC Φ cs))) ∧
    (∀ (s : Shared) (H : Hp) (A : Addr) (cl : List (Str × Addr)) (fp : List Addr), PE (X.blk s H scope (compEnvC scope cl A X.env) fp) b (tEAll G (ev Φ e))) ∧
    (∀ (σ : L2.St) (H : Hp) (Q : VK), tE G (ev Φ (.lc e t it cs own)) σ H Q → tLc (tI G (evI Φ it)) (gAll G Φ t) (tBAll G (evC Φ cs)) (tEAll G (ev Φ e)) own σ H Q)) := by
  refine ⟨hi X G c tg id, blk_of c.hN c.sc hb, set_of hs _, fun s H A cl fp => ?_, fun s H A cl fp => ?_, fun s H A cl fp => ?_, fun σ H Q h => ?_⟩
  · exact ⟨fun pins s1 σ H1 v u Q I r ⟨G', hS, w⟩ => (sT t tg hT (c.block hS scope s H A cl fp)).run pins s1 σ H1 v u Q I r w⟩
  · exact ⟨fun pins s1 σ H1 Q I ⟨G', hS, w⟩ => (hcs _ G' (c.block hS scope s H A cl fp)).pts.run pins s1 σ H1 Q I w⟩
  · exact ⟨fun pins s1 σ H1 Q I ⟨G', hS, w⟩ => (he _ G' (c.block hS scope s H A cl fp)).1.run pins s1 σ H1 Q I w⟩
  · exact lc_weak c.io (fun i hi => by
      have := List.all_eq_true.mp ht i (slots_in t i hi)
      simpa using this) σ H Q h
theorem bstr_in (b : Blt) : (bstr b : Str) ∈ bltNames := by
  cases b with
  | isi ts => show ("isinstance" : Str) ∈ bltNames; decide +kernel
  | _ => decide +kernel
theorem ty_in {t : Nat} (h : t < 5) : (tyName t : Str) ∈ bltNames := by
  have h5 : t = 0 ∨ t = 1 ∨ t = 2 ∨ t = 3 ∨ t = 4 := by omega
  rcases h5 with rfl | rfl | rfl | rfl | rfl <;> decide +kernel
theorem sBi {b : Blt} {es : Es} {a : Expr} {as : List Expr} {x : Str} {p pos : Pos} (c : Cok Φ C X G) (hb : spB b = false) (h1 : okBl C x (bstr b) = true) (h2 : noStar (a :: as) = true) (ih : SAs Φ es (a :: as) X G) : PE X (.Call (.Name x p) (a :: as) [] pos) (tE G (ev Φ (.bi b es))) := by
  obtain ⟨rfl, g1, g2⟩ := c.blg (bstr_in b) h1
  exact pe_as (e_bi c.K c.un c.calm b hb g1 g2 h2 ih.pa) fun ρ => rfl
theorem e_un {o : UnOp} {f : Env → Option (R × Env)} {a : Expr} {pos : Pos} (hK : G.K = X.kw) (h : PE X a (tE G f)) : PE X (.UnaryOp (uop o) a pos) (tE G (fun ρ => match f ρ with
      | none => none
      | some (r, ρ1) => (match pk r ρ1 with | none => none | some x => (match un1 o x with | none => none | some z => some (z.r, ρ1))))) := by
  have h := pe_un (pos := pos) (un_any o) h
  rw [← hK] at h
  exact e_one h
theorem e_bin {o : BiOp} {f g : Env → Option (R × Env)} {a b : Expr} {pos : Pos} (hK : G.K = X.kw) (h : PE X a (tE G f)) (k : PE X b (tE G g)) : PE X (.BinOp a (bop o) b pos) (tE G (fun ρ => match f ρ with
      | none => none
      | some (ra, ρ1) => (match g ρ1 with
        | none => none
        | some (rb, ρ2) => (match pk (wt ra) ρ2 with
          | none => none
          | some x => (match pk rb ρ2 with
            | none => none
            | some y => (match bin2 o x y with | none => none | some z => some (z.r, ρ2))))))) := by
  have h := pe_op (pos := pos) (op_bin o) h k
  rw [← hK] at h
  exact e_two (a := a) (b := b) h
theorem e_ix {f g : Env → Option (R × Env)} {a b : Expr} {pos : Pos} (hK : G.K = X.kw) (hu : X.A.units + 65 < cLine) (h : PE X a (tE G f)) (k : PE X b (tE G g)) (hs : isSlice b = false) : PE X (.Subscript a b pos) (tE G (fun ρ => match f ρ with
      | none => none
      | some (ra, ρ1) => (match g ρ1 with
        | none => none
        | some (rb, ρ2) => (match pk (wt ra) ρ2 with
          | none => none
          | some x => (match pk rb ρ2 with
            | none => none
            | some y => (match ix2 x y with | none => none | some z => some (z.r, ρ2))))))) := by
  have h := pe_ix (pos := pos) (ix_any hu) h k (plainIx_of hs)
  rw [← hK] at h
  exact e_two (a := a) (b := b) h
mutual
theorem sE : ∀ (e : E) (C : Ck) (a : Expr), chkE C e a = true → SE Φ C e a
  | .var i, C, a, h => fun X G c => by
    unfold chkE at h
    split at h
    · obtain ⟨h1, h2, h3, h4⟩ := c.var h
      exact both c (e_var h1 h2 h3 h4 Φ) rfl
    · cases h
  | .con v, C, a, h => fun X G c => by
    unfold chkE at h
    obtain ⟨x, h1, h2⟩ := con_pe (X := X) (G := G) h
    exact both c (e_con h1 h2 Φ) (con_plain h)
  | .glob g, C, a, h => fun X G c => by
    unfold chkE at h
    split at h
    · rename_i x pos
      obtain ⟨h1, h2⟩ := and_tt h
      obtain ⟨g1, g2⟩ := c.glb h2
      have h1 := of_decide_eq_true h1
      refine both c ?_ rfl
      cases q : Φ.glob g with
      | none =>
        refine ⟨fun pins s σ H Q I ⟨ρ, F, r, ρ', S, k, _⟩ => ?_⟩
        have k' : (match Φ.glob g with | none => none | some v => some (R.sh v, ρ)) = some (r, ρ') := k
        rw [q] at k'; cases k'
      | some v =>
        obtain ⟨x', u, y, m1, m2, m3, m4⟩ := c.gl g v q
        obtain rfl : x = x' := by rw [h1] at m1; exact Option.some.inj m1
        rw [← c.K] at m4
        exact e_glob q (pe_glob g1 m2 m3 g2) m4
    · cases h
  | .tup es, C, a, h => fun X G c => by
    unfold chkE at h
    split at h
    · exact both c (pe_as (e_tup (sEs es C _ h X G c).pa) fun ρ => rfl) rfl
    · cases h
  | .lst es, C, a, h => fun X G c => by
    unfold chkE at h
    split at h
    · exact both c (pe_as (e_lst (sEs es C _ h X G c).pa) fun ρ => rfl) rfl
    · cases h
  | .un o e, C, a, h => fun X G c => by
    unfold chkE at h
    split at h
    · obtain ⟨h1, h2⟩ := and_tt h
      obtain rfl := of_decide_eq_true h1
      exact both c (pe_as (e_un c.K (sE e C _ h2 X G c).1) fun ρ => rfl) (by cases o; rfl)
    · cases h
  | .bin o e f, C, a, h => fun X G c => by
    unfold chkE at h
    split at h
    · obtain ⟨h, h3⟩ := and_tt h
      obtain ⟨h1, h2⟩ := and_tt h
      obtain rfl := of_decide_eq_true h1
      exact both c (pe_as (e_bin c.K (sE e C _ h2 X G c).1 (sE f C _ h3 X G c).1) fun ρ => rfl) rfl
    · cases h
  | .cmp o e f, C, a, h => fun X G c => by
    unfold chkE at h
    split at h
    · obtain ⟨h, h4⟩ := and_tt h
      obtain ⟨h, h3⟩ := and_tt h
      obtain ⟨h1, h2⟩ := and_tt h
      obtain rfl := of_decide_eq_true h1
      exact ⟨pe_as (e_cmp c.K c.un o (sE e C _ h3 X G c).1 (sE f C _ h4 X G c).1 (tt_not h2)) fun ρ => rfl, pt_as (t_cmp c.K c.un o (sE e C _ h3 X G c).1 (sE f C _ h4 X G c).1 (tt_not h2)) fun ρ => rfl⟩
    · cases h
  | .cmp2 o o' e f g, C, a, h => fun X G c => by
    unfold chkE at h
    split at h
    · obtain ⟨h, h6⟩ := and_tt h
      obtain ⟨h, h5⟩ := and_tt h
      obtain ⟨h, h4⟩ := and_tt h
      obtain ⟨h, h3⟩ := and_tt h
      obtain ⟨h1, h2⟩ := and_tt h
      obtain rfl := of_decide_eq_true h1
      obtain rfl := of_decide_eq_true h2
      exact ⟨pe_as (e_chain c.K c.un o o' (sE e C _ h4 X G c).1 (sE f C _ h5 X G c).1 (sE g C _ h6 X G c).1 (tt_not h3)) fun ρ => rfl,
        pt_as (t_chain c.K c.un o o' (sE e C _ h4 X G c).1 (sE f C _ h5 X G c).1 (sE g C _ h6 X G c).1 (tt_not h3)) fun ρ => rfl⟩
    · cases h
  | .not e, C, a, h => fun X G c => by
    unfold chkE at h
    split at h
    · exact ⟨pe_as (e_not c.K (sE e C _ h X G c).1) fun ρ => rfl, pt_as (t_not (sE e C _ h X G c).2) fun ρ => rfl⟩
    · cases h
  | .and es, C, a, h => fun X G c => by
    unfold chkE at h
    split at h
    · obtain ⟨h1, h2⟩ := (sEs es C _ h X G c).aE _ _ _ rfl
      exact ⟨pe_as h1 fun ρ => rfl, pt_as h2.pt fun ρ => rfl⟩
    · cases h
  | .or es, C, a, h => fun X G c => by
    unfold chkE at h
    split at h
    · obtain ⟨h1, h2⟩ := (sEs es C _ h X G c).oE _ _ _ rfl
      exact ⟨pe_as h1 fun ρ => rfl, pt_as h2.pt fun ρ => rfl⟩
    · cases h
  | .ite d e f, C, a, h => fun X G c => by
    unfold chkE at h
    split at h
    · obtain ⟨h, h3⟩ := and_tt h
      obtain ⟨h1, h2⟩ := and_tt h
      exact ⟨pe_as (e_ite (sE d C _ h1 X G c).2 (sE e C _ h2 X G c).1 (sE f C _ h3 X G c).1) fun ρ => rfl, pt_as (t_ite (sE d C _ h1 X G c).2 (sE e C _ h2 X G c).2 (sE f C _ h3 X G c).2) fun ρ => rfl⟩
    · cases h
  | .ix e f, C, a, h => fun X G c => by
    unfold chkE at h
    split at h
    · obtain ⟨h, h3⟩ := and_tt h
      obtain ⟨h1, h2⟩ := and_tt h
      exact both c (pe_as (e_ix c.K c.un (sE e C _ h2 X G c).1 (sE f C _ h3 X G c).1 (tt_not h1)) fun ρ => rfl) rfl
    · cases h
  | .sl e lo hi, C, a, h => fun X G c => by
    unfold chkE at h
    split at h
    · rename_i a' lo' hi' p2 p3
      obtain ⟨h, h3⟩ := and_tt h
      obtain ⟨h1, h2⟩ := and_tt h
      have hl : PO X lo' (tP G fun ρ => if isAbs lo then some (none, ρ) else optR (ev Φ lo ρ)) := by
        cases lo' with
        | none => simp only [h2, if_true]; exact p_none
        | some l =>
          obtain ⟨k1, k2⟩ := and_tt h2
          simp only [tt_not k1, Bool.false_eq_true, if_false]
          exact p_some (sE lo C _ k2 X G c).1
      have hh : PO X hi' (tP G fun ρ => if isAbs hi then some (none, ρ) else optR (ev Φ hi ρ)) := by
        cases hi' with
        | none => simp only [h3, if_true]; exact p_none
        | some l =>
          obtain ⟨k1, k2⟩ := and_tt h3
          simp only [tt_not k1, Bool.false_eq_true, if_false]
          exact p_some (sE hi C _ k2 X G c).1
      exact both c (pe_as (e_slice c.K (sE e C _ h1 X G c).1 hl hh) fun ρ => rfl) rfl
    · cases h
  | .rev e, C, a, h => fun X G c => by
    unfold chkE at h
    split at h
    · exact both c (pe_as (e_rev c.K (sE e C _ h X G c).1) fun ρ => rfl) rfl
    · cases h
  | .dprs e, C, a, h => fun X G c => by
    unfold chkE at h
    split at h
    · obtain ⟨h, h3⟩ := and_tt h
      obtain ⟨h1, h2⟩ := and_tt h
      obtain ⟨rfl, g1, g2⟩ := c.blg (by decide +kernel) h1
      exact both c (pe_as (e_dprs c.K c.un c.calm g1 g2 (tt_not h2) (sE e C _ h3 X G c).1) fun ρ => rfl) rfl
    · cases h
  | .rpr e, C, a, h => fun X G c => by
    unfold chkE at h
    split at h
    · obtain ⟨h, h3⟩ := and_tt h
      obtain ⟨h1, h2⟩ := and_tt h
      obtain ⟨rfl, g1, g2⟩ := c.blg (by decide +kernel) h1
      exact both c (pe_as (e_rpr c.K c.gd c.un g1 g2 (tt_not h2) (sE e C _ h3 X G c).1) fun ρ => rfl) rfl
    · cases h
  | .sst lo k e, C, a, h => fun X G c => by
    unfold chkE at h
    split at h
    · obtain ⟨h, h3⟩ := and_tt h
      obtain ⟨h1, h2⟩ := and_tt h
      obtain rfl := of_decide_eq_true h1
      obtain rfl := of_decide_eq_true h2
      exact both c (pe_as (e_sst0 c.K (sE e C _ h3 X G c).1) fun ρ => rfl) rfl
    · obtain ⟨h, h3⟩ := and_tt h
      obtain ⟨h1, h2⟩ := and_tt h
      obtain rfl := of_decide_eq_true h1
      obtain rfl := of_decide_eq_true h2
      exact both c (pe_as (e_sst c.K (sE e C _ h3 X G c).1) fun ρ => rfl) rfl
    · cases h
  | .disp ks es, C, a, h => fun X G c => by
    unfold chkE at h
    split at h
    · rename_i keys values pos
      obtain ⟨h, h5⟩ := and_tt h
      obtain ⟨h, h4⟩ := and_tt h
      obtain ⟨h, h3⟩ := and_tt h
      obtain ⟨h1, h2⟩ := and_tt h
      have h2 := of_decide_eq_true h2
      have h3 := of_decide_eq_true h3
      have h4 := of_decide_eq_true h4
      obtain ⟨k1, k2⟩ := keys_all ks keys h1
      exact both c (pe_as (e_disp2 ((sEs es C _ h5 X G c).pk pos ks keys h1 h2) k1 (by omega) k2 (fun z => by rw [z] at k2; simp at k2; omega) (by omega)) fun ρ => rfl) rfl
    · cases h
  | .dispT es, C, a, h => fun X G c => by
    unfold chkE at h
    split at h
    · rename_i keys values pos
      obtain ⟨h, h4⟩ := and_tt h
      obtain ⟨h, h3⟩ := and_tt h
      obtain ⟨h1, h2⟩ := and_tt h
      have h1 := of_decide_eq_true h1
      have h2 := of_decide_eq_true h2
      have h3 := of_decide_eq_true h3
      obtain ⟨k1, k2⟩ := sPs es C keys values h4
      exact both c (pe_as (e_dispT c.K (by have := c.un; omega) (k2 X G c pos) k1 h1 (fun z => by rw [z] at h2; simp at h2) h3) fun ρ => rfl) rfl
    · cases h
  | .dnew t, C, a, h => fun X G c => by
    unfold chkE at h
    split at h
    · exact both c (pe_as (e_dnew c.K t) fun ρ => rfl) rfl
    · cases h
  | .cset b e, C, a, h => fun X G c => by
    unfold chkE at h
    split at h
    · rename_i x p1 y p2 a' p3 p4
      obtain ⟨h, h4⟩ := and_tt h
      obtain ⟨h, h3⟩ := and_tt h
      obtain ⟨h1, h2⟩ := and_tt h
      have hin : ((if b then "sorted" else "len" : String) : Str) ∈ bltNames := by cases b <;> decide +kernel
      obtain ⟨rfl, g1, g2⟩ := c.blg hin h1
      obtain ⟨rfl, g3, g4⟩ := c.blg (y := "set") (by decide +kernel) h2
      have hp := pe_cset (b := b) (p := p1) (p2 := p2) (q := p3) (pos := p4) rfl c.calm c.un g1 g2 g3 g4 (sE e C _ h4 X G c).1 (star_of (tt_not h3) _ _)
      rw [← c.K] at hp
      exact both c (pe_as (e_one hp) fun ρ => rfl) rfl
    · cases h
  | .abs, C, a, h => by unfold chkE at h; cases h
  | .bi b es, C, a, h => fun X G c => by
    unfold chkE at h
    cases b with
    | isi ts =>
      simp only at h
      split at h
      · split at h
        · obtain ⟨h, h5⟩ := and_tt h
          obtain ⟨h, h4⟩ := and_tt h
          obtain ⟨h, h3⟩ := and_tt h
          obtain ⟨h1, h2⟩ := and_tt h
          rename_i t
          have h1 := of_decide_eq_true h1
          obtain ⟨rfl, g1, g2⟩ := c.blg (by decide +kernel) h2
          obtain ⟨rfl, g3, g4⟩ := c.blg (ty_in h1) h3
          cases es with
          | nil => unfold chkEs at h5; cases h5
          | cons e es =>
            unfold chkEs at h5
            obtain ⟨h5, h7⟩ := and_tt h5
            obtain ⟨h5, h6⟩ := and_tt h5
            cases es with
            | cons _ _ => unfold chkEs at h7; cases h7
            | nil => exact both c (pe_as (e_isi c.K h1 g1 g2 g3 g4 (tt_not h4) (sE e C _ h6 X G c).1) fun ρ => rfl) rfl
        · cases h
      · cases h
    | lrng =>
      simp only at h
      split at h
      · rename_i x p1 y p2 a1 as p3 p4
        obtain ⟨h, h4⟩ := and_tt h
        obtain ⟨h, h3⟩ := and_tt h
        obtain ⟨h1, h2⟩ := and_tt h
        obtain ⟨rfl, g1, g2⟩ := c.blg (y := "list") (by decide +kernel) h1
        obtain ⟨rfl, g3, g4⟩ := c.blg (y := "range") (by decide +kernel) h2
        exact both c (pe_as (e_lrng c.K c.calm g1 g2 g3 g4 h3 (sEs es C _ h4 X G c).pa) fun ρ => rfl) rfl
      · cases h
    | _ =>
      simp only at h
      split at h
      · obtain ⟨h, h3⟩ := and_tt h
        obtain ⟨h1, h2⟩ := and_tt h
        exact both c (sBi c rfl h1 h2 (sEs es C _ h3 X G c)) rfl
      · cases h
  | .mt m o es, C, a, h => fun X G c => by
    unfold chkE at h
    split at h
    · obtain ⟨h, h7⟩ := and_tt h
      obtain ⟨h, h6⟩ := and_tt h
      obtain ⟨h, h5⟩ := and_tt h
      obtain ⟨h, h4⟩ := and_tt h
      obtain ⟨h, h3⟩ := and_tt h
      obtain ⟨h1, h2⟩ := and_tt h
      obtain rfl := of_decide_eq_true h1
      exact both c (pe_as (e_mt c.K c.un m (sE o C _ h6 X G c).1 (sEs es C _ h7 X G c).pa h2 h3 (of_decide_eq_true h4) h5) fun ρ => rfl) rfl
    · cases h
  | .pop i m es, C, a, h => fun X G c => by
    unfold chkE at h
    split at h
    · rename_i x' p nm apos as cpos
      obtain ⟨h, h7⟩ := and_tt h
      obtain ⟨h, h6⟩ := and_tt h
      obtain ⟨h, h5⟩ := and_tt h
      obtain ⟨h, h4⟩ := and_tt h
      obtain ⟨h, h3⟩ := and_tt h
      obtain ⟨h1, h2⟩ := and_tt h
      obtain ⟨k1, k2, k3, k4⟩ := c.var h1
      obtain rfl := of_decide_eq_true h2
      have ih := sEs es C _ h6 X G c
      cases m with
      | pop0 =>
        cases as with
        | cons _ _ => cases h7
        | nil =>
          cases es with
          | cons _ _ => unfold chkEs at h6; cases h6
          | nil => exact both c (pe_as (e_pop0 k1 k2 k3 k4 h5) fun ρ => rfl) rfl
      | append =>
        cases as with
        | nil => cases h7
        | cons _ _ => exact both c (pe_as (e_mut (m := .append) (by intro z; cases z) k1 k2 k3 k4 ih.pa h3 (of_decide_eq_true h4) h5) fun ρ => rfl) rfl
      | extend =>
        cases as with
        | nil => cases h7
        | cons _ _ => exact both c (pe_as (e_mut (m := .extend) (by intro z; cases z) k1 k2 k3 k4 ih.pa h3 (of_decide_eq_true h4) h5) fun ρ => rfl) rfl
      | popAt =>
        cases as with
        | nil => cases h7
        | cons _ _ => exact both c (pe_as (e_mut (m := .popAt) (by intro z; cases z) k1 k2 k3 k4 ih.pa h3 (of_decide_eq_true h4) h5) fun ρ => rfl) rfl
    · cases h
  | .fn k es, C, a, h => fun X G c => by
    unfold chkE at h
    split at h
    · rename_i x p as pos
      obtain ⟨h, h4⟩ := and_tt h
      obtain ⟨h, h3⟩ := and_tt h
      obtain ⟨h1, h2⟩ := and_tt h
      obtain ⟨g1, g2⟩ := c.glb h2
      have h1 := of_decide_eq_true h1
      have ih := sEs es C _ h4 X G c
      refine both c ?_ rfl
      cases q : Φ.fn k with
      | none =>
        refine ⟨fun pins s σ H Q I ⟨ρ, F, r, ρ', S, kk, _⟩ => ?_⟩
        have k' : (match Φ.fn k with | none => none | some d => (match evs Φ es ρ with | none => none | some (rs, ρ1) => if rs.length = d.np then callD d rs ρ1 else none)) = some (r, ρ') := kk
        rw [q] at k'; cases k'
      | some d =>
        obtain ⟨x', m1, D⟩ := c.def' k d q
        obtain rfl : x = x' := by rw [h1] at m1; exact Option.some.inj m1
        have eq : ∀ ρ, ev Φ (.fn k es) ρ = fFn d d.np (evs Φ es) ρ := fun ρ => by
          show (match Φ.fn k with | none => none | some d => (match evs Φ es ρ with | none => none | some (rs, ρ1) => if rs.length = d.np then callD d rs ρ1 else none)) = _
          rw [q] <;> rfl
        cases as with
        | nil =>
          cases es with
          | cons _ _ => unfold chkEs at h4; cases h4
          | nil => exact pe_as (e_fn0 c.K D g1 g2) eq
        | cons _ _ => exact pe_as (e_fn c.K D g1 g2 ih.pa h3) eq
    · cases h
  | .lc e t it cs own, C, a, h => fun X G c => by
    unfold chkE at h
    split at h
    · rename_i b tg iter ifs scope pos
      obtain ⟨h, h7⟩ := and_tt h
      obtain ⟨h, h6⟩ := and_tt h
      obtain ⟨h, h5⟩ := and_tt h
      obtain ⟨h, h4⟩ := and_tt h
      obtain ⟨h, h3⟩ := and_tt h
      obtain ⟨h1, h2⟩ := and_tt h
      obtain ⟨k1, k2, k3, k4, k5, k6, k7⟩ := s_lc c h1 (tt_not h2) h3 (sI it C _ _ h4) h5 (sEs cs _ _ h6) (sE e _ _ h7)
      have hp := pe_lc (pos := pos) c.calm c.nodup k1 k2 k4 k5 k6 k3
      rw [own_map] at hp
      exact both c (pe_weak hp k7) rfl
    · cases h
theorem sEs : ∀ (es : Es) (C : Ck) (as : List Expr), chkEs C es as = true → SEs Φ C es as
  | .nil, C, as, h => fun X G c => by
    unfold chkEs at h
    cases as with
    | cons _ _ => cases h
    | nil => exact ⟨pa_as a_nil fun ρ => rfl, fun ρ rs ρ' q => by
        have q' : some (([] : List R), ρ) = some (rs, ρ') := q
        obtain ⟨rfl, _⟩ : [] = rs ∧ ρ = ρ' := by simpa using q'
        rfl, fun _ _ _ z => (by cases z), fun _ _ _ z => (by cases z), ⟨fun pins s σ H Q I ⟨ρ, F, b, ρ', S, q, hq⟩ => pts_nil.run pins s σ H Q I (by
        have q' : some (true, ρ) = some (b, ρ') := q
        obtain ⟨rfl, rfl⟩ : true = b ∧ ρ = ρ' := by simpa using q'
        exact hq H F S (Ext.refl F))⟩, fun pos ks keys hk hl => by
        cases ks with
        | cons _ _ => cases hl
        | nil =>
          unfold keysB at hk
          cases keys with
          | cons _ _ => cases hk
          | nil => exact k_as k_nil fun ρ => rfl⟩
  | .cons e es, C, as, h => fun X G c => by
    unfold chkEs at h
    cases as with
    | nil => cases h
    | cons a as =>
      obtain ⟨h, h3⟩ := and_tt h
      obtain ⟨h1, h2⟩ := and_tt h
      obtain ⟨e1, e2⟩ := sE e C a h2 X G c
      have ih := sEs es C as h3 X G c
      refine ⟨pa_as (a_cons e1 ih.pa (tt_not h1)) fun ρ => rfl, fun ρ rs ρ' q => ?_, fun a' bs pos z => ?_, fun a' bs pos z => ?_, ?_, fun pos ks keys hk hl => ?_⟩
      rotate_right
      · cases ks with
        | nil => cases hl
        | cons k ks =>
          unfold keysB at hk
          split at hk
          · obtain ⟨k1, k2⟩ := and_tt hk
            obtain rfl := of_decide_eq_true k1
            exact k_as (k_cons e1 (ih.pk pos ks _ k2 (by simpa using hl))) fun ρ => rfl
          · cases hk
      · have q' : (match ev Φ e ρ with | none => none | some (r, ρ1) => (match evs Φ es ρ1 with | none => none | some (rs, ρ2) => some (wt r :: rs, ρ2))) = some (rs, ρ') := q
        cases q1 : ev Φ e ρ with
        | none => rw [q1] at q'; cases q'
        | some p =>
          obtain ⟨r, ρ1⟩ := p
          rw [q1] at q'
          simp only at q'
          cases q2 : evs Φ es ρ1 with
          | none => rw [q2] at q'; cases q'
          | some p2 =>
            obtain ⟨rs2, ρ2⟩ := p2
            rw [q2] at q'
            obtain ⟨rfl, _⟩ : wt r :: rs2 = rs ∧ ρ2 = ρ' := by simpa using q'
            rw [List.length_cons, List.length_cons, ih.len _ _ _ q2]
      · cases as with
        | nil =>
          cases es with
          | cons _ _ => unfold chkEs at h3; cases h3
          | nil => exact ⟨pe_as (pe_one e1) fun ρ => rfl, pw_weak (pw_and1 e2) fun σ H Q w => w⟩
        | cons b bs' =>
          obtain ⟨i1, i2⟩ := ih.aE b bs' pos rfl
          cases es with
          | nil => unfold chkEs at h3; cases h3
          | cons e' es' => exact ⟨pe_as (e_and c.K e1 i1) fun ρ => rfl, pw_weak (w_and e2 i2) fun σ H Q w => w⟩
      · cases as with
        | nil =>
          cases es with
          | cons _ _ => unfold chkEs at h3; cases h3
          | nil => exact ⟨pe_as (pe_one e1) fun ρ => rfl, pw_weak (pw_or1 e2) fun σ H Q w => w⟩
        | cons b bs' =>
          obtain ⟨i1, i2⟩ := ih.oE b bs' pos rfl
          cases es with
          | nil => unfold chkEs at h3; cases h3
          | cons e' es' => exact ⟨pe_as (e_or c.K e1 i1) fun ρ => rfl, pw_weak (w_or e2 i2) fun σ H Q w => w⟩
      · cases es with
        | nil =>
          cases as with
          | cons _ _ => unfold chkEs at h3; cases h3
          | nil => exact ⟨fun pins s σ H Q I w => (pts_one e2).run pins s σ H Q I w⟩
        | cons e' es' =>
          refine ⟨fun pins s σ H Q I ⟨ρ, F, b, ρ', S, q, hq⟩ => ?_⟩
          have q' : (none : Option (Bool × Env)) = some (b, ρ') := q
          cases q'
theorem sPs : ∀ (es : Es) (C : Ck) (keys : List (Option Expr)) (values : List Expr), chkPs C es keys values = true → keys.all (·.isSome) = true ∧ ∀ (X : Cx) (G : Gh), Cok Φ C X G → ∀ pos : Pos, PK X pos keys values (tK2 G (evs Φ es))
  | .nil, C, keys, values, h => by
    unfold chkPs at h
    cases keys with
    | cons _ _ => cases h
    | nil =>
      cases values with
      | cons _ _ => cases h
      | nil => exact ⟨rfl, fun X G c pos => k2_as k2_nil fun ρ => rfl⟩
  | .cons e .nil, C, keys, values, h => by
    unfold chkPs at h
    cases h
  | .cons e (.cons f es), C, keys, values, h => by
    unfold chkPs at h
    simp only at h
    split at h
    · rename_i k ks
      cases values with
      | nil => cases h
      | cons v vs =>
        obtain ⟨h, h3⟩ := and_tt h
        obtain ⟨h1, h2⟩ := and_tt h
        obtain ⟨i1, i2⟩ := sPs es C ks vs h3
        exact ⟨by rw [List.all_cons, i1]; rfl, fun X G c pos => k2_as (k2_cons (sE e C k h1 X G c).1 (sE f C v h2 X G c).1 (i2 X G c pos)) fun ρ => rfl⟩
    · cases h
theorem sI : ∀ (it : I) (C : Ck) (a : Expr) (tup : Bool), chkI C it a tup = true → SI Φ C it a tup
  | .seq e, C, a, tup, h => fun X G c tg htg => by
    unfold chkI at h
    exact ⟨fun pins s σ H R I w => (i_seq c.K (sE e C _ h X G c).1).run pins s σ H R I w⟩
  | .rng es, C, a, tup, h => fun X G c tg htg => by
    unfold chkI at h
    split at h
    · rename_i x p as pos
      obtain ⟨h, h5⟩ := and_tt h
      obtain ⟨h, h4⟩ := and_tt h
      obtain ⟨h, h3⟩ := and_tt h
      obtain ⟨h1, h2⟩ := and_tt h
      obtain ⟨rfl, g1, g2⟩ := c.blg (by decide +kernel) h1
      have ih := sEs es C _ h3 X G c
      have h4 := of_decide_eq_true h4
      have h5 := of_decide_eq_true h5
      match as, h4, h5, h2, ih with
      | [a1], _, _, h2, ih => exact ⟨fun pins s σ H R I w => (i_rng1 g1 g2 ih.pa h2 ih.len).run pins s σ H R I w⟩
      | [a1, a2], _, _, h2, ih => exact ⟨fun pins s σ H R I w => (i_rng2 g1 g2 ih.pa h2 ih.len).run pins s σ H R I w⟩
      | [a1, a2, a3], _, _, h2, ih => exact ⟨fun pins s σ H R I w => (i_rng3 g1 g2 ih.pa h2 ih.len).run pins s σ H R I w⟩
      | _ :: _ :: _ :: _ :: _, _, h5, _, _ => simp at h5
    · cases h
  | .zip e f, C, a, tup, h => fun X G c tg htg => by
    unfold chkI at h
    split at h
    · obtain ⟨h, h5⟩ := and_tt h
      obtain ⟨h, h4⟩ := and_tt h
      obtain ⟨h, h3⟩ := and_tt h
      obtain ⟨h1, h2⟩ := and_tt h
      obtain ⟨rfl, g1, g2⟩ := c.blg (y := "zip") (by decide +kernel) h2
      have ht := htg h1
      cases tg <;> first | (cases ht; done) | skip
      exact ⟨fun pins s σ H R I w => (i_zip c.K g1 g2 (sE e C _ h4 X G c).1 (sE f C _ h5 X G c).1 h3).run pins s σ H R I w⟩
    · cases h
end
end
end Py

/-! Pv16: statements. -/
namespace Py
open PySem PySem.Spec PyProof.Rows L2
section
variable {Φ : Tab} {C : Ck} {X : Cx} {G : Gh} {σ : L2.St} {H H' : Hp} {ρ ρ' : Env} {F F' : Hp} {pos : Pos}

def EndOk (G : Gh) (F : Hp) (D : Ends) : Out → Prop
  | .nx ρ' => ∀ σ' H' F', SOk G σ' H' ρ' F' → Ext F F' → D.nx σ' H'
  | .brk ρ' => ∀ σ' H' F', SOk G σ' H' ρ' F' → Ext F F' → D.bk σ' H'
  | .cnt ρ' => ∀ σ' H' F', SOk G σ' H' ρ' F' → Ext F F' → D.ct σ' H'
  | .ret r ρ' => ∀ x σ' H' F', SOk G σ' H' ρ' F' → Ext F F' → RR G σ' H' F' ρ' x r → D.rt x H'
theorem EndOk.mono {D : Ends} {o : Out} (h : EndOk G F D o) (e : Ext F F') : EndOk G F' D o := by
  cases o with
  | nx ρ => exact fun σ' H' F2 S e2 => h σ' H' F2 S (e.trans e2)
  | brk ρ => exact fun σ' H' F2 S e2 => h σ' H' F2 S (e.trans e2)
  | cnt ρ => exact fun σ' H' F2 S e2 => h σ' H' F2 S (e.trans e2)
  | ret r ρ => exact fun x σ' H' F2 S e2 => h x σ' H' F2 S (e.trans e2)
def tSt (G : Gh) (f : Env → Option Out) : TS := fun D σ H => ∃ ρ F o, SOk G σ H ρ F ∧ f ρ = some o ∧ EndOk G F D o
theorem ps_weak {st : Stmt} {t t' : TS} (h : PS X st t) (hw : ∀ D σ H, t' D σ H → t D σ H) : PS X st t' := ⟨fun pins s σ H D I w => h.run pins s σ H D I (hw D σ H w)⟩
theorem pss_weak {st : List Stmt} {t t' : TS} (h : PSs X st t) (hw : ∀ D σ H, t' D σ H → t D σ H) : PSs X st t' := ⟨fun pins s σ H D I w => h.run pins s σ H D I (hw D σ H w)⟩
theorem nxO_some {o : Option Env} {u : Out} (h : nxO o = some u) : ∃ ρ, o = some ρ ∧ u = .nx ρ := by
  unfold nxO at h
  cases o with
  | none => cases h
  | some ρ => exact ⟨ρ, rfl, (Option.some.inj h).symm⟩

/-! ### assignments -/
theorem sweak_asg {f : Env → Option (R × Env)} {t : T} (D : Ends) (σ : L2.St) (H : Hp) (h : tSt G (fun ρ => match f ρ with | none => none | some (r, ρ1) => nxO (asgR Φ t r ρ1)) D σ H) : tAsg (tE G f) (gT G Φ t) D σ H := by
  obtain ⟨ρ, F, o, S, q, hq⟩ := h
  cases q1 : f ρ with
  | none => simp only [q1] at q; cases q
  | some p =>
    obtain ⟨r, ρ1⟩ := p
    simp only [q1] at q
    obtain ⟨ρ2, q2, rfl⟩ := nxO_some q
    exact ⟨ρ, F, r, ρ1, S, q1, fun x H1 F1 S1 e1 r1 => ⟨ρ1, F1, r, ρ2, S1, r1, q2, fun σ' F2 S2 e2 _ => hq σ' H1 F2 S2 (e1.trans e2)⟩⟩
/-- is the value a comprehension -/
def isComp : Expr → Bool
  | .ListComp _ _ _ _ => true
  | .SetComp _ _ _ _ => true
  | .DictComp _ _ _ _ _ => true
  | _ => false
theorem sw_plain {v : Expr} {tg : Option Expr} {l : Nat} {env : PySem.Env} (h : isComp v = false) : swapsWith v tg l env = pure false := by
  cases v <;> first | rfl | cases h
/-- swapped stores, as a function of the names' kinds -/
def isTL : Expr → Option (List Expr)
  | .Tuple ts _ _ => some ts
  | .List ts _ => some ts
  | _ => none
def isT : Expr → Option (List Expr)
  | .Tuple ts _ _ => some ts
  | _ => none
def swNames (sc : Scope) (ts : List Expr) : List Str :=
  ts.filterMap fun
    | .Name id pos => if sc.names.lookup id == some .local && pos.line == (ts.head?.map (·.pos.line)).getD 0 then some id else none
    | _ => none
def swNone (sc : Scope) (tg v : Expr) : Bool :=
  match isTL tg with
  | none => true
  | some ts => (match isT v with
    | none => true
    | some vs => !(ts.length == 2 || ts.length == 3) || vs.length != ts.length || (!(vs.any fun | .Starred .. => true | _ => false) && ((swNames sc ts).length != ts.length || (swNames sc ts).eraseDups.length != (swNames sc ts).length || vs.all (foldedForSure 8))))
def swSome (sc : Scope) (tg v : Expr) : Bool :=
  match isTL tg with
  | none => false
  | some ts => (match isT v with
    | none => false
    | some vs => (ts.length == 2 || ts.length == 3) && vs.length == ts.length && !(vs.any fun | .Starred .. => true | _ => false) && (swNames sc ts).length == ts.length && (swNames sc ts).eraseDups.length == (swNames sc ts).length && !(vs.all (foldedForSure 8)) && !(vs.all (constantsAlone 8)))
theorem block_fn {env : PySem.Env} (h : env.scope.kind = .function) : env.blockKind = .function := by
  unfold Env.blockKind; rw [h]; rfl
theorem sw_none {env : PySem.Env} {sc : Scope} {tg v : Expr} (hs : env.scope = sc) (hk : sc.kind = .function) (h : swNone sc tg v = true) : swappedStores [tg] v env = pure none := by
  have hb := block_fn (env := env) (by rw [hs]; exact hk)
  unfold swNone at h
  cases ht : isTL tg with
  | none => cases tg <;> first | (cases ht; done) | (cases v <;> rfl)
  | some ts =>
    rw [ht] at h
    cases hv : isT v with
    | none =>
      cases tg <;> first | (cases ht; done) | skip
      all_goals (cases v <;> first | (cases hv; done) | rfl)
    | some vs =>
      rw [hv] at h
      have e : swappedStores [tg] v env = (do
          if !(ts.length == 2 || ts.length == 3) || vs.length != ts.length || env.blockKind != .function then return none
          if vs.any fun | .Starred .. => true | _ => false then return none
          let line := (ts.head?.map (·.pos.line)).getD 0
          let names := ts.filterMap fun
            | .Name id pos => if env.kindOf id == some .local && pos.line == line then some id else none
            | _ => none
          if names.length != ts.length || names.eraseDups.length != names.length then return none
          if vs.all (foldedForSure 8) then return none
          if vs.all (constantsAlone 8) then unsupported "assign.tuple-of-constant-expressions:order-of-the-stores"
          return some names) := by
        cases tg <;> first | (cases ht; done) | skip
        all_goals (cases v <;> first | (cases hv; done) | skip)
        all_goals (cases ht; cases hv; rfl)
      have hn : swNames sc ts = ts.filterMap (fun
            | .Name id pos => if env.kindOf id == some .local && pos.line == (ts.head?.map (·.pos.line)).getD 0 then some id else none
            | _ => none) := by subst hs; rfl
      have hb' : (env.blockKind != .function) = false := by rw [hb]; rfl
      rw [e, hb', Bool.or_false]
      dsimp only at h
      by_cases c1 : (!(ts.length == 2 || ts.length == 3) || vs.length != ts.length) = true
      · exact if_pos c1
      · refine (if_neg c1).trans ?_
        rw [Bool.eq_false_iff.mpr c1, Bool.false_or] at h
        obtain ⟨h1, h2⟩ := and_tt h
        refine (if_neg (ne_true_of_eq_false (tt_not h1))).trans ?_
        show (if ((ts.filterMap _).length != ts.length || (ts.filterMap _).eraseDups.length != (ts.filterMap _).length) = true then _ else _) = _
        rw [← hn]
        by_cases c2 : ((swNames sc ts).length != ts.length || (swNames sc ts).eraseDups.length != (swNames sc ts).length) = true
        · exact if_pos c2
        · refine (if_neg c2).trans ?_
          rw [Bool.eq_false_iff.mpr c2, Bool.false_or] at h2
          exact if_pos h2
theorem sw_some {env : PySem.Env} {sc : Scope} {ts vs : List Expr} {k k' : Nat} {p p' : Pos} (hs : env.scope = sc) (hk : sc.kind = .function) (h : swSome sc (.Tuple ts k p) (.Tuple vs k' p') = true) : swappedStores [.Tuple ts k p] (.Tuple vs k' p') env = pure (some (swNames sc ts)) := by
  have hb := block_fn (env := env) (by rw [hs]; exact hk)
  have hb' : (env.blockKind != .function) = false := by rw [hb]; rfl
  have e : swappedStores [.Tuple ts k p] (.Tuple vs k' p') env = (do
          if !(ts.length == 2 || ts.length == 3) || vs.length != ts.length || env.blockKind != .function then return none
          if vs.any fun | .Starred .. => true | _ => false then return none
          let line := (ts.head?.map (·.pos.line)).getD 0
          let names := ts.filterMap fun
            | .Name id pos => if env.kindOf id == some .local && pos.line == line then some id else none
            | _ => none
          if names.length != ts.length || names.eraseDups.length != names.length then return none
          if vs.all (foldedForSure 8) then return none
          if vs.all (constantsAlone 8) then unsupported "assign.tuple-of-constant-expressions:order-of-the-stores"
          return some names) := rfl
  have hn : swNames sc ts = ts.filterMap (fun
            | .Name id pos => if env.kindOf id == some .local && pos.line == (ts.head?.map (·.pos.line)).getD 0 then some id else none
            | _ => none) := by subst hs; rfl
  unfold swSome at h
  simp only [isTL, isT] at h
  obtain ⟨h, h7⟩ := and_tt h
  obtain ⟨h, h6⟩ := and_tt h
  obtain ⟨h, h5⟩ := and_tt h
  obtain ⟨h, h4⟩ := and_tt h
  obtain ⟨h, h3⟩ := and_tt h
  obtain ⟨h1, h2⟩ := and_tt h
  rw [e, hb', Bool.or_false]
  refine (if_neg (by rw [h1, bne, h2]; decide)).trans ?_
  refine (if_neg (ne_true_of_eq_false (tt_not h3))).trans ?_
  show (if ((ts.filterMap _).length != ts.length || (ts.filterMap _).eraseDups.length != (ts.filterMap _).length) = true then _ else _) = _
  rw [← hn]
  refine (if_neg (by rw [bne, h4, bne, h5]; decide)).trans ?_
  refine (if_neg (ne_true_of_eq_false (tt_not h6))).trans ?_
  refine (if_neg (ne_true_of_eq_false (tt_not h7))).trans ?_
  rfl

/-! ### several names at once -/
theorem setL2 {i j : Nat} {vs : List PV} (h : setL Φ [i, j] vs ρ = some ρ') : ∃ v w ρ1, vs = [v, w] ∧ setS Φ ρ i (.sh v) = some ρ1 ∧ setS Φ ρ1 j (.sh w) = some ρ' := by
  match vs, h with
  | [v, w], h =>
    have h : (match setS Φ ρ i (.sh v) with | none => none | some ρ1 => (match setS Φ ρ1 j (.sh w) with | none => none | some ρ2 => some ρ2)) = some ρ' := h
    cases q1 : setS Φ ρ i (.sh v) with
    | none => rw [q1] at h; cases h
    | some ρ1 =>
      rw [q1] at h
      simp only at h
      cases q2 : setS Φ ρ1 j (.sh w) with
      | none => rw [q2] at h; cases h
      | some ρ2 =>
        rw [q2] at h
        obtain rfl := Option.some.inj h
        exact ⟨v, w, ρ1, rfl, q1, q2⟩
  | [], h => cases h
  | [v], h =>
    have h : (match setS Φ ρ i (.sh v) with | none => none | some ρ1 => (none : Option Env)) = some ρ' := h
    cases q1 : setS Φ ρ i (.sh v) <;> rw [q1] at h <;> cases h
  | v :: w :: u :: r, h =>
    have h : (match setS Φ ρ i (.sh v) with | none => none | some ρ1 => (match setS Φ ρ1 j (.sh w) with | none => none | some ρ2 => (none : Option Env))) = some ρ' := h
    cases q1 : setS Φ ρ i (.sh v) with
    | none => rw [q1] at h; cases h
    | some ρ1 =>
      rw [q1] at h
      simp only at h
      cases q2 : setS Φ ρ1 j (.sh w) <;> rw [q2] at h <;> cases h
theorem setL3 {i j k : Nat} {vs : List PV} (h : setL Φ [i, j, k] vs ρ = some ρ') : ∃ v w u ρ1 ρ2, vs = [v, w, u] ∧ setS Φ ρ i (.sh v) = some ρ1 ∧ setS Φ ρ1 j (.sh w) = some ρ2 ∧ setS Φ ρ2 k (.sh u) = some ρ' := by
  cases vs with
  | nil => cases h
  | cons v vs =>
    have h : (match setS Φ ρ i (.sh v) with | none => none | some ρ1 => setL Φ [j, k] vs ρ1) = some ρ' := h
    cases q1 : setS Φ ρ i (.sh v) with
    | none => rw [q1] at h; cases h
    | some ρ1 =>
      rw [q1] at h
      obtain ⟨w, u, ρ2, rfl, h1, h2⟩ := setL2 h
      exact ⟨v, w, u, ρ1, ρ2, rfl, q1, h1, h2⟩
abbrev fPar (Φ : Tab) (is : List Nat) (fa : Env → Option (List R × Env)) : Env → Option Out := fun ρ => match fa ρ with
    | none => none
    | some (rs, ρ1) => (match fzL rs ρ1 with | none => none | some (vs, ρ2) => nxO (setL Φ is vs ρ2))
theorem par_some {is : List Nat} {fa : Env → Option (List R × Env)} {o : Out} (h : fPar Φ is fa ρ = some o) : ∃ rs ρ1 vs ρ2 ρ3, fa ρ = some (rs, ρ1) ∧ fzL rs ρ1 = some (vs, ρ2) ∧ setL Φ is vs ρ2 = some ρ3 ∧ o = .nx ρ3 := by
  unfold fPar at h
  cases q1 : fa ρ with
  | none => simp only [q1] at h; cases h
  | some p =>
    obtain ⟨rs, ρ1⟩ := p
    simp only [q1] at h
    cases q2 : fzL rs ρ1 with
    | none => simp only [q2] at h; cases h
    | some p2 =>
      obtain ⟨vs, ρ2⟩ := p2
      simp only [q2] at h
      obtain ⟨ρ3, h1, h2⟩ := nxO_some h
      exact ⟨rs, ρ1, vs, ρ2, ρ3, rfl, q2, h1, h2⟩
theorem sweak_par2 {i j : Nat} {fa : Env → Option (List R × Env)} (L : IoOk G Φ) (D : Ends) (σ : L2.St) (H : Hp) (h : tSt G (fPar Φ [i, j] fa) D σ H) : tPar i j (tA G fa) D σ H := by
  obtain ⟨ρ, F, o, S, q, hq⟩ := h
  obtain ⟨rs, ρ1, vs, ρ2, ρ3, q1, q2, q3, rfl⟩ := par_some q
  refine ⟨ρ, F, rs, ρ1, S, q1, fun xs H1 F1 S1 e1 w1 => ?_⟩
  obtain ⟨F2, e2, S2, R2⟩ := w1.frz S1 q2
  obtain ⟨v, w, ρ4, rfl, h1, h2⟩ := setL2 q3
  cases R2 with
  | cons r1 R2 =>
    cases R2 with
    | cons r2 R2 =>
      cases R2
      exact ⟨_, _, rfl, hq _ H1 F2 ((S2.set L h1 (.inl ⟨v, rfl, r1⟩)).set L h2 (.inl ⟨w, rfl, r2⟩)) (e1.trans e2)⟩
theorem sweak_par3 {i j k : Nat} {fa : Env → Option (List R × Env)} (L : IoOk G Φ) (D : Ends) (σ : L2.St) (H : Hp) (h : tSt G (fPar Φ [i, j, k] fa) D σ H) : tPar3 i j k (tA G fa) D σ H := by
  obtain ⟨ρ, F, o, S, q, hq⟩ := h
  obtain ⟨rs, ρ1, vs, ρ2, ρ3, q1, q2, q3, rfl⟩ := par_some q
  refine ⟨ρ, F, rs, ρ1, S, q1, fun xs H1 F1 S1 e1 w1 => ?_⟩
  obtain ⟨F2, e2, S2, R2⟩ := w1.frz S1 q2
  obtain ⟨v, w, u, ρ4, ρ5, rfl, h1, h2, h3⟩ := setL3 q3
  cases R2 with
  | cons r1 R2 =>
    cases R2 with
    | cons r2 R2 =>
      cases R2 with
      | cons r3 R2 =>
        cases R2
        exact ⟨_, _, _, rfl, hq _ H1 F2 (((S2.set L h1 (.inl ⟨v, rfl, r1⟩)).set L h2 (.inl ⟨w, rfl, r2⟩)).set L h3 (.inl ⟨u, rfl, r3⟩)) (e1.trans e2)⟩

/-! ### x op= e -/
def rdAug (K : Frg) (d : PV → PV → Option PV) : TIp := fun x y H Q => ∃ F px py z, Ext F H ∧ PR K F H x px ∧ PR K F H y py ∧ d px py = some z ∧ ∀ v, Rep K F v z → Q v H
theorem iop_any (o : BiOp) : PIp X (bop o) (rdAug X.kw (aug2 o)) := by
  intro pins s σ H x y v u Q I rx ry h
  obtain ⟨F, px, py, z, e, hx, hy, hd, P⟩ := h
  cases o with
  | add =>
    cases px with
    | int i =>
      cases py with
      | int j =>
        obtain rfl := hx.int
        obtain rfl := hy.int
        obtain rfl := Option.some.inj hd
        exact iop_add pins s σ H _ _ v u Q I rx ry ⟨i, j, rfl, rfl, P _ (.int _)⟩
      | _ => cases hd
    | str a =>
      cases py with
      | str b =>
        obtain ⟨rfl, o1⟩ := hx.str
        obtain ⟨rfl, o2⟩ := hy.str
        have hd' : (if a.length + b.length ≤ line then some (PV.str (a ++ b)) else none) = some z := hd
        by_cases hl : a.length + b.length ≤ line
        · rw [if_pos hl] at hd'
          obtain rfl := Option.some.inj hd'
          refine iop_add_str pins s σ H _ _ v u Q I rx ry ⟨_, _, rfl, rfl, by rw [strP_length, strP_length, ← line_eq]; exact hl, ?_⟩
          rw [strP_append]
          exact P _ (.str _ (okS_append o1 o2 hl))
        · rw [if_neg hl] at hd'; cases hd'
      | _ => cases hd
    | _ => cases hd
  | sub =>
    cases px with
    | int i =>
      cases py with
      | int j =>
        obtain rfl := hx.int
        obtain rfl := hy.int
        obtain rfl := Option.some.inj hd
        exact iop_sub pins s σ H _ _ v u Q I rx ry ⟨i, j, rfl, rfl, P _ (.int _)⟩
      | _ => cases hd
    | _ => cases hd
  | mul =>
    cases px with
    | int i =>
      cases py with
      | int j =>
        obtain rfl := hx.int
        obtain rfl := hy.int
        obtain ⟨h1, rfl⟩ := ite_some (show (if mulOk i j = true then some (PV.int (i * j)) else none) = some z from hd)
        exact iop_mul pins s σ H _ _ v u Q I rx ry ⟨i, j, rfl, rfl, mulOk_c h1, P _ (.int _)⟩
      | _ => cases hd
    | _ => cases hd
  | fdiv =>
    cases px with
    | int i =>
      cases py with
      | int j =>
        obtain rfl := hx.int
        obtain rfl := hy.int
        obtain ⟨h1, rfl⟩ := ite_some (show (if (decide (0 < j) && divW j) = true then some (PV.int (i / j)) else none) = some z from hd)
        obtain ⟨h1, h2⟩ := and_tt h1
        exact iop_fdivW pins s σ H _ _ v u Q I rx ry ⟨i, j, rfl, rfl, ⟨of_decide_eq_true h1, (divW_c h2).2⟩, P _ (.int _)⟩
      | _ => cases hd
    | _ => cases hd
  | mod =>
    cases px with
    | int i =>
      cases py with
      | int j =>
        obtain rfl := hx.int
        obtain rfl := hy.int
        have hd : (if 0 < j then some (PV.int (i % j)) else none) = some z := hd
        by_cases hj : 0 < j
        · rw [if_pos hj] at hd
          obtain rfl := Option.some.inj hd
          exact iop_mod pins s σ H _ _ v u Q I rx ry ⟨i, j, rfl, rfl, hj, P _ (.int _)⟩
        · rw [if_neg hj] at hd; cases hd
      | _ => cases hd
    | _ => cases hd
abbrev fAug (Φ : Tab) (i : Nat) (o : BiOp) (f : Env → Option (R × Env)) : Env → Option Out := fun ρ => match slotAt ρ i with
    | .sh x => (match f ρ with
      | none => none
      | some (r, ρ1) => (match pk r ρ1 with
        | none => none
        | some y => (match aug2 o x y with | none => none | some z => nxO (setS Φ ρ1 i (.sh z)))))
    | _ => none
theorem sweak_aug {i : Nat} {o : BiOp} {f : Env → Option (R × Env)} (L : IoOk G Φ) (D : Ends) (σ : L2.St) (H : Hp) (h : tSt G (fAug Φ i o f) D σ H) : tAug i (tE G f) (rdAug G.K (aug2 o)) D σ H := by
  obtain ⟨ρ, F, u, S, q, hq⟩ := h
  unfold fAug at q
  cases q0 : slotAt ρ i with
  | none => rw [q0] at q; cases q
  | own _ => rw [q0] at q; cases q
  | sh x =>
    rw [q0] at q
    simp only at q
    cases q1 : f ρ with
    | none => rw [q1] at q; cases q
    | some p =>
      obtain ⟨r, ρ1⟩ := p
      rw [q1] at q
      simp only at q
      cases q2 : pk r ρ1 with
      | none => rw [q2] at q; cases q
      | some y =>
        rw [q2] at q
        simp only at q
        cases q3 : aug2 o x y with
        | none => rw [q3] at q; cases q
        | some z =>
          rw [q3] at q
          simp only at q
          obtain ⟨ρ2, h1, rfl⟩ := nxO_some q
          obtain ⟨a, g1, g2⟩ := S.sh i x q0
          refine ⟨a, g1, ρ, F, r, ρ1, S, q1, fun b H1 F1 S1 e1 r1 => ?_⟩
          exact ⟨F1, x, y, z, S1.sub, .inl (g2.mono e1 _ _), r1.peek S1 q2, q3, fun v rv => hq _ H1 F1 (S1.set L h1 (.inl ⟨z, rfl, rv⟩)) e1⟩

/-! ### x[i] = e -/
abbrev fSet (x : Nat) (fi fe : Env → Option (R × Env)) : Env → Option Out := fun ρ => match fe ρ with
    | none => none
    | some (r, ρ1) => (match slotAt ρ1 x with
      | .own (.lst _) => (match fi ρ1 with
        | none => none
        | some (ri, ρ2) => (match fz (wt r) ρ2 with
          | none => none
          | some (v, ρ3) => (match pk ri ρ3 with
            | some (.int k) => (match slotAt ρ3 x with
              | .own (.lst l) => (match Py.ixN l.length k with | none => none | some j => some (.nx (ρ3.set x (.own (.lst (l.set j v))))))
              | _ => none)
            | _ => none)))
      | _ => none)
theorem pk_int {ρ2 : Env} {F2 F3 : Hp} {x : V} {ri : R} {k : Int} (r : RR G σ H F2 ρ2 x ri) (S3 : SOk G σ H ρ F3) (e : Ext F2 F3) (q : pk ri ρ = some (.int k)) : x = .int k := by
  cases ri with
  | sh v =>
    obtain rfl := Option.some.inj (show some v = some (.int k) from q)
    have r' : Rep G.K F2 x (.int k) := r
    cases r'
    rfl
  | own v =>
    obtain rfl := Option.some.inj (show some v = some (.int k) from q)
    obtain ⟨_, _, _, h, _⟩ := r
    exact h.elim
  | slot j =>
    exact ((show RR G σ H F3 ρ x (.slot j) from r).peek S3 q).int
theorem sweak_set {x : Nat} {fi fe : Env → Option (R × Env)} (D : Ends) (σ : L2.St) (H : Hp) (h : tSt G (fSet x fi fe) D σ H) : tAsg (tE G fe) (gSub (tVar x) (tE G fi) rSetL) D σ H := by
  obtain ⟨ρ, F, u, S, q, hq⟩ := h
  unfold fSet at q
  cases q1 : fe ρ with
  | none => rw [q1] at q; cases q
  | some p =>
    obtain ⟨r, ρ1⟩ := p
    rw [q1] at q
    simp only at q
    cases q2 : slotAt ρ1 x with
    | none => rw [q2] at q; cases q
    | sh _ => rw [q2] at q; cases q
    | own w =>
     cases w with
     | lst w =>
      rw [q2] at q
      simp only at q
      cases q3 : fi ρ1 with
      | none => rw [q3] at q; cases q
      | some p2 =>
        obtain ⟨ri, ρ2⟩ := p2
        rw [q3] at q
        simp only at q
        cases q4 : fz (wt r) ρ2 with
        | none => rw [q4] at q; cases q
        | some p3 =>
          obtain ⟨v, ρ3⟩ := p3
          rw [q4] at q
          simp only at q
          cases q5 : pk ri ρ3 with
          | none => rw [q5] at q; cases q
          | some kv =>
            rw [q5] at q
            cases kv with
            | int k =>
              simp only at q
              cases q6 : slotAt ρ3 x with
              | none => rw [q6] at q; cases q
              | sh _ => rw [q6] at q; cases q
              | own w2 =>
                rw [q6] at q
                cases w2 with
                | lst l =>
                  simp only at q
                  cases q7 : Py.ixN l.length k with
                  | none => rw [q7] at q; cases q
                  | some j =>
                    rw [q7] at q
                    simp only at q
                    obtain rfl := Option.some.inj q
                    refine ⟨ρ, F, r, ρ1, S, q1, fun y H1 F1 S1 e1 r1 => ?_⟩
                    obtain ⟨F1', e1', S1', w1⟩ := r1.wait S1
                    obtain ⟨a, xs0, g1, g2⟩ := own_lst S1' q2
                    refine ⟨.ref a, g1, ρ1, F1', ri, ρ2, S1', q3, fun iv H2 F2 S2 e2 r2 => ?_⟩
                    obtain ⟨F3, e3, S3, R3⟩ := (WR.rr (w1.mono e2) : RR G σ H2 F2 ρ2 y (wt r)).frz S2 q4
                    obtain rfl := pk_int r2 S3 e3 q5
                    obtain ⟨a', h1, h2, ⟨xs, h3, rr⟩, h4⟩ := S3.own x _ q6
                    obtain rfl : a = a' := by rw [g1] at h1; simpa using h1
                    refine ⟨a, xs, k, j, rfl, rfl, h3, ?_, ?_⟩
                    · rw [rr.length]; exact q7
                    · exact hq σ _ F3 (S3.mut q6 h1 ⟨_, upd_same, rr.set j R3⟩) (e1.trans (e1'.trans (e2.trans e3)))
                | _ => cases q
            | _ => cases q
     | _ => rw [q2] at q; cases q
/-- d[i] = e, whatever the keys are -/
def sDPut2 (K : Frg) (td ty tv : TE) : TS := fun D σ H => tv σ H fun v H1 => td σ H1 fun x H2 => ty σ H2 fun y H3 =>
  (∃ a H4, x = .ref a ∧ DPut H3 a y v H4 ∧ D.nx σ H4) ∨
  ∃ a b k F ks bs ys, x = .ref a ∧ y = .ref b ∧ Ext F H3 ∧ DicT K.2 H3 a true ks bs ys ∧ RepL K F bs ks ∧ Rep K F (.ref b) k ∧ isTupP k = true ∧ ks.length < line ∧
    ∀ xs, Ent (putKs k ks) (putBs k (.ref b) ks bs) (putYs k v ks ys) xs → D.nx σ (upd H3 a (.ext (dEx a K.2 xs)))
theorem ps_dput2 {o i value : Expr} {pos pos' : Pos} {td ty tv : TE} (hu : X.A.units + 65 < cLine) (ho : PE X o td) (hi : PE X i ty) (hv : PE X value tv) (hs : swapsWith value (some (.Subscript o i pos')) pos.line X.env = pure false) :
    PS X (.Assign [.Subscript o i pos'] value pos) (sDPut2 X.kw td ty tv) := by
  refine ⟨fun pins s σ H D I h => wpAny_Assign_Subscript (thn (hv.run pins s σ H _ I h) fun r s1 ⟨v, H1, I1, rv, q1⟩ => thn (ho.run pins s1 σ H1 _ I1 q1) fun u s2 ⟨x, H2, I2, rx, q2⟩ => thn (hi.run pins s2 σ H2 _ I2 q2) fun iv s3 ⟨y, H3, I3, ry, q3⟩ => ?_) hs⟩
  rcases q3 with ⟨a, H4, rfl, g, q3⟩ | ⟨a, b, k, F, ks, bs, ys, rfl, rfl, e, ⟨_, xs, d1, d2, d3, d4⟩, rb, rk, hk, hl, q3⟩
  · obtain rfl : u = Value.ref a := rx
    exact d_setItem (by omega) I3 g ry rv fun s4 I4 => ⟨σ, H4, I4, q3⟩
  · obtain rfl : u = Value.ref a := rx
    obtain rfl : iv = Value.ref b := ry
    obtain ⟨z, hm⟩ := dct_at I3 e d1 d2 d3 d4 rb
    have hz : sizeLine = 16777216 := sizeLine_eq
    have hl2 : ks.length < 16777216 := hl
    have hxl := d2.len
    refine wpAny_setItem_heap (knd := nestedKind X.prog X.w) (k := nk k) (hsz := by omega) (by show X.A.units + 1 + 8 < cLine; omega) (key_is I3 e hk rk) hm fun h' dd' hs' => ?_
    have he : ∃ q, h'.get? a = some q := let ⟨q, _, _, hq, _⟩ := dd'; ⟨q, hq⟩
    exact ⟨σ, _, d_write I3 (by rw [d1]; exact True.intro) hs' he (dEx_obj (P := X.prog) z dd'), q3 _ (ent_put hk rv d2 d4)⟩
abbrev fKey (x : Nat) (fi fe : Env → Option (R × Env)) : Env → Option Out := fun ρ => match fe ρ with
    | none => none
    | some (r, ρ1) => (match slotAt ρ1 x with
      | .own (.dict _ _ _) => (match fi ρ1 with
        | none => none
        | some (ri, ρ2) => (match fz (wt r) ρ2 with
          | none => none
          | some (v, ρ3) => (match pk ri ρ3 with
            | none => none
            | some k => (match slotAt ρ3 x with
              | .own (.dict t ks vs) => if keyB t k && decide (ks.length < line) then some (.nx (ρ3.set x (.own (.dict t (putKs k ks) (putVs k v ks vs))))) else none
              | _ => none))))
      | _ => none)
theorem keyB_or {t : Bool} {k : PV} (h : keyB t k = true) : isTupP k = true ∨ leafK k = true := by
  cases t with
  | true => exact .inl h
  | false => exact .inr h
theorem pk_pr {ρ2 : Env} {F2 F3 : Hp} {x : V} {ri : R} {k : PV} (r : RR G σ H F2 ρ2 x ri) (S3 : SOk G σ H ρ F3) (e : Ext F2 F3) (hl : isTupP k = true ∨ leafK k = true) (q : pk ri ρ = some k) : PR G.K F3 H x k := by
  cases ri with
  | sh v =>
    obtain rfl := Option.some.inj (show some v = some k from q)
    exact .inl (Rep.mono e _ _ r)
  | own v =>
    obtain rfl := Option.some.inj (show some v = some k from q)
    obtain ⟨_, _, _, h, _⟩ := r
    rcases hl with hl | hl <;> cases v <;> first | (exact h.elim) | cases hl
  | slot j => exact (show RR G σ H F3 ρ x (.slot j) from r).peek S3 q
theorem sweak_key {x : Nat} {fi fe : Env → Option (R × Env)} (D : Ends) (σ : L2.St) (H : Hp) (h : tSt G (fKey x fi fe) D σ H) : sDPut2 G.K (tVar x) (tE G fi) (tE G fe) D σ H := by
  obtain ⟨ρ, F, u, S, q, hq⟩ := h
  unfold fKey at q
  cases q1 : fe ρ with
  | none => rw [q1] at q; cases q
  | some p =>
    obtain ⟨r, ρ1⟩ := p
    rw [q1] at q
    simp only at q
    split at q
    · rename_i t0 ks0 vs0 q2
      cases q3 : fi ρ1 with
      | none => rw [q3] at q; cases q
      | some p2 =>
        obtain ⟨ri, ρ2⟩ := p2
        rw [q3] at q
        simp only at q
        cases q4 : fz (wt r) ρ2 with
        | none => rw [q4] at q; cases q
        | some p3 =>
          obtain ⟨v, ρ3⟩ := p3
          rw [q4] at q
          simp only at q
          cases q5 : pk ri ρ3 with
          | none => rw [q5] at q; cases q
          | some k =>
            rw [q5] at q
            simp only at q
            split at q
            · rename_i t ks vs q6
              obtain ⟨hc, rfl⟩ := ite_some q
              obtain ⟨hl, hz⟩ := and_tt hc
              have hz := of_decide_eq_true hz
              refine ⟨ρ, F, r, ρ1, S, q1, fun y H1 F1 S1 e1 r1 => ?_⟩
              obtain ⟨F1', e1', S1', w1⟩ := r1.wait S1
              obtain ⟨a, g1, _, _, _⟩ := S1'.own x _ q2
              refine ⟨.ref a, g1, ρ1, F1', ri, ρ2, S1', q3, fun iv H2 F2 S2 e2 r2 => ?_⟩
              obtain ⟨F3, e3, S3, R3⟩ := (WR.rr (w1.mono e2) : RR G σ H2 F2 ρ2 y (wt r)).frz S2 q4
              have hkr := pk_pr r2 S3 e3 (keyB_or hl) q5
              obtain ⟨a', h1, h2, hM, h4⟩ := S3.own x _ q6
              obtain rfl : a = a' := by rw [g1] at h1; simpa using h1
              cases t with
              | false =>
                obtain ⟨kk, hk, rfl⟩ := leaf_key hl hkr
                rcases hM with ⟨xs, ⟨_, kvs, d1, d2, rfl⟩, rr⟩ | ⟨_, _, ⟨z, _⟩, _⟩
                · obtain ⟨p1, p2⟩ := put_rel hk R3 d2 rr
                  have hlen : kvs.length = ks.length := by simpa using congrArg List.length d2
                  exact .inl ⟨a, _, rfl, DPut.k d1 (by rw [hlen, ← line_eq]; exact hz), hq σ _ F3 (S3.mut q6 h1 (.inl ⟨_, ⟨rfl, _, upd_same, p1, rfl⟩, p2⟩)) (e1.trans (e1'.trans (e2.trans e3)))⟩
                · cases z
              | true =>
                have hl : isTupP k = true := hl
                have hk' : Rep G.K F3 iv k := by
                  rcases hkr with hkr | ⟨_, _, _, hkr⟩
                  · exact hkr
                  · cases k <;> first | exact hkr.elim | cases hl
                obtain ⟨b, rfl⟩ := isTup_ref hl hk'
                rcases hM with ⟨_, ⟨z, _⟩, _⟩ | ⟨bs, ys, dT, rb, ry⟩
                · cases z
                · obtain ⟨_, xs, d1, d2, d3, d4⟩ := id dT
                  exact .inr ⟨a, b, k, F3, ks, bs, ys, rfl, rfl, S3.sub, dT, rb, hk', hl, hz, fun xs' en => hq σ _ F3 (S3.mut q6 h1 (.inr ⟨_, _, ⟨rfl, xs', upd_same, en, putKs_nd hl d4 d3, putKs_all hl d4⟩, rep_putBs hk' rb, rep_putYs R3 ry⟩)) (e1.trans (e1'.trans (e2.trans e3)))⟩
            · cases q
    · cases q
end
end Py

/-! Pv17: loops; the check of statements and its soundness. -/
namespace Py
open PySem PySem.Spec PyProof.Rows L2
section
variable {Φ : Tab} {C : Ck} {X : Cx} {G : Gh} {σ : L2.St} {H H' : Hp} {ρ ρ' : Env} {F F' : Hp} {pos : Pos}

theorem sweak_for {t : T} {fi : Env → Option (List PV × Env)} {fb : Env → Option Out} (D : Ends) (σ : L2.St) (H : Hp)
    (h : tSt G (fun ρ => match fi ρ with | none => none | some (xs, ρ1) => loopF (fun x ρ' => asgV Φ t x ρ') fb xs ρ1) D σ H) : tFor (tI G fi) (gT G Φ t) (tSt G fb) D σ H := by
  obtain ⟨ρ, F, o, S, q, hq⟩ := h
  cases q1 : fi ρ with
  | none => simp only [q1] at q; cases q
  | some p =>
    obtain ⟨xs, ρ1⟩ := p
    simp only [q1] at q
    refine ⟨ρ, F, xs, ρ1, S, q1, fun J H1 F1 S1 e1 WO => ?_⟩
    refine ⟨fun i m σ H => m = xs.length - i ∧ i ≤ xs.length ∧ ∃ F2 ρ2, Ext F1 F2 ∧ SOk G σ H ρ2 F2 ∧ loopF (fun x ρ' => asgV Φ t x ρ') fb (xs.drop i) ρ2 = some o,
      ⟨xs.length, by simp, Nat.zero_le _, F1, ρ1, Ext.refl F1, S1, by simpa using q⟩, ?_⟩
    rintro i m σ2 H2 ⟨rfl, hi, F2, ρ2, e2, S2, ql⟩
    by_cases hlt : i < xs.length
    · refine .inr ⟨WO.go i F2 H2 e2 S2.sub hlt, fun σ' H' => ∃ F3 ρ3, Ext F1 F3 ∧ SOk G σ' H' ρ3 F3 ∧ loopF (fun x ρ' => asgV Φ t x ρ') fb (xs.drop (i + 1)) ρ3 = some o,
        fun σ' H' hN => ⟨xs.length - (i + 1), by omega, rfl, hlt, hN⟩, fun x H3 hyld => ?_⟩
      have hp : xs[i]? = some xs[i] := List.getElem?_eq_getElem hlt
      obtain ⟨F3, a1, a2, a3, a4, rx⟩ := WO.yld i _ F2 H2 x H3 e2 S2.sub hp hyld
      have S3 : SOk G σ2 H3 ρ2 F3 := S2.grow a3 a1 a2 a4
      rw [List.drop_eq_getElem_cons hlt] at ql
      unfold loopF at ql
      cases qa : asgV Φ t xs[i] ρ2 with
      | none => simp only [qa] at ql; cases ql
      | some ρa =>
        simp only [qa] at ql
        rw [asgV_R] at qa
        refine ⟨ρ2, F3, .sh xs[i], ρa, S3, rx, qa, fun σ4 F4 S4 e4 sm => ?_⟩
        cases qb : fb ρa with
        | none => simp only [qb] at ql; cases ql
        | some ob =>
          simp only [qb] at ql
          have ee := e2.trans (a1.trans e4)
          refine ⟨ρa, F4, ob, S4, qb, ?_⟩
          cases ob with
          | nx ρb => exact fun σ5 H5 F5 S5 e5 => ⟨F5, ρb, ee.trans e5, S5, ql⟩
          | cnt ρb => exact fun σ5 H5 F5 S5 e5 => ⟨F5, ρb, ee.trans e5, S5, ql⟩
          | brk ρb =>
            obtain rfl := Option.some.inj ql
            exact fun σ5 H5 F5 S5 e5 => hq σ5 H5 F5 S5 (e1.trans (ee.trans e5))
          | ret r ρb =>
            obtain rfl := Option.some.inj ql
            exact fun x σ5 H5 F5 S5 e5 r5 => hq x σ5 H5 F5 S5 (e1.trans (ee.trans e5)) r5
    · have hie : xs.length ≤ i := by omega
      refine .inl ⟨WO.stop i F2 H2 e2 S2.sub hie, ?_⟩
      rw [List.drop_eq_nil_of_le hie] at ql
      unfold loopF at ql
      obtain rfl := Option.some.inj ql
      exact hq σ2 H2 F2 S2 (e1.trans e2)
theorem sweak_while {n : Nat} {fc : Env → Option (Bool × Env)} {fb : Env → Option Out} (D : Ends) (σ : L2.St) (H : Hp)
    (h : tSt G (fun ρ => loopW fc fb n ρ) D σ H) : tWhile (tB G fc) (tSt G fb) D σ H := by
  obtain ⟨ρ, F, o, S, q, hq⟩ := h
  refine ⟨fun m σ H => ∃ F2 ρ2, Ext F F2 ∧ SOk G σ H ρ2 F2 ∧ loopW fc fb m ρ2 = some o, ⟨n, F, ρ, Ext.refl F, S, q⟩, ?_⟩
  rintro m σ2 H2 ⟨F2, ρ2, e2, S2, ql⟩
  cases m with
  | zero => cases ql
  | succ m =>
    unfold loopW at ql
    cases qc : fc ρ2 with
    | none => simp only [qc] at ql; cases ql
    | some pc =>
      obtain ⟨k, ρc⟩ := pc
      refine ⟨ρ2, F2, k, ρc, S2, qc, fun H3 F3 S3 e3 => ?_⟩
      cases k with
      | false =>
        simp only [qc] at ql
        obtain rfl := Option.some.inj ql
        dsimp only
        rw [if_neg Bool.false_ne_true]
        exact hq σ2 H3 F3 S3 (e2.trans e3)
      | true =>
        simp only [qc] at ql
        dsimp only
        rw [if_pos rfl]
        refine ⟨fun σ' H' => ∃ F3 ρ3, Ext F F3 ∧ SOk G σ' H' ρ3 F3 ∧ loopW fc fb m ρ3 = some o, fun σ' H' hN => ⟨m, Nat.lt_succ_self m, hN⟩, ?_⟩
        cases qb : fb ρc with
        | none => simp only [qb] at ql; cases ql
        | some ob =>
          simp only [qb] at ql
          have ee := e2.trans e3
          refine ⟨ρc, F3, ob, S3, qb, ?_⟩
          cases ob with
          | nx ρb => exact fun σ5 H5 F5 S5 e5 => ⟨F5, ρb, ee.trans e5, S5, ql⟩
          | cnt ρb => exact fun σ5 H5 F5 S5 e5 => ⟨F5, ρb, ee.trans e5, S5, ql⟩
          | brk ρb =>
            obtain rfl := Option.some.inj ql
            exact fun σ5 H5 F5 S5 e5 => hq σ5 H5 F5 S5 (ee.trans e5)
          | ret r ρb =>
            obtain rfl := Option.some.inj ql
            exact fun x σ5 H5 F5 S5 e5 r5 => hq x σ5 H5 F5 S5 (ee.trans e5) r5

/-! ### the check -/
/-- how a plain assignment of v to tg is done: no exchange of stores -/
def asgOk (C : Ck) (tg v : Expr) : Bool := !isStar tg && !isComp v && decide (C.sc.kind = .function) && swNone C.sc tg v
/-- y = [..] on one line, y a local name -/
def lcOk (C : Ck) (y : Str) (py pos : Pos) (scope : Scope) : Bool :=
  decide (C.sc.kind = .function) && decide (C.sc.names.lookup y = some .local) && (py.line == pos.line) && !(scope.names.any fun (n, k) => n == y && (k == .local || k == .cell))
def nmOf : Expr → Option Str
  | .Name x _ => some x
  | _ => none
/-- a target to which a comprehension is stored in the plain way: a name that an inner scope reads, or several names -/
def swF (C : Ck) : Expr → Bool
  | .Name y _ => decide (C.sc.names.lookup y = some .cell)
  | .Tuple _ _ _ => true
  | _ => false
mutual
def chkS (C : Ck) : S → Stmt → Bool
  | .asg t e, s => (match s with
    | .Assign [tg] v _ => (match v with
      | .ListComp b [⟨tg', iter, ifs, 0⟩] scope pos => if swF C tg then !isStar tg && decide (C.sc.kind = .function) && swNone C.sc tg (.ListComp b [⟨tg', iter, ifs, 0⟩] scope pos) && chkT C t tg && chkE C e (.ListComp b [⟨tg', iter, ifs, 0⟩] scope pos) else (match tg with
        | .Name y py => (match t with
          | .name i => (match e with
            | .lc e2 t2 it cs own => lcOk C y py pos scope && decide (C.N[i]? = some y) && chkE C (.lc e2 t2 it cs own) (.ListComp b [⟨tg', iter, ifs, 0⟩] scope pos)
            | _ => false)
          | _ => false)
        | _ => false)
      | v => asgOk C tg v && chkT C t tg && chkE C e v)
    | _ => false)
  | .par is es, s => (match s with
    | .Assign [.Tuple ts k p] (.Tuple vs k' p') _ => decide (C.sc.kind = .function) && swSome C.sc (.Tuple ts k p) (.Tuple vs k' p') && decide (ts.map nmOf = is.map fun i => C.N[i]?) && ts.all (fun t => match nmOf t with | some x => decide (C.sc.names.lookup x = some .local) | none => false) && decide (is.Nodup) && chkEs C es vs && decide (swNames C.sc ts = is.filterMap fun i => C.N[i]?)
    | _ => false)
  | .aug i o e, s => (match s with
    | .AugAssign (.Name x _) o' v _ => decide (o' = bop o) && decide (C.N[i]? = some x) && decide (C.sc.names.lookup x = some .local) && chkE C e v
    | _ => false)
  | .setix x i e, s => (match s with
    | .Assign [.Subscript (.Name y p) i' q] v _ => !isSlice i' && !isComp v && okVar C x y && chkE C i i' && chkE C e v
    | _ => false)
  | .setkey x i e, s => (match s with
    | .Assign [.Subscript (.Name y p) i' q] v _ => !isSlice i' && !isComp v && okVar C x y && chkE C i i' && chkE C e v
    | _ => false)
  | .mut m x es, s => (match s with
    | .Expr v _ => !isComp v && chkE C (.pop x m es) v
    | _ => false)
  | .expr e, s => (match s with | .Expr v _ => !isComp v && chkE C e v | _ => false)
  | .ret e, s => (match s with | .Return (some v) _ => chkE C e v | _ => false)
  | .retN, s => (match s with | .Return none _ => true | _ => false)
  | .ife c a b, s => (match s with | .If c' a' b' _ => chkE C c c' && chkSs C a a' && chkSs C b b' | _ => false)
  | .for t it b, s => (match s with | .For tg iter b' [] _ => !isSet iter && chkI C it iter (isTup tg) && chkT C t tg && chkSs C b b' | _ => false)
  | .while c b, s => (match s with | .While c' b' [] _ => chkE C c c' && chkSs C b b' | _ => false)
  | .brk, s => (match s with | .Break _ => true | _ => false)
  | .cnt, s => (match s with | .Continue _ => true | _ => false)
  | .pas, s => (match s with | .Pass _ => true | .Expr (.Constant (.str _) _ _) _ => true | _ => false)
  | .never, _ => true
def chkSs (C : Ck) : Ss → List Stmt → Bool
  | .nil, ss => (match ss with | [] => true | _ :: _ => false)
  | .cons s ss, xs => (match xs with | [] => false | x :: xs => chkS C s x && chkSs C ss xs)
end
def SS (Φ : Tab) (C : Ck) (n : Nat) (s : S) (st : Stmt) : Prop := ∀ (X : Cx) (G : Gh), Cok Φ C X G → (∀ e s', ¬ X.xe e s') → PS X st (tSt G (ex Φ n s))
def SSs (Φ : Tab) (C : Ck) (n : Nat) (s : Ss) (st : List Stmt) : Prop := ∀ (X : Cx) (G : Gh), Cok Φ C X G → (∀ e s', ¬ X.xe e s') → PSs X st (tSt G (exs Φ n s))
theorem ps_as {st : Stmt} {f g : Env → Option Out} (h : PS X st (tSt G f)) (eq : ∀ ρ, g ρ = f ρ) : PS X st (tSt G g) := by
  rw [show g = f from funext eq]; exact h
theorem pss_as {st : List Stmt} {f g : Env → Option Out} (h : PSs X st (tSt G f)) (eq : ∀ ρ, g ρ = f ρ) : PSs X st (tSt G g) := by
  rw [show g = f from funext eq]; exact h
theorem each1 {tg : Expr} (h : isStar tg = false) : (assignEach [tg] X.env).map (·.2) = [assign tg X.env] := (each_of (X := X) h).1
theorem s_asg {tg v : Expr} {t : T} {e : E} {spos : Pos} {n : Nat} (c : Cok Φ C X G) (h1 : asgOk C tg v = true) (h2 : chkT C t tg = true) (h3 : chkE C e v = true) : PS X (.Assign [tg] v spos) (tSt G (ex Φ n (.asg t e))) := by
  unfold asgOk at h1
  obtain ⟨h1, k4⟩ := and_tt h1
  obtain ⟨h1, k3⟩ := and_tt h1
  obtain ⟨k1, k2⟩ := and_tt h1
  have he := (sE e C v h3 X G c).1
  have hg := sT t tg h2 c
  refine ps_as (ps_weak (ps_asg he hg ?_ (sw_none c.sc (of_decide_eq_true k3) k4) (each1 (tt_not k1))) sweak_asg) fun ρ => rfl
  show swapsWith v (some tg) spos.line X.env = pure false
  exact sw_plain (tt_not k2)
theorem s_lcs {y : Str} {py pos spos : Pos} {b tg iter : Expr} {ifs : List Expr} {scope : Scope} {e : E} {t : T} {it : I} {cs : Es} {own : List Nat} {i n : Nat} (c : Cok Φ C X G) (h1 : lcOk C y py pos scope = true) (hi : C.N[i]? = some y) (h3 : chkE C (.lc e t it cs own) (.ListComp b [⟨tg, iter, ifs, 0⟩] scope pos) = true) :
    PS X (.Assign [.Name y py] (.ListComp b [⟨tg, iter, ifs, 0⟩] scope pos) spos) (tSt G (ex Φ n (.asg (.name i) (.lc e t it cs own)))) := by
  unfold lcOk at h1
  obtain ⟨h1, k4⟩ := and_tt h1
  obtain ⟨h1, k3⟩ := and_tt h1
  obtain ⟨k1, k2⟩ := and_tt h1
  have hy : X.env.scope.names.lookup y = some .local := by rw [c.sc]; exact of_decide_eq_true k2
  have hN : X.N[i]? = some y := by rw [c.hN]; exact hi
  have hk : X.env.scope.kind = .function := by rw [c.sc]; exact of_decide_eq_true k1
  unfold chkE at h3
  obtain ⟨h, h7⟩ := and_tt h3
  obtain ⟨h, h6⟩ := and_tt h
  obtain ⟨h, h5⟩ := and_tt h
  obtain ⟨h, h4⟩ := and_tt h
  obtain ⟨h, h3⟩ := and_tt h
  obtain ⟨h1, h2⟩ := and_tt h
  obtain ⟨m1, m2, m3, m4, m5, m6, m7⟩ := s_lc c h1 (tt_not h2) h3 (sI it C _ _ h4) h5 (sEs cs _ _ h6) (sE e _ _ h7)
  have hp := ps_setLc (py := py) (pos := pos) (spos := spos) c.calm c.nodup hN hy (sw_true hk hy k3 (tt_not k4)) m1 m2 m4 m5 m6 m3
  rw [own_map] at hp
  refine ps_weak hp fun D σ H w => ?_
  obtain ⟨ρ, F, o, S, q, hq⟩ := w
  have w2 := sweak_asg (Φ := Φ) (t := .name i) (f := ev Φ (.lc e t it cs own)) D σ H ⟨ρ, F, o, S, q, hq⟩
  show tLc (tI G (evI Φ it)) (gAll G Φ t) (tBAll G (evC Φ cs)) (tEAll G (ev Φ e)) own σ H (fun x H1 => gName i x σ H1 D.nx)
  refine m7 σ H _ ?_
  obtain ⟨ρ, F, r, ρ1, S, q1, k⟩ := w2
  refine ⟨ρ, F, r, ρ1, S, q1, fun x H1 F1 S1 e1 r1 => ?_⟩
  obtain ⟨ρ2, F2, r2, ρ3, S2, rr2, q2, k2⟩ := k x H1 F1 S1 e1 r1
  obtain ⟨F3, e3, S3⟩ := S2.asg c.io rr2 q2
  exact k2 _ F3 S3 e3 ⟨by rw [List.length_set], fun j hj => List.getElem?_set_ne (fun z => hj (by rw [← z]; exact .name i))⟩
theorem s_lcF {tg tg' b iter : Expr} {ifs : List Expr} {scope : Scope} {pos spos : Pos} {t : T} {e : E} {n : Nat} (c : Cok Φ C X G) (hw : swF C tg = true) (h1 : (!isStar tg) = true) (h2 : decide (C.sc.kind = .function) = true) (h3 : swNone C.sc tg (.ListComp b [⟨tg', iter, ifs, 0⟩] scope pos) = true) (h4 : chkT C t tg = true) (h5 : chkE C e (.ListComp b [⟨tg', iter, ifs, 0⟩] scope pos) = true) : PS X (.Assign [tg] (.ListComp b [⟨tg', iter, ifs, 0⟩] scope pos) spos) (tSt G (ex Φ n (.asg t e))) := by
  have he := (sE e C _ h5 X G c).1
  have hg := sT t tg h4 c
  refine ps_as (ps_weak (ps_asg he hg ?_ (sw_none c.sc (of_decide_eq_true h2) h3) (each1 (tt_not h1))) sweak_asg) fun ρ => rfl
  show swapsWith (.ListComp b [⟨tg', iter, ifs, 0⟩] scope pos) (some tg) spos.line X.env = pure false
  cases tg with
  | Name y py =>
    have hy : X.env.kindOf y = some .cell := by
      show X.env.scope.names.lookup y = _
      rw [c.sc]; exact of_decide_eq_true hw
    unfold swapsWith
    simp only [hy]
    cases X.env.blockKind <;> rfl
  | Tuple _ _ _ => rfl
  | _ => cases hw
theorem nm_of {t : Expr} {x : Str} (h : nmOf t = some x) : ∃ p, t = .Name x p := by
  cases t <;> first | (cases h; done) | (cases h; exact ⟨_, rfl⟩)
theorem s_par {ts vs : List Expr} {is : List Nat} {es : Es} {k k' : Nat} {p p' spos : Pos} {n : Nat} (c : Cok Φ C X G) (hk : C.sc.kind = .function) (h1 : swSome C.sc (.Tuple ts k p) (.Tuple vs k' p') = true) (h2 : ts.map nmOf = is.map fun i => C.N[i]?)
    (h3 : ts.all (fun t => match nmOf t with | some x => decide (C.sc.names.lookup x = some .local) | none => false) = true) (hn : is.Nodup) (h4 : chkEs C es vs = true) (h5 : swNames C.sc ts = is.filterMap fun i => C.N[i]?) :
    PS X (.Assign [.Tuple ts k p] (.Tuple vs k' p') spos) (tSt G (ex Φ n (.par is es))) := by
  have hw := sw_some (env := X.env) c.sc hk h1
  have ih := sEs es C vs h4 X G c
  have hl : ts.length = is.length := by
    have := congrArg List.length h2
    simpa using this
  unfold swSome at h1
  simp only [isTL, isT] at h1
  obtain ⟨h, _⟩ := and_tt h1
  obtain ⟨h, _⟩ := and_tt h
  obtain ⟨h, _⟩ := and_tt h
  obtain ⟨h, _⟩ := and_tt h
  obtain ⟨h, _⟩ := and_tt h
  obtain ⟨l1, l2⟩ := and_tt h
  have l2 : vs.length = ts.length := eq_of_beq l2
  rw [Bool.or_eq_true, beq_iff_eq, beq_iff_eq] at l1
  have loc : ∀ t ∈ ts, ∀ x, nmOf t = some x → X.env.scope.names.lookup x = some .local := fun t ht x hx => by
    have := List.all_eq_true.mp h3 t ht
    rw [hx] at this
    rw [c.sc]
    exact of_decide_eq_true this
  have kind : ∀ t ∈ ts, ∃ x, nmOf t = some x := fun t ht => by
    have := List.all_eq_true.mp h3 t ht
    cases q : nmOf t with
    | none => rw [q] at this; cases this
    | some x => exact ⟨x, rfl⟩
  rcases l1 with l1 | l1
  · match ts, is, vs, hl, l1, l2 with
    | [t1, t2], [i, j], [a, b], _, _, _ =>
      obtain ⟨x, hx⟩ := kind t1 (by simp)
      obtain ⟨y, hy⟩ := kind t2 (by simp)
      have e1 : nmOf t1 = C.N[i]? ∧ nmOf t2 = C.N[j]? := by simpa using h2
      have kx := loc t1 (by simp) x hx
      have ky := loc t2 (by simp) y hy
      obtain ⟨px, rfl⟩ := nm_of hx
      obtain ⟨py, rfl⟩ := nm_of hy
      have ni : C.N[i]? = some x := by rw [← e1.1]; exact hx
      have nj : C.N[j]? = some y := by rw [← e1.2]; exact hy
      have e5 : swNames C.sc [.Name x px, .Name y py] = [x, y] := by rw [h5]; simp [ni, nj]
      rw [e5] at hw
      have hij : i ≠ j := by simpa using hn
      exact ps_as (ps_weak (ps_par (px := px) (py := py) (pt := p) (kt := k) (k2 := k') (pt2 := p') (pos := spos) c.calm c.nodup (by rw [c.hN]; exact ni) (by rw [c.hN]; exact nj) hij kx ky ih.pa hw) (sweak_par2 c.io)) fun ρ => rfl
  · match ts, is, vs, hl, l1, l2 with
    | [t1, t2, t3], [i, j, l], [a, b, d], _, _, _ =>
      obtain ⟨x, hx⟩ := kind t1 (by simp)
      obtain ⟨y, hy⟩ := kind t2 (by simp)
      obtain ⟨z, hz⟩ := kind t3 (by simp)
      have e1 : nmOf t1 = C.N[i]? ∧ nmOf t2 = C.N[j]? ∧ nmOf t3 = C.N[l]? := by simpa using h2
      have kx := loc t1 (by simp) x hx
      have ky := loc t2 (by simp) y hy
      have kz := loc t3 (by simp) z hz
      obtain ⟨px, rfl⟩ := nm_of hx
      obtain ⟨py, rfl⟩ := nm_of hy
      obtain ⟨pz, rfl⟩ := nm_of hz
      have ni : C.N[i]? = some x := by rw [← e1.1]; exact hx
      have nj : C.N[j]? = some y := by rw [← e1.2.1]; exact hy
      have nl : C.N[l]? = some z := by rw [← e1.2.2]; exact hz
      have e5 : swNames C.sc [.Name x px, .Name y py, .Name z pz] = [x, y, z] := by rw [h5]; simp [ni, nj, nl]
      rw [e5] at hw
      have hd : ¬ i = j ∧ ¬ i = l ∧ ¬ j = l := by
        have : (¬ i = j ∧ ¬ i = l) ∧ ¬ j = l := by simpa using hn
        exact ⟨this.1.1, this.1.2, this.2⟩
      exact ps_as (ps_weak (ps_par3 (px := px) (py := py) (pz := pz) (pt := p) (kt := k) (k2 := k') (pt2 := p') (pos := spos) c.calm c.nodup (by rw [c.hN]; exact ni) (by rw [c.hN]; exact nj) (by rw [c.hN]; exact nl) hd.1 hd.2.1 hd.2.2 kx ky kz ih.pa hw) (sweak_par3 c.io)) fun ρ => rfl
mutual
theorem sS (n : Nat) : ∀ (s : S) (st : Stmt), chkS C s st = true → SS Φ C n s st
  | .asg t e, st, h => fun X G c hx => by
    unfold chkS at h
    split at h
    · split at h
      · split at h
        · rename_i hsw
          obtain ⟨h, h5⟩ := and_tt h
          obtain ⟨h, h4⟩ := and_tt h
          obtain ⟨h, h3⟩ := and_tt h
          obtain ⟨h1, h2⟩ := and_tt h
          exact s_lcF c hsw h1 h2 h3 h4 h5
        · split at h
          · split at h
            · split at h
              · obtain ⟨h, h3⟩ := and_tt h
                obtain ⟨h1, h2⟩ := and_tt h
                exact s_lcs c h1 (of_decide_eq_true h2) h3
              · cases h
            · cases h
          · cases h
      · obtain ⟨h, h3⟩ := and_tt h
        obtain ⟨h1, h2⟩ := and_tt h
        exact s_asg c h1 h2 h3
    · cases h
  | .par is es, st, h => fun X G c hx => by
    unfold chkS at h
    split at h
    · obtain ⟨h, h7⟩ := and_tt h
      obtain ⟨h, h6⟩ := and_tt h
      obtain ⟨h, h5⟩ := and_tt h
      obtain ⟨h, h4⟩ := and_tt h
      obtain ⟨h, h3⟩ := and_tt h
      obtain ⟨h1, h2⟩ := and_tt h
      exact s_par c (of_decide_eq_true h1) h2 (of_decide_eq_true h3) h4 (of_decide_eq_true h5) h6 (of_decide_eq_true h7)
    · cases h
  | .aug i o e, st, h => fun X G c hx => by
    unfold chkS at h
    split at h
    · rename_i x px o' v pos
      obtain ⟨h, h4⟩ := and_tt h
      obtain ⟨h, h3⟩ := and_tt h
      obtain ⟨h1, h2⟩ := and_tt h
      obtain rfl := of_decide_eq_true h1
      have hl : X.env.scope.names.lookup x = some .local := by rw [c.sc]; exact of_decide_eq_true h3
      have hi := iop_any (X := X) o
      rw [← c.K] at hi
      exact ps_as (ps_weak (ps_aug (pos' := px) (pos := pos) c.nodup (by rw [c.hN]; exact of_decide_eq_true h2) (.inl hl) (sE e C v h4 X G c).1 hi (.inr hl)) (sweak_aug c.io)) fun ρ => rfl
    · cases h
  | .setix x i e, st, h => fun X G c hx => by
    unfold chkS at h
    split at h
    · rename_i y p i' q v pos
      obtain ⟨h, h5⟩ := and_tt h
      obtain ⟨h, h4⟩ := and_tt h
      obtain ⟨h, h3⟩ := and_tt h
      obtain ⟨h1, h2⟩ := and_tt h
      obtain ⟨k1, k2, k3, k4⟩ := c.var h3
      have hg := pg_sub (pos := q) (pe_var (pos := p) k1 k2 k3 k4) (sE i C i' h4 X G c).1 set_list (by
        intro v
        cases i' <;> first | rfl | (cases h1; done))
      have hs : swapsWithSole [.Subscript (.Name y p) i' q] v pos.line X.env = pure false := by
        show swapsWith v (some (.Subscript (.Name y p) i' q)) pos.line X.env = pure false
        exact sw_plain (tt_not h2)
      exact ps_as (ps_weak (ps_asg (sE e C v h5 X G c).1 hg hs (by cases v <;> rfl) rfl) sweak_set) fun ρ => rfl
    · cases h
  | .setkey x i e, st, h => fun X G c hx => by
    unfold chkS at h
    split at h
    · rename_i y p i' q v pos
      obtain ⟨h, h5⟩ := and_tt h
      obtain ⟨h, h4⟩ := and_tt h
      obtain ⟨h, h3⟩ := and_tt h
      obtain ⟨h1, h2⟩ := and_tt h
      obtain ⟨k1, k2, k3, k4⟩ := c.var h3
      have hs : swapsWith v (some (.Subscript (.Name y p) i' q)) pos.line X.env = pure false := sw_plain (tt_not h2)
      have hu := c.un
      exact ps_as (ps_weak (ps_dput2 (by omega) (pe_var (pos := p) k1 k2 k3 k4) (sE i C i' h4 X G c).1 (sE e C v h5 X G c).1 hs) (fun D σ H hh => by have := sweak_key D σ H hh; rw [c.K] at this; exact this)) fun ρ => rfl
    · cases h
  | .mut m x es, st, h => fun X G c hx => by
    unfold chkS at h
    split at h
    · rename_i v pos
      obtain ⟨h1, h2⟩ := and_tt h
      refine ps_weak (ps_expr (sE (.pop x m es) C v h2 X G c).1 (sw_plain (tt_not h1))) fun D σ H ⟨ρ, F, o, S, q, hq⟩ => ?_
      have q' : (match ev Φ (.pop x m es) ρ with | none => none | some (_, ρ1) => some (Out.nx ρ1)) = some o := q
      cases q1 : ev Φ (.pop x m es) ρ with
      | none => rw [q1] at q'; cases q'
      | some pr =>
        obtain ⟨r, ρ1⟩ := pr
        rw [q1] at q'
        obtain rfl := Option.some.inj q'
        exact ⟨ρ, F, r, ρ1, S, q1, fun y H' F' S' e' _ => hq σ H' F' S' e'⟩
    · cases h
  | .expr e, st, h => fun X G c hx => by
    unfold chkS at h
    split at h
    · obtain ⟨h1, h2⟩ := and_tt h
      refine ps_weak (ps_expr (sE e C _ h2 X G c).1 (sw_plain (tt_not h1))) fun D σ H ⟨ρ, F, o, S, q, hq⟩ => ?_
      have q' : (match ev Φ e ρ with | none => none | some (_, ρ1) => some (Out.nx ρ1)) = some o := q
      cases q1 : ev Φ e ρ with
      | none => rw [q1] at q'; cases q'
      | some pr =>
        obtain ⟨r, ρ1⟩ := pr
        rw [q1] at q'
        obtain rfl := Option.some.inj q'
        exact ⟨ρ, F, r, ρ1, S, q1, fun y H' F' S' e' _ => hq σ H' F' S' e'⟩
    · cases h
  | .ret e, st, h => fun X G c hx => by
    unfold chkS at h
    split at h
    · refine ps_weak (ps_ret (sE e C _ h X G c).1) fun D σ H ⟨ρ, F, o, S, q, hq⟩ => ?_
      have q' : (match ev Φ e ρ with | none => none | some (r, ρ1) => some (Out.ret r ρ1)) = some o := q
      cases q1 : ev Φ e ρ with
      | none => rw [q1] at q'; cases q'
      | some pr =>
        obtain ⟨r, ρ1⟩ := pr
        rw [q1] at q'
        obtain rfl := Option.some.inj q'
        exact ⟨ρ, F, r, ρ1, S, q1, fun y H' F' S' e' r' => hq y σ H' F' S' e' r'⟩
    · cases h
  | .retN, st, h => fun X G c hx => by
    unfold chkS at h
    split at h
    · refine ps_weak ps_retN fun D σ H ⟨ρ, F, o, S, q, hq⟩ => ?_
      obtain rfl := Option.some.inj (show some (Out.ret (.sh .non) ρ) = some o from q)
      exact hq .non σ H F S (Ext.refl F) .non
    · cases h
  | .ife b s1 s2, st, h => fun X G c hx => by
    unfold chkS at h
    split at h
    · obtain ⟨h, h3⟩ := and_tt h
      obtain ⟨h1, h2⟩ := and_tt h
      refine ps_weak (ps_if (sE b C _ h1 X G c).2 (sSs n s1 _ h2 X G c hx) (sSs n s2 _ h3 X G c hx)) fun D σ H ⟨ρ, F, o, S, q, hq⟩ => ?_
      have q' : (match tstR (ev Φ b ρ) with | none => none | some (k, ρ1) => if k then exs Φ n s1 ρ1 else exs Φ n s2 ρ1) = some o := q
      cases q1 : tstR (ev Φ b ρ) with
      | none => rw [q1] at q'; cases q'
      | some pr =>
        obtain ⟨k, ρ1⟩ := pr
        rw [q1] at q'
        refine ⟨ρ, F, k, ρ1, S, q1, fun H1 F1 S1 e1 => ?_⟩
        cases k with
        | true => exact ⟨ρ1, F1, o, S1, q', hq.mono e1⟩
        | false => exact ⟨ρ1, F1, o, S1, q', hq.mono e1⟩
    · cases h
  | .for t it b, st, h => fun X G c hx => by
    unfold chkS at h
    split at h
    · obtain ⟨h, h4⟩ := and_tt h
      obtain ⟨h, h3⟩ := and_tt h
      obtain ⟨h1, h2⟩ := and_tt h
      have hp : PassesOwn (model X.prog X.w) X.A X.env X.xe := fun e s' z => (hx e s' z).elim
      exact ps_as (ps_weak (ps_for hp c.calm (sI it C _ _ h2 X G c _ id) (sT t _ h3 c) (sSs n b _ h4 X G c hx) (set_of (tt_not h1) _)) sweak_for) fun ρ => rfl
    · cases h
  | .while b s, st, h => fun X G c hx => by
    unfold chkS at h
    split at h
    · obtain ⟨h1, h2⟩ := and_tt h
      have hp : PassesOwn (model X.prog X.w) X.A X.env X.xe := fun e s' z => (hx e s' z).elim
      exact ps_as (ps_weak (ps_while hp (sE b C _ h1 X G c).2 (sSs n s _ h2 X G c hx)) sweak_while) fun ρ => rfl
    · cases h
  | .brk, st, h => fun X G c hx => by
    unfold chkS at h
    split at h
    · refine ps_weak ps_break fun D σ H ⟨ρ, F, o, S, q, hq⟩ => ?_
      obtain rfl := Option.some.inj (show some (Out.brk ρ) = some o from q)
      exact hq σ H F S (Ext.refl F)
    · cases h
  | .cnt, st, h => fun X G c hx => by
    unfold chkS at h
    split at h
    · refine ps_weak ps_continue fun D σ H ⟨ρ, F, o, S, q, hq⟩ => ?_
      obtain rfl := Option.some.inj (show some (Out.cnt ρ) = some o from q)
      exact hq σ H F S (Ext.refl F)
    · cases h
  | .pas, st, h => fun X G c hx => by
    unfold chkS at h
    split at h
    · refine ps_weak ps_pass fun D σ H ⟨ρ, F, o, S, q, hq⟩ => ?_
      obtain rfl := Option.some.inj (show some (Out.nx ρ) = some o from q)
      exact hq σ H F S (Ext.refl F)
    · refine ps_weak ps_doc fun D σ H ⟨ρ, F, o, S, q, hq⟩ => ?_
      obtain rfl := Option.some.inj (show some (Out.nx ρ) = some o from q)
      exact hq σ H F S (Ext.refl F)
    · cases h
  | .never, st, h => fun X G c hx => by
    refine ps_weak ps_never fun D σ H ⟨ρ, F, o, S, q, hq⟩ => ?_
    have q' : (none : Option Out) = some o := q
    cases q'
theorem sSs (n : Nat) : ∀ (s : Ss) (st : List Stmt), chkSs C s st = true → SSs Φ C n s st
  | .nil, st, h => fun X G c hx => by
    unfold chkSs at h
    cases st with
    | cons _ _ => cases h
    | nil =>
      refine pss_weak pss_nil fun D σ H ⟨ρ, F, o, S, q, hq⟩ => ?_
      obtain rfl := Option.some.inj (show some (Out.nx ρ) = some o from q)
      exact hq σ H F S (Ext.refl F)
  | .cons s ss, st, h => fun X G c hx => by
    unfold chkSs at h
    cases st with
    | nil => cases h
    | cons st sts =>
      obtain ⟨h1, h2⟩ := and_tt h
      refine pss_weak (pss_cons (sS n s st h1 X G c hx) (sSs n ss sts h2 X G c hx)) fun D σ H ⟨ρ, F, o, S, q, hq⟩ => ?_
      have q' : (match ex Φ n s ρ with
        | none => none
        | some (.nx ρ1) => exs Φ n ss ρ1
        | some (.ret r ρ1) => some (.ret r ρ1)
        | some (.brk ρ1) => some (.brk ρ1)
        | some (.cnt ρ1) => some (.cnt ρ1)) = some o := q
      cases q1 : ex Φ n s ρ with
      | none => rw [q1] at q'; cases q'
      | some o1 =>
        rw [q1] at q'
        refine ⟨ρ, F, o1, S, q1, ?_⟩
        cases o1 with
        | nx ρ1 => exact fun σ' H' F' S' e' => ⟨ρ1, F', o, S', q', hq.mono e'⟩
        | ret r ρ1 =>
          obtain rfl := Option.some.inj q'
          exact hq
        | brk ρ1 =>
          obtain rfl := Option.some.inj q'
          exact hq
        | cnt ρ1 =>
          obtain rfl := Option.some.inj q'
          exact hq
end
end
end Py

/-! Pv18: a def keeps its promise. -/
namespace Py
open PySem PySem.Spec PyProof.Rows L2
section
variable {G : Gh} {K : Frg} {F H : Hp}

theorem repl_at : ∀ {vs : List V} {as : List PV} {i : Nat}, RepL K F vs as → (∀ v, slotAt (as.map Slot.sh) i = .sh v → ∃ x, (vs.map some)[i]? = some (some x) ∧ Rep K F x v)
  | _, _, i, .nil => fun v h => by simp [slotAt] at h
  | _, _, 0, .cons r t => fun v h => by
    have h' : Slot.sh _ = Slot.sh v := h
    injection h' with h'
    subst h'
    exact ⟨_, rfl, r⟩
  | _, _, i + 1, .cons r t => fun v h => by
    obtain ⟨x, h1, h2⟩ := repl_at (i := i) t v (show slotAt _ i = .sh v from h)
    exact ⟨x, h1, h2⟩
theorem sh_not_own : ∀ (as : List PV) (i : Nat) (w : PV), slotAt (as.map Slot.sh) i ≠ .own w
  | [], i, w => by simp [slotAt]
  | a :: as, 0, w => by intro h; have h' : Slot.sh a = Slot.own w := h; cases h'
  | a :: as, i + 1, w => by
    intro h
    exact sh_not_own as i w (by simpa [slotAt] using h)
theorem slot_app {ρ : Env} {n i : Nat} : slotAt (ρ ++ List.replicate n .none) i = slotAt ρ i := by
  unfold slotAt
  rw [List.getD_eq_getElem?_getD, List.getD_eq_getElem?_getD]
  by_cases h : i < ρ.length
  · rw [List.getElem?_append_left h]
  · rw [List.getElem?_append_right (by omega), List.getElem?_eq_none (l := ρ) (by omega), List.getElem?_replicate]
    split <;> rfl
theorem start_at {N : List Str} {vs : List V} {i : Nat} {x : V} (h : (vs.map some)[i]? = some (some x)) : (L2.start N vs)[i]? = some (some x) := by
  unfold L2.start
  have hi : i < (vs.map some).length := by
    by_cases hi : i < (vs.map some).length
    · exact hi
    · rw [List.getElem?_eq_none (by omega)] at h; cases h
  rw [List.getElem?_append_left hi]
  exact h
/-- the state at the entry, all arguments frozen -/
theorem start_sh {N : List Str} {vs : List V} {as : List PV} {fd : Fd} (hio : fd.io = false) (hn : fd.ns = N.length) (hle : as.length ≤ N.length) (e : Ext F H) (r : RepL K F vs as) : SOk ⟨K, H, F, none⟩ (L2.start N vs) H (startE fd as) F := by
  have hl := r.length
  have hs : startE fd as = as.map Slot.sh ++ List.replicate (fd.ns - as.length) .none := by
    unfold startE
    cases as with
    | nil => rfl
    | cons a r => simp [hio]
  rw [hs]
  refine ⟨?_, e, fun a o h _ => h, fun i v h => ?_, fun i v h => ?_, fun i j v w a h _ _ _ => ?_, fun a h => (by cases h), fun a o _ _ => rfl⟩
  · unfold L2.start
    simp [hn, hl]
  · rw [slot_app] at h
    obtain ⟨x, h1, h2⟩ := repl_at r v h
    exact ⟨x, start_at h1, h2⟩
  · rw [slot_app] at h; exact absurd h (sh_not_own as i v)
  · rw [slot_app] at h; exact absurd h (sh_not_own as i v)
theorem start_io {N : List Str} {vr : List V} {as : List PV} {p : PV} {l : Addr} {fd : Fd} (hio : fd.io = true) (hn : fd.ns = N.length) (hle : as.length + 1 ≤ N.length) (e : Ext F H) (r : RepL K F vr as) (nF : F l = none) (M : MRep K F H l p) :
    SOk ⟨K, H, F, some l⟩ (L2.start N (.ref l :: vr)) H (startE fd (p :: as)) F := by
  have hl := r.length
  have hs : startE fd (p :: as) = (Slot.own p :: as.map Slot.sh) ++ List.replicate (fd.ns - (p :: as).length) .none := by
    unfold startE
    simp [hio]
  rw [hs]
  clear hs
  have at0 : ∀ i s, slotAt ((Slot.own p :: as.map Slot.sh) ++ List.replicate (fd.ns - (p :: as).length) .none) i = s → (i = 0 ∧ s = .own p) ∨ (∃ j, i = j + 1 ∧ slotAt (as.map Slot.sh) j = s) := fun i s h => by
    rw [slot_app] at h
    cases i with
    | zero => exact .inl ⟨rfl, h.symm⟩
    | succ j => exact .inr ⟨j, rfl, by simpa [slotAt] using h⟩
  refine ⟨?_, e, fun a o h _ => h, fun i v h => ?_, fun i v h => ?_, fun i j v w a h1 h2 _ _ => ?_, fun a h => ?_, fun a o _ _ => rfl⟩
  · unfold L2.start
    simp [hn, hl]
  · rcases at0 i _ h with ⟨_, h'⟩ | ⟨j, rfl, h'⟩
    · cases h'
    · obtain ⟨x, h1, h2⟩ := repl_at r v h'
      exact ⟨x, start_at (show (List.map some (V.ref l :: vr))[j + 1]? = _ from h1), h2⟩
  · rcases at0 i _ h with ⟨rfl, h'⟩ | ⟨j, rfl, h'⟩
    · injection h' with h'
      subst h'
      exact ⟨l, start_at rfl, nF, M, .inr rfl⟩
    · exact absurd h' (sh_not_own as j v)
  · rcases at0 i _ h1 with ⟨rfl, _⟩ | ⟨k, rfl, h'⟩
    · rcases at0 j _ h2 with ⟨rfl, _⟩ | ⟨k, rfl, h'⟩
      · rfl
      · exact absurd h' (sh_not_own as k w)
    · exact absurd h' (sh_not_own as k v)
  · obtain rfl : l = a := Option.some.inj h
    exact ⟨start_at rfl, M.there⟩

/-! ### the end -/
theorem end_val {σ : L2.St} {H' F' : Hp} {ρ : Env} {x : V} {r : R} {fd : Fd} {ret : Ret} (S : SOk G σ H' ρ F') (hio : ∀ a, G.io = some a → fd.io = true) (rr : RR G σ H' F' ρ x r) (h : retE fd r ρ = some ret) :
    outE fd ρ = some ret.out ∧ ResOk G.K F' G.H0 H' x (resOf ret) := by
  unfold retE at h
  cases ho : outE fd ρ with
  | none => rw [ho] at h; cases h
  | some o =>
    rw [ho] at h
    simp only at h
    cases r with
    | sh v =>
      obtain rfl := Option.some.inj h
      exact ⟨rfl, rr⟩
    | own v =>
      obtain rfl := Option.some.inj h
      obtain ⟨a, rfl, h1, h2, h3, _⟩ := rr
      exact ⟨rfl, a, rfl, h3, h1, h2⟩
    | slot i =>
      simp only at h
      by_cases hz : (fd.io && i == 0) = true
      · rw [if_pos hz] at h; cases h
      · rw [if_neg hz] at h
        have rr' : σ[i]? = some (some x) := rr
        cases qs : slotAt ρ i with
        | none => rw [qs] at h; cases h
        | sh v =>
          rw [qs] at h
          obtain rfl := Option.some.inj h
          obtain ⟨y, h1, h2⟩ := S.sh i v qs
          rw [rr'] at h1
          obtain rfl : x = y := by simpa using h1
          exact ⟨rfl, h2⟩
        | own v =>
          rw [qs] at h
          obtain rfl := Option.some.inj h
          obtain ⟨a, h1, h2, h3, h4⟩ := S.own i v qs
          rw [rr'] at h1
          obtain rfl : x = .ref a := by simpa using h1
          refine ⟨rfl, a, rfl, ?_, h2, h3⟩
          rcases h4 with h4 | h4
          · exact h4
          · exfalso
            have hf := hio a h4
            obtain ⟨g1, _⟩ := S.pin a h4
            unfold outE at ho
            rw [hf] at ho
            simp only [if_true] at ho
            cases q0 : slotAt ρ 0 with
            | none => rw [q0] at ho; cases ho
            | sh _ => rw [q0] at ho; cases ho
            | own w =>
              have := S.sep i 0 v w a qs q0 rr' g1
              rw [this, hf] at hz
              exact hz rfl
section
variable {P : Program} {w : World} {mg : Str → Option Value} {base : Heap}
/-- what the module tells: constants, free names -/
structure Tell (K : Frg) (mg : Str → Option Value) (glob : Nat → Option PV) (globs : List Str) : Prop where
  blt : ∀ x ∈ bltNames, mg x = none
  gl : ∀ g v, glob g = some v → ∃ x u y, globs[g]? = some x ∧ mg x = some u ∧ RelV y u ∧ Rep K (fun _ => none) y v
variable {K : PySem.W.Frag}
def DefOk (P : Program) (w : World) (K : PySem.W.Frag) (mg : Str → Option Value) (base : Heap) (k : Nat) (x : Str) (d : Den) : Prop :=
  ∃ (f : Addr) (fd : FuncData) (ps : List Str), mg x = some (.ref f) ∧ PySem.W.keepIn K (.ref f) = true ∧ Binds K fd ps [] ∧ FnG P w K mg base k f fd ps (spD (K, w) d.np d)
def AllOk (P : Program) (w : World) (K : PySem.W.Frag) (mg : Str → Option Value) (base : Heap) (k : Nat) (fns : List Str) (ds : List Den) : Prop := ∀ (i : Nat) (d : Den), ds[i]? = some d → ∃ x, fns[i]? = some x ∧ DefOk P w K mg base k x d
def denOf (glob : Nat → Option PV) (ds : List Den) (n : Nat) (fd : Fd) : Den := ⟨fd.np, fd.io, run glob (fun i => ds[i]?) n fd⟩
def chkD (globs fns N ps : List Str) (scope : Scope) (body : List Stmt) (fd : Fd) : Bool :=
  C8.scC N ps scope && chkSs ⟨N, scope, fun _ => true, globs, fns⟩ fd.body body && decide (fd.ns = N.length) && decide (fd.np = ps.length) && decide (1 ≤ ps.length || !fd.io)
theorem run_ok {x : Str} {params : Arguments} {body : List Stmt} {scope : Scope} {f : Addr} {fdd : FuncData} {glob : Nat → Option PV} {globs fns N ps : List Str} {ds : List Den} {k n : Nat} {fd : Fd}
    (Fn : FunD K x x params body scope [] [] f fdd) (T : Tell (K, w) mg glob globs) (A0 : AllOk P w K mg base k fns ds) (hc : chkD globs fns N ps scope body fd = true) :
    FnG P w K mg base (k + 1) f fdd ps (spD (K, w) fd.np (denOf glob ds n fd)) := by
  unfold chkD at hc
  obtain ⟨hc, c5⟩ := and_tt hc
  obtain ⟨hc, c4⟩ := and_tt hc
  obtain ⟨hc, c3⟩ := and_tt hc
  obtain ⟨c1, c2⟩ := and_tt hc
  have S := C8.fnScope_by c1
  have hns := of_decide_eq_true c3
  have hnp := of_decide_eq_true c4
  have hps : ps.length ≤ N.length := by
    have := congrArg List.length S.pre
    rw [List.length_take] at this
    omega
  refine FnG.of Fn S (fun vs H Q E h => by rw [h.1]; exact hnp) (fun cdv A outer s H vs Q E hr hgd h => ?_)
  obtain ⟨hlen, h⟩ := h
  have cok : ∀ G : Gh, G.K = (K, w) → IoOk G ⟨glob, fun i => ds[i]?, fd.io⟩ → Cok ⟨glob, fun i => ds[i]?, fd.io⟩ ⟨N, scope, fun _ => true, globs, fns⟩ (cxOf CX0 P w K mg base N x scope f cdv A outer s H E).nox G := fun G hG hio =>
    { hN := rfl, nd := S.nd, sc := rfl, K := hG, calm := rfl, un := by have := hr.un; show (A.deeper _).units + 65 < _; omega, gd := hgd, io := hio, fn := fun _ _ => rfl, blt := T.blt, gl := T.gl,
      def' := fun i d hd => by
        obtain ⟨y, h1, f', fd', ps', g1, g2, g3, g4⟩ := A0 i d hd
        exact ⟨y, h1, ⟨k, f', fd', ps', g1, g2, g3, g4, hr, hgd⟩⟩ }
  have body_ok : ∀ G : Gh, G.K = (K, w) → IoOk G ⟨glob, fun i => ds[i]?, fd.io⟩ → PSs (cxOf CX0 P w K mg base N x scope f cdv A outer s H E).nox body (tSt G (exs ⟨glob, fun i => ds[i]?, fd.io⟩ n fd.body)) := fun G hG hio =>
    sSs n fd.body body c2 _ G (cok G hG hio) (fun _ _ z => z)
  have hio' : (denOf glob ds n fd).io = fd.io := rfl
  rw [hio'] at h
  -- the run
  have runs : ∀ (as : List PV) (ret : Ret), (denOf glob ds n fd).f as = some ret → ∃ o, exs ⟨glob, fun i => ds[i]?, fd.io⟩ n fd.body (startE fd as) = some o ∧ as.length = fd.np ∧ ((∃ ρ, o = .nx ρ ∧ retE fd (.sh .non) ρ = some ret) ∨ ∃ r ρ, o = .ret r ρ ∧ retE fd r ρ = some ret) := fun as ret q => by
    have q : run glob (fun i => ds[i]?) n fd as = some ret := q
    unfold run at q
    by_cases hl : as.length = fd.np
    · rw [if_pos hl] at q
      cases qe : exs ⟨glob, fun i => ds[i]?, fd.io⟩ n fd.body (startE fd as) with
      | none => rw [qe] at q; cases q
      | some o =>
        rw [qe] at q
        refine ⟨o, rfl, hl, ?_⟩
        cases o with
        | nx ρ => exact .inl ⟨ρ, rfl, q⟩
        | ret r ρ => exact .inr ⟨r, ρ, rfl, q⟩
        | brk ρ => cases q
        | cnt ρ => cases q
    · rw [if_neg hl] at q; cases q
  by_cases hio : fd.io = true
  · rw [if_pos hio] at h
    obtain ⟨F, l, p, as, vr, ret, rfl, e, nF, M, r, hd, Pq⟩ := h
    obtain ⟨o, ho, hl, hend⟩ := runs _ _ hd
    have hle : as.length + 1 ≤ N.length := by rw [← hns]; have : (p :: as).length = fd.np := hl; rw [List.length_cons] at this; omega
    have L : IoOk (⟨(K, w), H, F, some l⟩ : Gh) ⟨glob, fun i => ds[i]?, fd.io⟩ := fun _ _ => hio
    have S0 := start_io hio hns hle e r nF M
    refine ⟨_, (body_ok ⟨(K, w), H, F, some l⟩ rfl L).nox, startE fd (p :: as), F, o, S0, ho, ?_⟩
    have fin : ∀ (r : R) (ρ : Env) (x : V) (σ' : L2.St) (H' F' : Hp), retE fd r ρ = some ret → SOk ⟨(K, w), H, F, some l⟩ σ' H' ρ F' → Ext F F' → RR ⟨(K, w), H, F, some l⟩ σ' H' F' ρ x r → Q x H' := fun r ρ x σ' H' F' hr' S' e' rr => by
      obtain ⟨ho', hres⟩ := end_val S' (fun _ _ => hio) rr hr'
      unfold outE at ho'
      rw [hio] at ho'
      simp only [if_true] at ho'
      cases q0 : slotAt ρ 0 with
      | none => rw [q0] at ho'; cases ho'
      | sh _ => rw [q0] at ho'; cases ho'
      | own u =>
        rw [q0] at ho'
        obtain rfl := Option.some.inj ho'
        obtain ⟨a, g1, g2, g3, _⟩ := S'.own 0 _ q0
        obtain ⟨p1, _⟩ := S'.pin l rfl
        obtain rfl : a = l := by rw [g1] at p1; simpa using p1
        refine Pq x H' F' (fun b o hb hne => S'.keep b o hb (fun z => hne (Option.some.inj z).symm)) e' S'.sub (fun b o hb => ?_) g3 hres
        by_cases hbl : b = a
        · rw [hbl, g2, nF]
        · exact S'.old b o hb (fun z => hbl (Option.some.inj z).symm)
    rcases hend with ⟨ρ, rfl, hr'⟩ | ⟨r, ρ, rfl, hr'⟩
    · exact fun σ' H' F' S' e' => fin _ ρ .non σ' H' F' hr' S' e' (show Rep (K, w) F' .non .non from .non)
    · exact fun x σ' H' F' S' e' rr => fin r ρ x σ' H' F' hr' S' e' rr
  · rw [if_neg hio] at h
    have hio2 : fd.io = false := by simpa using hio
    obtain ⟨F, as, ret, e, r, hd, Pq⟩ := h
    obtain ⟨o, ho, hl, hend⟩ := runs _ _ hd
    have hle : as.length ≤ N.length := by rw [← hns]; omega
    have L : IoOk (⟨(K, w), H, F, none⟩ : Gh) ⟨glob, fun i => ds[i]?, fd.io⟩ := fun _ z => by cases z
    have S0 := start_sh hio2 hns hle e r
    refine ⟨_, (body_ok ⟨(K, w), H, F, none⟩ rfl L).nox, startE fd as, F, o, S0, ho, ?_⟩
    have fin : ∀ (r : R) (ρ : Env) (x : V) (σ' : L2.St) (H' F' : Hp), retE fd r ρ = some ret → SOk ⟨(K, w), H, F, none⟩ σ' H' ρ F' → Ext F F' → RR ⟨(K, w), H, F, none⟩ σ' H' F' ρ x r → Q x H' := fun r ρ x σ' H' F' hr' S' e' rr => by
      obtain ⟨_, hres⟩ := end_val S' (fun _ z => by cases z) rr hr'
      exact Pq x H' F' (fun b o hb => S'.keep b o hb (fun z => by cases z)) e' S'.sub (fun b o hb => S'.old b o hb (fun z => by cases z)) hres
    rcases hend with ⟨ρ, rfl, hr'⟩ | ⟨r, ρ, rfl, hr'⟩
    · exact fun σ' H' F' S' e' => fin _ ρ .non σ' H' F' hr' S' e' (show Rep (K, w) F' .non .non from .non)
    · exact fun x σ' H' F' S' e' rr => fin r ρ x σ' H' F' hr' S' e' rr
theorem AllOk.nil : AllOk P w K mg base 0 [] [] := fun i d h => by simp at h
theorem AllOk.snoc {k : Nat} {fns : List Str} {ds : List Den} {x : Str} {d : Den} (hl : fns.length = ds.length) (A : AllOk P w K mg base k fns ds) (D : DefOk P w K mg base (k + 1) x d) : AllOk P w K mg base (k + 1) (fns ++ [x]) (ds ++ [d]) := by
  intro i d' h
  by_cases hi : i < ds.length
  · rw [List.getElem?_append_left hi] at h
    obtain ⟨y, h1, f, fd, ps, g1, g2, g3, g4⟩ := A i d' h
    exact ⟨y, by rw [List.getElem?_append_left (by omega)]; exact h1, f, fd, ps, g1, g2, g3, g4.mono (Nat.le_succ k)⟩
  · rw [List.getElem?_append_right (by omega)] at h
    cases hz : i - ds.length with
    | zero =>
      rw [hz] at h
      obtain rfl : d = d' := by simpa using h
      exact ⟨x, by rw [List.getElem?_append_right (by omega), hl, hz]; rfl, D⟩
    | succ j => rw [hz] at h; simp at h
end
end
end Py

/-! Pv19: a def that calls itself; the law. -/
namespace Py
open PySem PySem.Spec PyProof.Rows L2
section
variable {K : PySem.W.Frag} {P : Program} {w : World} {mg : Str → Option Value} {base : Heap}
theorem AllOk.up {j k : Nat} {fns : List Str} {ds : List Den} (h : j ≤ k) (A : AllOk P w K mg base j fns ds) : AllOk P w K mg base k fns ds := fun i d hd => by
  obtain ⟨y, h1, f, fd, ps, g1, g2, g3, g4⟩ := A i d hd
  exact ⟨y, h1, f, fd, ps, g1, g2, g3, g4.mono h⟩
theorem AllOk.snocs {j k : Nat} {fns : List Str} {ds : List Den} {x : Str} {d : Den} (A : AllOk P w K mg base j fns ds) (hl : fns.length = ds.length) (h : j ≤ k) (D : DefOk P w K mg base (k + 1) x d) : AllOk P w K mg base (k + 1) (fns ++ [x]) (ds ++ [d]) :=
  (A.up h).snoc hl D
theorem rec_ok {x : Str} {params : Arguments} {body : List Stmt} {scope : Scope} {f : Addr} {fdd : FuncData} {glob : Nat → Option PV} {globs fns N ps : List Str} {ds : List Den} {k n : Nat} {fd : Fd} {d : Nat → Den}
    (hs : ∀ m, d (m + 1) = denOf glob (ds ++ [d m]) n fd) (h0 : (d 0).f = fun _ => none) (Fn : FunD K x x params body scope [] [] f fdd) (T : Tell (K, w) mg glob globs) (A0 : AllOk P w K mg base k fns ds) (hl : fns.length = ds.length)
    (hc : chkD globs (fns ++ [x]) N ps scope body fd = true) (g : mg x = some (.ref f)) (b : Binds K fdd ps []) : ∀ m, DefOk P w K mg base (k + m) x (d m)
  | 0 => by
    refine ⟨f, fdd, ps, g, Fn.kp, b, fun vs H Q E h => ?_, fun A outer s H args us vs Q E _ _ _ _ _ h => ?_⟩
    all_goals
      exfalso
      obtain ⟨_, h⟩ := h
      split at h
      · obtain ⟨_, _, _, _, _, _, _, _, _, _, _, h, _⟩ := h
        rw [h0] at h; cases h
      · obtain ⟨_, _, _, _, _, h, _⟩ := h
        rw [h0] at h; cases h
  | m + 1 => by
    have ih := rec_ok hs h0 Fn T A0 hl hc g b m
    have A1 : AllOk P w K mg base (k + m) (fns ++ [x]) (ds ++ [d m]) := fun i d' h => by
      by_cases hi : i < ds.length
      · rw [List.getElem?_append_left hi] at h
        obtain ⟨y, h1, f', fd', ps', g1, g2, g3, g4⟩ := A0 i d' h
        exact ⟨y, by rw [List.getElem?_append_left (by omega)]; exact h1, f', fd', ps', g1, g2, g3, g4.mono (Nat.le_add_right _ _)⟩
      · rw [List.getElem?_append_right (by omega)] at h
        cases hz : i - ds.length with
        | zero =>
          rw [hz] at h
          obtain rfl : d m = d' := by simpa using h
          exact ⟨x, by rw [List.getElem?_append_right (by omega), hl, hz]; rfl, ih⟩
        | succ j => rw [hz] at h; simp at h
    have := run_ok (n := n) Fn T A1 hc
    refine ⟨f, fdd, ps, g, Fn.kp, b, ?_⟩
    rw [hs m]
    exact this
theorem law_sp {d : Den} {n : Nat} (hnp : d.np = 1) (hio : d.io = false) (h : ∀ ns : List Int, ns.length ≤ n → ∃ out, d.f [.scr ns] = some ⟨false, .bl true, out⟩) (H : Hp) (a : Addr) (ns : List Int) (hl : ns.length ≤ n) (_ : Only H) (hS : SqL K H a (ns.map V.int)) :
    spD (K, w) 1 d [.ref a] H (fun v _ => v = .bl true) (fun _ _ _ => False) := by
  obtain ⟨out, ho⟩ := h ns hl
  refine ⟨rfl, ?_⟩
  rw [if_neg (by rw [hio]; decide)]
  refine ⟨H, [.scr ns], _, Ext.refl H, .cons (.scr hS) .nil, ho, fun x H' F' _ _ _ _ r => ?_⟩
  have r' : Rep (K, w) F' x (.bl true) := r
  cases r'
  rfl
end
end Py

/-! Pv20: the evaluator's equations, for simp. -/
namespace Py
@[simp] theorem slotAt_zero (s : Slot) (ρ : Env) : slotAt (s :: ρ) 0 = s := rfl
@[simp] theorem slotAt_one (s t : Slot) (ρ : Env) : slotAt (s :: t :: ρ) 1 = t := rfl
@[simp] theorem slotAt_succ (s : Slot) (ρ : Env) (i : Nat) : slotAt (s :: ρ) (i + 1) = slotAt ρ i := rfl
@[simp] theorem pk_sh (v : PV) (ρ : Env) : pk (.sh v) ρ = some v := rfl
@[simp] theorem pk_own (v : PV) (ρ : Env) : pk (.own v) ρ = some v := rfl
@[simp] theorem pk_slot (i : Nat) (ρ : Env) : pk (.slot i) ρ = (match slotAt ρ i with | .none => none | .sh v => some v | .own v => some v) := rfl
@[simp] theorem fz_sh (v : PV) (ρ : Env) : fz (.sh v) ρ = some (v, ρ) := rfl
@[simp] theorem fz_own (v : PV) (ρ : Env) : fz (.own v) ρ = some (v, ρ) := rfl
@[simp] theorem fz_slot (i : Nat) (ρ : Env) : fz (.slot i) ρ = (match slotAt ρ i with | .none => none | .sh v => some (v, ρ) | .own v => some (v, ρ.set i (.sh v))) := rfl
@[simp] theorem wt_sh (v : PV) : wt (.sh v) = .sh v := rfl
@[simp] theorem wt_own (v : PV) : wt (.own v) = .sh v := rfl
@[simp] theorem wt_slot (i : Nat) : wt (.slot i) = .slot i := rfl
@[simp] theorem r_sh (v : PV) : Res.r (.sh v) = .sh v := rfl
@[simp] theorem r_own (v : PV) : Res.r (.own v) = .own v := rfl
@[simp] theorem cmpLe (i j : Int) : cmpB .le (.int i) (.int j) = some (decide (i ≤ j)) := rfl
@[simp] theorem cmpGe (i j : Int) : cmpB .ge (.int i) (.int j) = some (decide (j ≤ i)) := rfl
@[simp] theorem cmpLt (i j : Int) : cmpB .lt (.int i) (.int j) = some (decide (i < j)) := rfl
@[simp] theorem cmpGt (i j : Int) : cmpB .gt (.int i) (.int j) = some (decide (j < i)) := rfl
@[simp] theorem cmpEqI (i j : Int) : cmpB .eq (.int i) (.int j) = some (decide (i = j)) := by
  have e : (if (plain (.int i) && plain (.int j)) = true then some (eqv (.int i) (.int j)) else none) = some (decide (i = j)) := by simp [plain, plainD, eqv]
  exact e
@[simp] theorem cmpNeI (i j : Int) : cmpB .ne (.int i) (.int j) = some (!decide (i = j)) := by
  have e : (if (plain (.int i) && plain (.int j)) = true then some (!eqv (.int i) (.int j)) else none) = some (!decide (i = j)) := by simp [plain, plainD, eqv]
  exact e
@[simp] theorem cmpEqB (i j : Bool) : cmpB .eq (.bl i) (.bl j) = some (i == j) := by cases i <;> cases j <;> rfl
@[simp] theorem cmpNeB (i j : Bool) : cmpB .ne (.bl i) (.bl j) = some (!(i == j)) := by cases i <;> cases j <;> rfl
@[simp] theorem cmpEqS (i j : List Nat) : cmpB .eq (.str i) (.str j) = some (decide (i = j)) := by
  have e : (if (plain (.str i) && plain (.str j)) = true then some (eqv (.str i) (.str j)) else none) = some (decide (i = j)) := by simp [plain, plainD, eqv]
  exact e
@[simp] theorem cmpNeS (i j : List Nat) : cmpB .ne (.str i) (.str j) = some (!decide (i = j)) := by
  have e : (if (plain (.str i) && plain (.str j)) = true then some (!eqv (.str i) (.str j)) else none) = some (!decide (i = j)) := by simp [plain, plainD, eqv]
  exact e
@[simp] theorem cmpIsN (x : PV) : cmpB .isN x .non = some (match x with | .non => true | _ => false) := rfl
@[simp] theorem cmpNotN (x : PV) : cmpB .notN x .non = some (match x with | .non => false | _ => true) := rfl
@[simp] theorem truBl (b : Bool) : truV (.bl b) = some b := rfl
@[simp] theorem addI (i j : Int) : bin2 .add (.int i) (.int j) = some (.sh (.int (i + j))) := rfl
@[simp] theorem subI (i j : Int) : bin2 .sub (.int i) (.int j) = some (.sh (.int (i - j))) := rfl
theorem mulI (i j : Int) (h : mulOk i j = true) : bin2 .mul (.int i) (.int j) = some (.sh (.int (i * j))) := by
  have e : (if mulOk i j = true then some (Res.sh (.int (i * j))) else none) = some (.sh (.int (i * j))) := if_pos h
  exact e
theorem divI (i j : Int) (h : divW j = true) : bin2 .fdiv (.int i) (.int j) = some (.sh (.int (i.fdiv j))) := by
  have e : (if divW j = true then some (Res.sh (.int (i.fdiv j))) else none) = some (.sh (.int (i.fdiv j))) := if_pos h
  exact e
theorem modI (i j : Int) (h : j ≠ 0) : bin2 .mod (.int i) (.int j) = some (.sh (.int (i.fmod j))) := by
  have e : (if j = 0 then none else some (Res.sh (.int (i.fmod j)))) = some (.sh (.int (i.fmod j))) := if_neg h
  exact e
theorem mulOk_r (i j : Int) (h : j.natAbs < 18446744073709551616) : mulOk i j = true := by simp [mulOk, h]
theorem mulOk_l (i j : Int) (h : i.natAbs < 18446744073709551616) : mulOk i j = true := by simp [mulOk, h]

/-! ### equations -/
section
variable (Φ : Tab) (n : Nat) (ρ : Env)
def asgF (Φ : Tab) (t : T) : PV → Env → Option Env := fun x ρ => asgV Φ t x ρ
def tstF (Φ : Tab) (c : E) : Env → Option (Bool × Env) := fun ρ => tstR (ev Φ c ρ)
def stepF (Φ : Tab) (e : E) (t : T) (cs : Es) (own : List Nat) : PV → Env → Option (Option PV × Env) := stepL Φ t own (evC Φ cs) (ev Φ e)
theorem asgF_eq (t : T) (x : PV) : asgF Φ t x ρ = asgV Φ t x ρ := rfl
theorem tstF_eq (c : E) : tstF Φ c ρ = tstR (ev Φ c ρ) := rfl
theorem stepF_eq (e : E) (t : T) (cs : Es) (own : List Nat) (x : PV) : stepF Φ e t cs own x ρ = (match asgV Φ t x ρ with
          | none => none
          | some ρ2 => (match evC Φ cs ρ2 with
            | none => none
            | some (false, ρ3) => some (none, wipeE ρ3 own)
            | some (true, ρ3) => (match ev Φ e ρ3 with
              | none => none
              | some (r, ρ4) => (match fz r ρ4 with | none => none | some (v, ρ5) => some (some v, wipeE ρ5 own))))) := rfl
@[simp] theorem ev_var (i : Nat) : ev Φ (.var i) ρ = (match slotAt ρ i with | .none => none | .sh v => some (.sh v, ρ) | .own _ => some (.slot i, ρ)) := rfl
@[simp] theorem ev_con (v : PV) : ev Φ (.con v) ρ = some (.sh v, ρ) := rfl
@[simp] theorem ev_glob (g : Nat) : ev Φ (.glob g) ρ = (match Φ.glob g with | none => none | some v => some (.sh v, ρ)) := rfl
@[simp] theorem ev_tup (es : Es) : ev Φ (.tup es) ρ = (match evs Φ es ρ with
    | none => none
    | some (rs, ρ1) => (match fzL rs ρ1 with | none => none | some (vs, ρ2) => if vs.length ≤ line then some (.sh (.tup vs), ρ2) else none)) := rfl
@[simp] theorem ev_lst (es : Es) : ev Φ (.lst es) ρ = (match evs Φ es ρ with
    | none => none
    | some (rs, ρ1) => (match fzL rs ρ1 with | none => none | some (vs, ρ2) => if vs.length ≤ line then some (.own (.lst vs), ρ2) else none)) := rfl
@[simp] theorem ev_un (o : UnOp) (a : E) : ev Φ (.un o a) ρ = (match ev Φ a ρ with
    | none => none
    | some (r, ρ1) => (match pk r ρ1 with | none => none | some x => (match un1 o x with | none => none | some z => some (z.r, ρ1)))) := rfl
@[simp] theorem ev_bin (o : BiOp) (a b : E) : ev Φ (.bin o a b) ρ = (match ev Φ a ρ with
    | none => none
    | some (ra, ρ1) => (match ev Φ b ρ1 with
      | none => none
      | some (rb, ρ2) => (match pk (wt ra) ρ2 with
        | none => none
        | some x => (match pk rb ρ2 with
          | none => none
          | some y => (match bin2 o x y with | none => none | some z => some (z.r, ρ2)))))) := rfl
@[simp] theorem ev_cmp (o : CmOp) (a b : E) : ev Φ (.cmp o a b) ρ = (match ev Φ a ρ with
    | none => none
    | some (ra, ρ1) => (match ev Φ b ρ1 with
      | none => none
      | some (rb, ρ2) => (match pk (wt ra) ρ2 with
        | none => none
        | some x => (match pk rb ρ2 with
          | none => none
          | some y => (match cmpB o x y with | none => none | some k => some (.sh (.bl k), ρ2)))))) := rfl
@[simp] theorem ev_not (a : E) : ev Φ (.not a) ρ = (match tstR (ev Φ a ρ) with | none => none | some (b, ρ1) => some (.sh (.bl (!b)), ρ1)) := rfl
@[simp] theorem ev_and (es : Es) : ev Φ (.and es) ρ = evAnd Φ es ρ := rfl
@[simp] theorem ev_or (es : Es) : ev Φ (.or es) ρ = evOr Φ es ρ := rfl
@[simp] theorem evAnd_one (e : E) : evAnd Φ (.cons e .nil) ρ = ev Φ e ρ := rfl
@[simp] theorem evAnd_two (e f : E) (es : Es) : evAnd Φ (.cons e (.cons f es)) ρ = (match ev Φ e ρ with
      | none => none
      | some (r, ρ1) => (match pk r ρ1 with
        | none => none
        | some x => (match truV x with | none => none | some true => evAnd Φ (.cons f es) ρ1 | some false => some (wt r, ρ1)))) := rfl
@[simp] theorem evOr_one (e : E) : evOr Φ (.cons e .nil) ρ = ev Φ e ρ := rfl
@[simp] theorem evOr_two (e f : E) (es : Es) : evOr Φ (.cons e (.cons f es)) ρ = (match ev Φ e ρ with
      | none => none
      | some (r, ρ1) => (match pk r ρ1 with
        | none => none
        | some x => (match truV x with | none => none | some false => evOr Φ (.cons f es) ρ1 | some true => some (wt r, ρ1)))) := rfl
@[simp] theorem ev_ite (c a b : E) : ev Φ (.ite c a b) ρ = (match tstR (ev Φ c ρ) with | none => none | some (k, ρ1) => if k then ev Φ a ρ1 else ev Φ b ρ1) := rfl
@[simp] theorem ev_ix (a i : E) : ev Φ (.ix a i) ρ = (match ev Φ a ρ with
    | none => none
    | some (ra, ρ1) => (match ev Φ i ρ1 with
      | none => none
      | some (ri, ρ2) => (match pk (wt ra) ρ2 with
        | none => none
        | some x => (match pk ri ρ2 with
          | none => none
          | some y => (match ix2 x y with | none => none | some z => some (z.r, ρ2)))))) := rfl
@[simp] theorem ev_sl (a lo hi : E) : ev Φ (.sl a lo hi) ρ = (match ev Φ a ρ with
    | none => none
    | some (ra, ρ1) => (match (if isAbs lo then some (none, ρ1) else optR (ev Φ lo ρ1)) with
      | none => none
      | some (l, ρ2) => (match (if isAbs hi then some (none, ρ2) else optR (ev Φ hi ρ2)) with
        | none => none
        | some (h, ρ3) => (match pk (wt ra) ρ3 with
          | none => none
          | some x => (match sl3 x l h with | none => none | some z => some (z.r, ρ3)))))) := rfl
@[simp] theorem ev_rev (a : E) : ev Φ (.rev a) ρ = (match ev Φ a ρ with
    | none => none
    | some (r, ρ1) => (match pk r ρ1 with | none => none | some x => (match rev1 x with | none => none | some z => some (z.r, ρ1)))) := rfl
@[simp] theorem ev_sst (lo k : Nat) (a : E) : ev Φ (.sst lo k a) ρ = (match ev Φ a ρ with
    | none => none
    | some (r, ρ1) => (match pk r ρ1 with | none => none | some x => (match sst1 lo k x with | none => none | some z => some (z.r, ρ1)))) := rfl
@[simp] theorem ev_rpr (a : E) : ev Φ (.rpr a) ρ = (match ev Φ a ρ with
    | none => none
    | some (r, ρ1) => (match pk r ρ1 with | none => none | some x => (match rpr1 x with | none => none | some z => some (z.r, ρ1)))) := rfl
@[simp] theorem ev_dprs (a : E) : ev Φ (.dprs a) ρ = (match ev Φ a ρ with
    | none => none
    | some (r, ρ1) => (match pk r ρ1 with | none => none | some x => (match dprs1 x with | none => none | some z => some (z.r, ρ1)))) := rfl
@[simp] theorem ev_disp (ks : List (List Nat)) (es : Es) : ev Φ (.disp ks es) ρ = (match evs Φ es ρ with
    | none => none
    | some (rs, ρ1) => (match fzL rs ρ1 with | none => none | some (vs, ρ2) => if dispOk ks vs then some (.own (.dict false (ks.map .str) vs), ρ2) else none)) := rfl
@[simp] theorem ev_dnew (t : Bool) : ev Φ (.dnew t) ρ = some (.own (.dict t [] []), ρ) := rfl
@[simp] theorem ev_dispT (es : Es) : ev Φ (.dispT es) ρ = (match evs Φ es ρ with
    | none => none
    | some (rs, ρ1) => (match fzL rs ρ1 with | none => none | some (vs, ρ2) => if dispTOk (evenL vs) (oddL vs) && decide (vs.length = 2 * (evenL vs).length) then some (.own (.dict true (evenL vs) (oddL vs)), ρ2) else none)) := rfl
@[simp] theorem ev_cset (b : Bool) (a : E) : ev Φ (.cset b a) ρ = (match ev Φ a ρ with
    | none => none
    | some (r, ρ1) => (match pk r ρ1 with | none => none | some x => (match cset b x with | none => none | some z => some (z.r, ρ1)))) := rfl
@[simp] theorem ev_bi (b : Blt) (es : Es) : ev Φ (.bi b es) ρ = (match evs Φ es ρ with
    | none => none
    | some (rs, ρ1) => (match pkL rs ρ1 with | none => none | some vs => (match bi1 b vs with | none => none | some z => some (z.r, ρ1)))) := rfl
@[simp] theorem ev_mt (m : Mth) (o : E) (es : Es) : ev Φ (.mt m o es) ρ = (match ev Φ o ρ with
    | none => none
    | some (ro, ρ1) => (match pk ro ρ1 with
      | none => none
      | some x0 => if mtTy m x0 then (match evs Φ es ρ1 with
        | none => none
        | some (rs, ρ2) => (match pk (wt ro) ρ2 with
          | none => none
          | some x => (match pkL rs ρ2 with | none => none | some vs => (match mt1 m x vs with | none => none | some z => some (z.r, ρ2)))))
        else none)) := rfl
@[simp] theorem ev_pop (x : Nat) (m : Mut) (es : Es) : ev Φ (.pop x m es) ρ = fPop x m (evs Φ es) ρ := rfl
@[simp] theorem ev_fn (k : Nat) (es : Es) : ev Φ (.fn k es) ρ = (match Φ.fn k with
    | none => none
    | some d => (match evs Φ es ρ with
      | none => none
      | some (rs, ρ1) => if rs.length = d.np then callD d rs ρ1 else none)) := rfl
@[simp] theorem ev_lc (e : E) (t : T) (it : I) (cs : Es) (own : List Nat) : ev Φ (.lc e t it cs own) ρ = (match evI Φ it ρ with
    | none => none
    | some (xs, ρ1) => if noOwn ρ1 own && !(Φ.io && own.contains 0) then
        (match loopC (stepF Φ e t cs own) xs (wipeE ρ1 own) with
        | none => none
        | some (ys, ρ2) => if ys.length < line then some (.own (.lst ys), backE ρ2 ρ1 own) else none)
      else none) := rfl
@[simp] theorem evs_nil : evs Φ .nil ρ = some ([], ρ) := rfl
@[simp] theorem evs_cons (e : E) (es : Es) : evs Φ (.cons e es) ρ = (match ev Φ e ρ with
    | none => none
    | some (r, ρ1) => (match evs Φ es ρ1 with | none => none | some (rs, ρ2) => some (wt r :: rs, ρ2))) := rfl
@[simp] theorem evC_nil : evC Φ .nil ρ = some (true, ρ) := rfl
@[simp] theorem evC_one (e : E) : evC Φ (.cons e .nil) ρ = tstR (ev Φ e ρ) := rfl
@[simp] theorem evI_seq (e : E) : evI Φ (.seq e) ρ = (match ev Φ e ρ with
    | none => none
    | some (r, ρ1) => (match fz r ρ1 with | none => none | some (x, ρ2) => (match seqOf x with | none => none | some l => some (l, ρ2)))) := rfl
@[simp] theorem evI_rng (es : Es) : evI Φ (.rng es) ρ = (match evs Φ es ρ with
    | none => none
    | some (rs, ρ1) => (match pkL rs ρ1 with | none => none | some vs => (match rng1 vs with | none => none | some l => some (l, ρ1)))) := rfl
@[simp] theorem tstR_some (r : R) : tstR (some (r, ρ)) = (match pk r ρ with | none => none | some x => (match truV x with | none => none | some b => some (b, ρ))) := rfl
@[simp] theorem optR_some (r : R) : optR (some (r, ρ)) = (match pk r ρ with | some (.int i) => some (some i, ρ) | _ => none) := rfl
@[simp] theorem exs_nil : exs Φ n .nil ρ = some (.nx ρ) := rfl
@[simp] theorem exs_cons (s : S) (ss : Ss) : exs Φ n (.cons s ss) ρ = (match ex Φ n s ρ with
    | none => none
    | some (.nx ρ1) => exs Φ n ss ρ1
    | some (.ret r ρ1) => some (.ret r ρ1)
    | some (.brk ρ1) => some (.brk ρ1)
    | some (.cnt ρ1) => some (.cnt ρ1)) := rfl
@[simp] theorem ex_asg (t : T) (e : E) : ex Φ n (.asg t e) ρ = (match ev Φ e ρ with | none => none | some (r, ρ1) => nxO (asgR Φ t r ρ1)) := rfl
@[simp] theorem ex_par (is : List Nat) (es : Es) : ex Φ n (.par is es) ρ = (match evs Φ es ρ with
    | none => none
    | some (rs, ρ1) => (match fzL rs ρ1 with | none => none | some (vs, ρ2) => nxO (setL Φ is vs ρ2))) := rfl
@[simp] theorem ex_aug (i : Nat) (o : BiOp) (e : E) : ex Φ n (.aug i o e) ρ = (match slotAt ρ i with
    | .sh x => (match ev Φ e ρ with
      | none => none
      | some (r, ρ1) => (match pk r ρ1 with
        | none => none
        | some y => (match aug2 o x y with | none => none | some z => nxO (setS Φ ρ1 i (.sh z)))))
    | _ => none) := rfl
@[simp] theorem ex_key (x : Nat) (i e : E) : ex Φ n (.setkey x i e) ρ = fKey x (ev Φ i) (ev Φ e) ρ := rfl
@[simp] theorem ex_set (x : Nat) (i e : E) : ex Φ n (.setix x i e) ρ = fSet x (ev Φ i) (ev Φ e) ρ := rfl
@[simp] theorem ex_mut (m : Mut) (x : Nat) (es : Es) : ex Φ n (.mut m x es) ρ = (match ev Φ (.pop x m es) ρ with | none => none | some (_, ρ1) => some (.nx ρ1)) := rfl
@[simp] theorem ex_expr (e : E) : ex Φ n (.expr e) ρ = (match ev Φ e ρ with | none => none | some (_, ρ1) => some (.nx ρ1)) := rfl
@[simp] theorem ex_ret (e : E) : ex Φ n (.ret e) ρ = (match ev Φ e ρ with | none => none | some (r, ρ1) => some (.ret r ρ1)) := rfl
@[simp] theorem ex_retN : ex Φ n .retN ρ = some (.ret (.sh .non) ρ) := rfl
@[simp] theorem ex_ife (c : E) (a b : Ss) : ex Φ n (.ife c a b) ρ = (match tstR (ev Φ c ρ) with | none => none | some (k, ρ1) => if k then exs Φ n a ρ1 else exs Φ n b ρ1) := rfl
@[simp] theorem ex_for (t : T) (it : I) (b : Ss) : ex Φ n (.for t it b) ρ = (match evI Φ it ρ with
    | none => none
    | some (xs, ρ1) => loopF (asgF Φ t) (exs Φ n b) xs ρ1) := rfl
@[simp] theorem ex_while (c : E) (b : Ss) : ex Φ n (.while c b) ρ = loopW (tstF Φ c) (exs Φ n b) n ρ := rfl
@[simp] theorem ex_brk : ex Φ n .brk ρ = some (.brk ρ) := rfl
@[simp] theorem ex_cnt : ex Φ n .cnt ρ = some (.cnt ρ) := rfl
@[simp] theorem ex_pas : ex Φ n .pas ρ = some (.nx ρ) := rfl
@[simp] theorem asgR_name_sh (i : Nat) (v : PV) : asgR Φ (.name i) (.sh v) ρ = setS Φ ρ i (.sh v) := rfl
@[simp] theorem asgR_name_own (i : Nat) (v : PV) : asgR Φ (.name i) (.own v) ρ = setS Φ ρ i (.own v) := rfl
@[simp] theorem asgR_name_slot (i j : Nat) : asgR Φ (.name i) (.slot j) ρ = (match fz (.slot j) ρ with | none => none | some (v, ρ1) => setS Φ ρ1 i (.sh v)) := rfl
@[simp] theorem asgR_tup (ts : List T) (r : R) : asgR Φ (.tup ts) r ρ = (match pk r ρ with | some (.tup l) => asgL Φ ts l ρ | some (.lst l) => asgL Φ ts l ρ | _ => none) := rfl
@[simp] theorem asgV_name (i : Nat) (v : PV) : asgV Φ (.name i) v ρ = setS Φ ρ i (.sh v) := rfl
@[simp] theorem asgV_tup (ts : List T) (v : PV) : asgV Φ (.tup ts) v ρ = (match v with | .tup l => asgL Φ ts l ρ | .lst l => asgL Φ ts l ρ | _ => none) := rfl
@[simp] theorem asgL_nil : asgL Φ [] [] ρ = some ρ := rfl
@[simp] theorem asgL_cons (t : T) (ts : List T) (v : PV) (vs : List PV) : asgL Φ (t :: ts) (v :: vs) ρ = (match asgV Φ t v ρ with | none => none | some ρ1 => asgL Φ ts vs ρ1) := rfl
@[simp] theorem nxO_some' : nxO (some ρ) = some (.nx ρ) := rfl
@[simp] theorem pkL_nil : pkL [] ρ = some [] := rfl
@[simp] theorem pkL_cons (r : R) (rs : List R) : pkL (r :: rs) ρ = (match pk r ρ with | none => none | some v => (match pkL rs ρ with | none => none | some vs => some (v :: vs))) := rfl
@[simp] theorem fzL_nil : fzL [] ρ = some ([], ρ) := rfl
@[simp] theorem fzL_cons (r : R) (rs : List R) : fzL (r :: rs) ρ = (match fz r ρ with | none => none | some (v, ρ1) => (match fzL rs ρ1 with | none => none | some (vs, ρ2) => some (v :: vs, ρ2))) := rfl
@[simp] theorem setL_nil : setL Φ [] [] ρ = some ρ := rfl
@[simp] theorem setL_cons (i : Nat) (is : List Nat) (v : PV) (vs : List PV) : setL Φ (i :: is) (v :: vs) ρ = (match setS Φ ρ i (.sh v) with | none => none | some ρ1 => setL Φ is vs ρ1) := rfl
@[simp] theorem loopF_nil (asg : PV → Env → Option Env) (body : Env → Option Out) : loopF asg body [] ρ = some (.nx ρ) := rfl
theorem loopF_cons (asg : PV → Env → Option Env) (body : Env → Option Out) (x : PV) (xs : List PV) : loopF asg body (x :: xs) ρ = (match asg x ρ with
    | none => none
    | some ρ1 => (match body ρ1 with
      | none => none
      | some (.nx ρ2) => loopF asg body xs ρ2
      | some (.cnt ρ2) => loopF asg body xs ρ2
      | some (.brk ρ2) => some (.nx ρ2)
      | some (.ret r ρ2) => some (.ret r ρ2))) := rfl
@[simp] theorem loopC_nil (step : PV → Env → Option (Option PV × Env)) : loopC step [] ρ = some ([], ρ) := rfl
theorem loopC_cons (step : PV → Env → Option (Option PV × Env)) (x : PV) (xs : List PV) : loopC step (x :: xs) ρ = (match step x ρ with
    | none => none
    | some (o, ρ1) => (match loopC step xs ρ1 with
      | none => none
      | some (ys, ρ2) => some (match o with | none => ys | some y => y :: ys, ρ2))) := rfl
theorem loopW_succ (c : Env → Option (Bool × Env)) (body : Env → Option Out) : loopW c body (n + 1) ρ = (match c ρ with
    | none => none
    | some (false, ρ1) => some (.nx ρ1)
    | some (true, ρ1) => (match body ρ1 with
      | none => none
      | some (.nx ρ2) => loopW c body n ρ2
      | some (.cnt ρ2) => loopW c body n ρ2
      | some (.brk ρ2) => some (.nx ρ2)
      | some (.ret r ρ2) => some (.ret r ρ2))) := rfl
end
@[simp] theorem lentL_nil : lentL [] = [] := rfl
@[simp] theorem lentL_sh (v : PV) (r : List R) : lentL (.sh v :: r) = lentL r := rfl
@[simp] theorem lentL_own (v : PV) (r : List R) : lentL (.own v :: r) = lentL r := rfl
@[simp] theorem lentL_slot (i : Nat) (r : List R) : lentL (.slot i :: r) = i :: lentL r := rfl
@[simp] theorem freezeL_nil (ρ : Env) : freezeL ρ [] = ρ := rfl
@[simp] theorem pureR_sh (v o : PV) : pureR ⟨false, v, o⟩ = pureV v := rfl
@[simp] theorem pureR_own (v o : PV) : pureR ⟨true, v, o⟩ = pureL v := rfl
@[simp] theorem pureV_int (i : Int) : pureV (.int i) = true := rfl
@[simp] theorem pureV_bl (i : Bool) : pureV (.bl i) = true := rfl
@[simp] theorem pureV_str (i : List Nat) : pureV (.str i) = true := rfl
@[simp] theorem pureV_non : pureV .non = true := rfl
@[simp] theorem line_val : line = 16777216 := rfl
/-- a def's run -/
def runT (Φ : Tab) (n : Nat) (fd : Fd) (as : List PV) : Option Ret :=
  if as.length = fd.np then
    (match exs Φ n fd.body (startE fd as) with
    | some (.nx ρ) => retE fd (.sh .non) ρ
    | some (.ret r ρ) => retE fd r ρ
    | _ => none)
  else none
theorem run_T (glob : Nat → Option PV) (ds : List Den) (n : Nat) (fd : Fd) (as : List PV) : (denOf glob ds n fd).f as = runT ⟨glob, fun i => ds[i]?, fd.io⟩ n fd as := rfl
/-- a while: what is true ahead of each turn, a measure -/
theorem loopW_by {c : Env → Option (Bool × Env)} {body : Env → Option Out} (I : Env → Prop) (μ : Env → Nat) (Q : Out → Prop) (h : ∀ ρ, I ρ → ∃ b ρ1, c ρ = some (b, ρ1) ∧ (if b then ∃ o, body ρ1 = some o ∧ (match o with
    | .nx ρ2 => I ρ2 ∧ μ ρ2 < μ ρ
    | .cnt ρ2 => I ρ2 ∧ μ ρ2 < μ ρ
    | .brk ρ2 => Q (.nx ρ2)
    | .ret r ρ2 => Q (.ret r ρ2)) else Q (.nx ρ1))) : ∀ (n : Nat) (ρ : Env), I ρ → μ ρ < n → ∃ o, loopW c body n ρ = some o ∧ Q o
  | 0, ρ, _, hn => absurd hn (Nat.not_lt_zero _)
  | n + 1, ρ, hI, hn => by
    obtain ⟨b, ρ1, h1, h2⟩ := h ρ hI
    cases b with
    | false => exact ⟨.nx ρ1, by rw [loopW_succ, h1], h2⟩
    | true =>
      obtain ⟨o, h3, h4⟩ := h2
      cases o with
      | nx ρ2 =>
        obtain ⟨o, g1, g2⟩ := loopW_by I μ Q h n ρ2 h4.1 (by have := h4.2; omega)
        exact ⟨o, by rw [loopW_succ, h1]; simp only [h3]; exact g1, g2⟩
      | cnt ρ2 =>
        obtain ⟨o, g1, g2⟩ := loopW_by I μ Q h n ρ2 h4.1 (by have := h4.2; omega)
        exact ⟨o, by rw [loopW_succ, h1]; simp only [h3]; exact g1, g2⟩
      | brk ρ2 => exact ⟨.nx ρ2, by rw [loopW_succ, h1]; simp only [h3], h4⟩
      | ret r ρ2 => exact ⟨.ret r ρ2, by rw [loopW_succ, h1]; simp only [h3], h4⟩
theorem loopC_none {step : PV → Env → Option (Option PV × Env)} {ρ : Env} : ∀ {xs : List PV}, (∀ x ∈ xs, step x ρ = some (none, ρ)) → loopC step xs ρ = some ([], ρ)
  | [], _ => rfl
  | x :: xs, h => by
    rw [loopC_cons, h x List.mem_cons_self]
    simp only [loopC_none (fun y hy => h y (List.mem_cons_of_mem _ hy))]
/-- data of some depth, no list too long -/
def okV : Nat → PV → Bool
  | 0, v => (match v with | .non => true | .bl _ => true | .int _ => true | .str _ => true | _ => false)
  | n + 1, v => (match v with
    | .non => true | .bl _ => true | .int _ => true | .str _ => true
    | .tup l => decide (l.length ≤ 16777216) && l.all (okV n) | .lst l => decide (l.length ≤ 16777216) && l.all (okV n)
    | .dict _ _ _ => false | .set _ => false | .scr _ => false)
theorem okV_tup {n : Nat} {l : List PV} (h : okV (n + 1) (.tup l) = true) : l.length ≤ 16777216 ∧ ∀ x ∈ l, okV n x = true := by
  have h : (decide (l.length ≤ 16777216) && l.all (okV n)) = true := h
  rw [Bool.and_eq_true, decide_eq_true_eq, List.all_eq_true] at h
  exact h
theorem okV_lst {n : Nat} {l : List PV} (h : okV (n + 1) (.lst l) = true) : l.length ≤ 16777216 ∧ ∀ x ∈ l, okV n x = true := by
  have h : (decide (l.length ≤ 16777216) && l.all (okV n)) = true := h
  rw [Bool.and_eq_true, decide_eq_true_eq, List.all_eq_true] at h
  exact h
theorem rng1_one (j : Int) (h : small62 j = true) : rng1 [.int j] = some (rangeL 0 j.toNat) := by
  have e : (if small62 j = true then some (rangeL 0 j.toNat) else none) = some (rangeL 0 j.toNat) := if_pos h
  exact e
theorem rng1_len (n : Nat) (h : n ≤ 16777216) : rng1 [.int (n : Int)] = some (rangeL 0 n) := by
  rw [rng1_one _ (by unfold small62; exact decide_eq_true (by omega))]
  rfl
theorem rng1_two (i j : Int) (h : small62 i = true) (k : small62 j = true) : rng1 [.int i, .int j] = some (rangeL i (j - i).toNat) := by
  have e : (if (small62 i && small62 j) = true then some (rangeL i (j - i).toNat) else none) = some (rangeL i (j - i).toNat) := if_pos (by rw [h, k]; rfl)
  exact e
/-- a call whose arguments lend nothing -/
theorem callD_sh {d : Den} {rs : List R} {ρ : Env} {vs : List PV} {ret : Ret} (hio : d.io = false) (hl : lentL rs = []) (hp : pkL rs ρ = some vs) (hf : d.f vs = some ret) : callD d rs ρ = some (if ret.own then .own ret.val else .sh ret.val, ρ) := by
  unfold callD
  rw [if_neg (by rw [hio]; decide), hp]
  simp only [hf, hl, freezeL_nil]
  by_cases hpu : pureR ret = true
  · rw [if_pos hpu]
  · rw [if_neg hpu]
end Py

/-! Pv21: loops, comprehensions, texts: lemmas for the laws. -/
namespace Py
theorem goes {Φ : Tab} {n : Nat} {s : S} {ss : Ss} {ρ ρ1 : Env} {Q : Out → Prop} (h : ex Φ n s ρ = some (.nx ρ1)) (k : ∃ o, exs Φ n ss ρ1 = some o ∧ Q o) : ∃ o, exs Φ n (.cons s ss) ρ = some o ∧ Q o := by
  obtain ⟨o, k1, k2⟩ := k
  exact ⟨o, by rw [exs_cons, h]; exact k1, k2⟩
/-- a comprehension: what is true ahead of each turn -/
theorem loopC_ex {step : PV → Env → Option (Option PV × Env)} (I : List PV → Env → Prop) : ∀ (xs : List PV) (done : List PV) (ρ : Env), I done ρ → (∀ (done : List PV) (x : PV) (ρ : Env), x ∈ xs → I done ρ → ∃ o ρ', step x ρ = some (o, ρ') ∧ I (done ++ o.toList) ρ') →
    ∃ ys ρ', loopC step xs ρ = some (ys, ρ') ∧ I (done ++ ys) ρ'
  | [], done, ρ, h, _ => ⟨[], ρ, rfl, by rw [List.append_nil]; exact h⟩
  | x :: xs, done, ρ, h, hs => by
    obtain ⟨o, ρ1, h1, h2⟩ := hs done x ρ List.mem_cons_self h
    obtain ⟨ys, ρ2, h3, h4⟩ := loopC_ex I xs (done ++ o.toList) ρ1 h2 fun d y ρ hy => hs d y ρ (List.mem_cons_of_mem _ hy)
    refine ⟨o.toList ++ ys, ρ2, ?_, by rw [← List.append_assoc]; exact h4⟩
    rw [loopC_cons, h1]
    simp only [h3]
    cases o <;> rfl
/-- a comprehension that changes nothing -/
theorem loopC_fm {step : PV → Env → Option (Option PV × Env)} {ρ : Env} (g : PV → Option PV) : ∀ {xs : List PV}, (∀ x ∈ xs, step x ρ = some (g x, ρ)) → loopC step xs ρ = some (xs.filterMap g, ρ)
  | [], _ => rfl
  | x :: xs, h => by
    rw [loopC_cons, h x List.mem_cons_self]
    simp only [loopC_fm g fun y hy => h y (List.mem_cons_of_mem _ hy), List.filterMap_cons]
    cases g x <;> rfl
theorem loopC_map {step : PV → Env → Option (Option PV × Env)} {ρ : Env} (g : PV → PV) {xs : List PV} (h : ∀ x ∈ xs, step x ρ = some (some (g x), ρ)) : loopC step xs ρ = some (xs.map g, ρ) := by
  rw [loopC_fm (fun x => some (g x)) h, List.filterMap_eq_map']
/-- over the names of things -/
theorem loopC_mapI {α : Type} {step : PV → Env → Option (Option PV × Env)} {ρ : Env} (f : α → PV) (g : α → PV) {xs : List α} (h : ∀ x ∈ xs, step (f x) ρ = some (some (g x), ρ)) : loopC step (xs.map f) ρ = some (xs.map g, ρ) := by
  induction xs with
  | nil => rfl
  | cons x xs ih =>
    rw [List.map_cons, loopC_cons, h x List.mem_cons_self]
    simp only [ih fun y hy => h y (List.mem_cons_of_mem _ hy), List.map_cons]
theorem loopC_filtI {α : Type} {step : PV → Env → Option (Option PV × Env)} {ρ : Env} (f : α → PV) (p : α → Bool) (g : α → PV) {xs : List α} (h : ∀ x ∈ xs, step (f x) ρ = some (if p x then some (g x) else none, ρ)) : loopC step (xs.map f) ρ = some ((xs.filter p).map g, ρ) := by
  induction xs with
  | nil => rfl
  | cons x xs ih =>
    rw [List.map_cons, loopC_cons, h x List.mem_cons_self]
    simp only [ih fun y hy => h y (List.mem_cons_of_mem _ hy), List.filter_cons]
    cases p x <;> rfl
/-- a for -/
theorem loopF_ex {asg : PV → Env → Option Env} {body : Env → Option Out} (I : List PV → Env → Prop) (Q : Out → Prop) : ∀ (xs : List PV) (ρ : Env), I xs ρ → (∀ (x : PV) (xs : List PV) (ρ : Env), I (x :: xs) ρ → ∃ ρ1 o, asg x ρ = some ρ1 ∧ body ρ1 = some o ∧ (match o with
    | .nx ρ2 => I xs ρ2
    | .cnt ρ2 => I xs ρ2
    | .brk ρ2 => Q (.nx ρ2)
    | .ret r ρ2 => Q (.ret r ρ2))) → (∀ ρ, I [] ρ → Q (.nx ρ)) → ∃ o, loopF asg body xs ρ = some o ∧ Q o
  | [], ρ, h, _, hf => ⟨.nx ρ, rfl, hf ρ h⟩
  | x :: xs, ρ, h, hs, hf => by
    obtain ⟨ρ1, o, h1, h2, h3⟩ := hs x xs ρ h
    cases o with
    | nx ρ2 =>
      obtain ⟨o, g1, g2⟩ := loopF_ex I Q xs ρ2 h3 hs hf
      exact ⟨o, by rw [loopF_cons, h1]; simp only [h2]; exact g1, g2⟩
    | cnt ρ2 =>
      obtain ⟨o, g1, g2⟩ := loopF_ex I Q xs ρ2 h3 hs hf
      exact ⟨o, by rw [loopF_cons, h1]; simp only [h2]; exact g1, g2⟩
    | brk ρ2 => exact ⟨_, by rw [loopF_cons, h1]; simp only [h2], h3⟩
    | ret r ρ2 => exact ⟨_, by rw [loopF_cons, h1]; simp only [h2], h3⟩
theorem loopF_nx {asg : PV → Env → Option Env} {body : Env → Option Out} {x : PV} {xs : List PV} {ρ ρ1 ρ2 : Env} (ha : asg x ρ = some ρ1) (hb : body ρ1 = some (.nx ρ2)) : loopF asg body (x :: xs) ρ = loopF asg body xs ρ2 := by
  rw [loopF_cons, ha]; simp only [hb]
theorem loopF_cnt {asg : PV → Env → Option Env} {body : Env → Option Out} {x : PV} {xs : List PV} {ρ ρ1 ρ2 : Env} (ha : asg x ρ = some ρ1) (hb : body ρ1 = some (.cnt ρ2)) : loopF asg body (x :: xs) ρ = loopF asg body xs ρ2 := by
  rw [loopF_cons, ha]; simp only [hb]
theorem loopF_ret {asg : PV → Env → Option Env} {body : Env → Option Out} {x : PV} {xs : List PV} {ρ ρ1 ρ2 : Env} {r : R} (ha : asg x ρ = some ρ1) (hb : body ρ1 = some (.ret r ρ2)) : loopF asg body (x :: xs) ρ = some (.ret r ρ2) := by
  rw [loopF_cons, ha]; simp only [hb]
theorem set_slot {ρ : Env} {i : Nat} {s : Slot} (h : i < ρ.length) (e : slotAt ρ i = s) : ρ.set i s = ρ := by
  refine List.ext_getElem (by simp) fun k h1 h2 => ?_
  rw [List.getElem_set]
  by_cases c : i = k
  · subst c
    rw [if_pos rfl, ← e]
    unfold slotAt
    rw [List.getD_eq_getElem?_getD, List.getElem?_eq_getElem h]
    rfl
  · rw [if_neg c]
theorem and_cons_tt {Φ : Tab} {e f : E} {es : Es} {ρ : Env} {o : Option (R × Env)} (h1 : ev Φ e ρ = some (.sh (.bl true), ρ)) (h2 : evAnd Φ (.cons f es) ρ = o) : evAnd Φ (.cons e (.cons f es)) ρ = o := by
  rw [← h2]
  show (match ev Φ e ρ with | none => none | some (r, ρ1) => (match pk r ρ1 with | none => none | some x => (match truV x with | none => none | some true => evAnd Φ (.cons f es) ρ1 | some false => some (wt r, ρ1)))) = _
  rw [h1]; rfl
theorem and_one {Φ : Tab} {e : E} {ρ : Env} : evAnd Φ (.cons e .nil) ρ = ev Φ e ρ := rfl
theorem or_cons_ff {Φ : Tab} {e f : E} {es : Es} {ρ : Env} {o : Option (R × Env)} (h1 : ev Φ e ρ = some (.sh (.bl false), ρ)) (h2 : evOr Φ (.cons f es) ρ = o) : evOr Φ (.cons e (.cons f es)) ρ = o := by
  rw [← h2]
  show (match ev Φ e ρ with | none => none | some (r, ρ1) => (match pk r ρ1 with | none => none | some x => (match truV x with | none => none | some false => evOr Φ (.cons f es) ρ1 | some true => some (wt r, ρ1)))) = _
  rw [h1]; rfl
theorem or_one {Φ : Tab} {e : E} {ρ : Env} : evOr Φ (.cons e .nil) ρ = ev Φ e ρ := rfl
theorem ev_and_eq {Φ : Tab} {es : Es} {ρ : Env} : ev Φ (.and es) ρ = evAnd Φ es ρ := rfl
theorem ev_or_eq {Φ : Tab} {es : Es} {ρ : Env} : ev Φ (.or es) ρ = evOr Φ es ρ := rfl
/-- a test that fails -/
theorem ife_ff {Φ : Tab} {n : Nat} {e : E} {a : Ss} {ρ : Env} (h : ev Φ e ρ = some (.sh (.bl false), ρ)) : ex Φ n (.ife e a .nil) ρ = some (.nx ρ) := by
  rw [ex_ife, h]; rfl
/-! ### small operations -/
@[simp] theorem ix_tup0 (x0 : PV) (l : List PV) : ix2 (.tup (x0 :: l)) (.int 0) = some (.sh x0) := by
  show (atV (x0 :: l) 0).map Res.sh = _
  unfold atV Py.ixN
  rw [if_pos (by decide), if_pos (by simp <;> omega)]
  rfl
@[simp] theorem ix_tup1 (x0 x1 : PV) (l : List PV) : ix2 (.tup (x0 :: x1 :: l)) (.int 1) = some (.sh x1) := by
  show (atV (x0 :: x1 :: l) 1).map Res.sh = _
  unfold atV Py.ixN
  rw [if_pos (by decide), if_pos (by simp <;> omega)]
  rfl
@[simp] theorem ix_tup2 (x0 x1 x2 : PV) (l : List PV) : ix2 (.tup (x0 :: x1 :: x2 :: l)) (.int 2) = some (.sh x2) := by
  show (atV (x0 :: x1 :: x2 :: l) 2).map Res.sh = _
  unfold atV Py.ixN
  rw [if_pos (by decide), if_pos (by simp <;> omega)]
  rfl
@[simp] theorem ix_tup3 (x0 x1 x2 x3 : PV) (l : List PV) : ix2 (.tup (x0 :: x1 :: x2 :: x3 :: l)) (.int 3) = some (.sh x3) := by
  show (atV (x0 :: x1 :: x2 :: x3 :: l) 3).map Res.sh = _
  unfold atV Py.ixN
  rw [if_pos (by decide), if_pos (by simp <;> omega)]
  rfl
@[simp] theorem ix_tup4 (x0 x1 x2 x3 x4 : PV) (l : List PV) : ix2 (.tup (x0 :: x1 :: x2 :: x3 :: x4 :: l)) (.int 4) = some (.sh x4) := by
  show (atV (x0 :: x1 :: x2 :: x3 :: x4 :: l) 4).map Res.sh = _
  unfold atV Py.ixN
  rw [if_pos (by decide), if_pos (by simp <;> omega)]
  rfl
@[simp] theorem ix_tup5 (x0 x1 x2 x3 x4 x5 : PV) (l : List PV) : ix2 (.tup (x0 :: x1 :: x2 :: x3 :: x4 :: x5 :: l)) (.int 5) = some (.sh x5) := by
  show (atV (x0 :: x1 :: x2 :: x3 :: x4 :: x5 :: l) 5).map Res.sh = _
  unfold atV Py.ixN
  rw [if_pos (by decide), if_pos (by simp <;> omega)]
  rfl
@[simp] theorem ix_tup6 (x0 x1 x2 x3 x4 x5 x6 : PV) (l : List PV) : ix2 (.tup (x0 :: x1 :: x2 :: x3 :: x4 :: x5 :: x6 :: l)) (.int 6) = some (.sh x6) := by
  show (atV (x0 :: x1 :: x2 :: x3 :: x4 :: x5 :: x6 :: l) 6).map Res.sh = _
  unfold atV Py.ixN
  rw [if_pos (by decide), if_pos (by simp <;> omega)]
  rfl
@[simp] theorem ix_lst0 (x0 : PV) (l : List PV) : ix2 (.lst (x0 :: l)) (.int 0) = some (.sh x0) := by
  show (atV (x0 :: l) 0).map Res.sh = _
  unfold atV Py.ixN
  rw [if_pos (by decide), if_pos (by simp <;> omega)]
  rfl
@[simp] theorem ix_lst1 (x0 x1 : PV) (l : List PV) : ix2 (.lst (x0 :: x1 :: l)) (.int 1) = some (.sh x1) := by
  show (atV (x0 :: x1 :: l) 1).map Res.sh = _
  unfold atV Py.ixN
  rw [if_pos (by decide), if_pos (by simp <;> omega)]
  rfl
@[simp] theorem ix_lst2 (x0 x1 x2 : PV) (l : List PV) : ix2 (.lst (x0 :: x1 :: x2 :: l)) (.int 2) = some (.sh x2) := by
  show (atV (x0 :: x1 :: x2 :: l) 2).map Res.sh = _
  unfold atV Py.ixN
  rw [if_pos (by decide), if_pos (by simp <;> omega)]
  rfl
@[simp] theorem ix_lst3 (x0 x1 x2 x3 : PV) (l : List PV) : ix2 (.lst (x0 :: x1 :: x2 :: x3 :: l)) (.int 3) = some (.sh x3) := by
  show (atV (x0 :: x1 :: x2 :: x3 :: l) 3).map Res.sh = _
  unfold atV Py.ixN
  rw [if_pos (by decide), if_pos (by simp <;> omega)]
  rfl
@[simp] theorem ix_lst4 (x0 x1 x2 x3 x4 : PV) (l : List PV) : ix2 (.lst (x0 :: x1 :: x2 :: x3 :: x4 :: l)) (.int 4) = some (.sh x4) := by
  show (atV (x0 :: x1 :: x2 :: x3 :: x4 :: l) 4).map Res.sh = _
  unfold atV Py.ixN
  rw [if_pos (by decide), if_pos (by simp <;> omega)]
  rfl
@[simp] theorem ix_lst5 (x0 x1 x2 x3 x4 x5 : PV) (l : List PV) : ix2 (.lst (x0 :: x1 :: x2 :: x3 :: x4 :: x5 :: l)) (.int 5) = some (.sh x5) := by
  show (atV (x0 :: x1 :: x2 :: x3 :: x4 :: x5 :: l) 5).map Res.sh = _
  unfold atV Py.ixN
  rw [if_pos (by decide), if_pos (by simp <;> omega)]
  rfl
@[simp] theorem ix_lst6 (x0 x1 x2 x3 x4 x5 x6 : PV) (l : List PV) : ix2 (.lst (x0 :: x1 :: x2 :: x3 :: x4 :: x5 :: x6 :: l)) (.int 6) = some (.sh x6) := by
  show (atV (x0 :: x1 :: x2 :: x3 :: x4 :: x5 :: x6 :: l) 6).map Res.sh = _
  unfold atV Py.ixN
  rw [if_pos (by decide), if_pos (by simp <;> omega)]
  rfl
@[simp] theorem un_neg (i : Int) : un1 .neg (.int i) = some (.sh (.int (-i))) := rfl
/-! ### texts -/
theorem joinS_chars : ∀ t : List Nat, joinS [] (t.map fun c => [c]) = t
  | [] => rfl
  | [c] => rfl
  | c :: d :: t => by
    have ih := joinS_chars (d :: t)
    show [c] ++ [] ++ joinS [] ((d :: t).map fun c => [c]) = _
    rw [ih]
    rfl
theorem strsOf_chars : ∀ t : List Nat, strsOf (t.map fun c => PV.str [c]) = some (t.map fun c => [c])
  | [] => rfl
  | c :: t => by
    show (strsOf (t.map fun c => PV.str [c])).map ([c] :: ·) = _
    rw [strsOf_chars t]
    rfl
theorem join_chars (t : List Nat) (h : t.length ≤ 1000000) : mt1 .join (.str []) [.lst (t.map fun c => PV.str [c])] = some (.sh (.str t)) := by
  have e : ((strsOf (t.map fun c => PV.str [c])).bind fun ss => if (ss.map (·.length)).sum + ss.length * ([] : List Nat).length ≤ line then some (Res.sh (.str (joinS [] ss))) else none) = some (Res.sh (.str t)) := by
    rw [strsOf_chars, Option.bind_some, joinS_chars, if_pos]
    rw [List.map_map]
    have : ((fun x : List Nat => x.length) ∘ fun c : Nat => [c]) = fun _ => 1 := rfl
    rw [this, List.map_const', List.sum_replicate_nat]
    simp
    omega
  exact e
theorem bin0_zeros : ∀ (n k : Nat), bin0 k (List.replicate n 48) = some (k * 2 ^ n)
  | 0, k => by simp [bin0]
  | n + 1, k => by
    rw [List.replicate_succ]
    show bin0 (2 * k) (List.replicate n 48) = _
    rw [bin0_zeros n (2 * k), Nat.pow_succ]
    congr 1
    rw [Nat.mul_comm 2 k, Nat.mul_assoc, Nat.mul_comm 2]
theorem repS_one (n : Nat) : repS n [48] = List.replicate n 48 := by
  unfold repS
  induction n with
  | zero => rfl
  | succ n ih => rw [List.replicate_succ, List.flatten_cons, ih, List.replicate_succ]; rfl
/-- int("1" + "0" * n, 2) -/
theorem intb_pow (n : Nat) (h : n ≤ 600) : bi1 .intb [.str (49 :: repS n [48]), .int 2] = some (.sh (.int ((2 ^ n : Nat) : Int))) := by
  have e : (if (49 :: repS n [48]).length ≤ 640 then (binOf (49 :: repS n [48])).map fun (n : Nat) => Res.sh (.int (n : Int)) else none) = some (.sh (.int ((2 ^ n : Nat) : Int))) := by
    rw [repS_one, if_pos (by simp; omega)]
    show (bin0 1 (List.replicate n 48)).map _ = _
    rw [bin0_zeros]; simp
  exact e
theorem mul_zeros (n : Nat) (h : n ≤ 600) : bin2 .mul (.str [48]) (.int (n : Int)) = some (.sh (.str (repS n [48]))) := by
  have e : (if [48].length * (n : Int).toNat ≤ line && decide ((n : Int).natAbs < 1000000) then some (Res.sh (.str (repS (n : Int).toNat [48]))) else none) = some (.sh (.str (repS n [48]))) := by
    rw [if_pos (by simp; omega)]
    simp
  exact e
theorem add_one_zeros (n : Nat) (h : n ≤ 600) : bin2 .add (.str [49]) (.str (repS n [48])) = some (.sh (.str (49 :: repS n [48]))) := by
  have e : (if [49].length + (repS n [48]).length ≤ line then some (Res.sh (.str ([49] ++ repS n [48]))) else none) = some (.sh (.str (49 :: repS n [48]))) := by
    rw [if_pos (by rw [repS_one]; simp; omega)]
    rfl
  exact e
end Py

/-! Pv22: constants of the module that are tuples. -/
namespace Py
open PySem PySem.Spec PyProof.Rows L2
mutual
/-- the module's value v is the value p -/
def kval (K : PySem.W.Frag) : Nat → Value → PV → Bool
  | 0, _, _ => false
  | d + 1, v, p => (match p with
    | .non => (match v with | .none => true | _ => false)
    | .bl b => (match v with | .bool c => c == b | _ => false)
    | .int i => (match v with | .int j _ => decide (j = i) | _ => false)
    | .str s => (match v with | .str z _ => decide (z = strP s) && okS s | _ => false)
    | .tup l => (match v with
      | .ref a => (match K.lookup a with
        | some o => (match o.data with
          | .seq its _ => decide (o.cls = .type "tuple") && decide (its.size ≤ sizeLine) && kvalL K d its.toList l
          | _ => false)
        | none => false)
      | _ => false)
    | _ => false)
def kvalL (K : PySem.W.Frag) : Nat → List Value → List PV → Bool
  | 0, _, _ => false
  | d + 1, vs, ps => (match vs with
    | [] => (match ps with | [] => true | _ :: _ => false)
    | v :: vs => (match ps with | [] => false | p :: ps => kval K d v p && kvalL K d vs ps))
end
mutual
theorem kval_ok {K : PySem.W.Frag} {w : World} : ∀ (d : Nat) (v : Value) (p : PV), kval K d v p = true → ∃ y, RelV y v ∧ Rep (K, w) (fun _ => none) y p
  | 0, _, _, h => by unfold kval at h; cases h
  | d + 1, v, p, h => by
    unfold kval at h
    cases p with
    | non =>
      cases v <;> first | (cases h; done) | exact ⟨.non, rfl, .non⟩
    | bl b =>
      cases v with
      | bool c =>
        have h : (c == b) = true := h
        obtain rfl := eq_of_beq h
        exact ⟨.bl c, rfl, .bl c⟩
      | _ => cases h
    | int i =>
      cases v with
      | int j t =>
        have h : decide (j = i) = true := h
        obtain rfl := of_decide_eq_true h
        exact ⟨.int j, ⟨t, rfl⟩, .int j⟩
      | _ => cases h
    | str s =>
      cases v with
      | str z t =>
        have h : (decide (z = strP s) && okS s) = true := h
        obtain ⟨h1, h2⟩ := and_tt h
        obtain rfl := of_decide_eq_true h1
        unfold okS at h2
        obtain ⟨h3, h4⟩ := and_tt h2
        exact ⟨.str (strP s), ⟨t, rfl⟩, .str s ⟨of_decide_eq_true h3, fun c hc => of_decide_eq_true (List.all_eq_true.mp h4 c hc)⟩⟩
      | _ => cases h
    | tup l =>
      cases v with
      | ref a =>
        simp only at h
        cases q : K.lookup a with
        | none => rw [q] at h; cases h
        | some o =>
          rw [q] at h
          simp only at h
          cases qd : o.data with
          | seq its n =>
            rw [qd] at h
            simp only at h
            obtain ⟨h, h3⟩ := and_tt h
            obtain ⟨h1, h2⟩ := and_tt h
            obtain ⟨ys, r1, r2⟩ := kvalL_ok d its.toList l h3
            exact ⟨.ref a, rfl, .tup (.inr ⟨o, its, n, q, of_decide_eq_true h1, qd, of_decide_eq_true h2, r1⟩) r2⟩
          | _ => rw [qd] at h; cases h
      | _ => cases h
    | _ => cases h
theorem kvalL_ok {K : PySem.W.Frag} {w : World} : ∀ (d : Nat) (vs : List Value) (ps : List PV), kvalL K d vs ps = true → ∃ ys, Vals ys vs ∧ RepL (K, w) (fun _ => none) ys ps
  | 0, _, _, h => by unfold kvalL at h; cases h
  | d + 1, vs, ps, h => by
    unfold kvalL at h
    cases vs with
    | nil =>
      cases ps with
      | nil => exact ⟨[], .nil, .nil⟩
      | cons p ps => cases h
    | cons v vs =>
      cases ps with
      | nil => cases h
      | cons p ps =>
        obtain ⟨h1, h2⟩ := and_tt h
        obtain ⟨y, a1, a2⟩ := kval_ok d v p h1
        obtain ⟨ys, b1, b2⟩ := kvalL_ok d vs ps h2
        exact ⟨y :: ys, .cons a1 b1, .cons a2 b2⟩
end
/-- the module's constant x is p -/
def exOne (K : PySem.W.Frag) (x : Str) (p : PV) : Bool := match PySem.W.nsIn K mainGlobals x with
  | some (some v) => kval K 40 v p
  | _ => false
theorem exOne_ok {K : PySem.W.Frag} {w : World} {h : Heap} {mg : Str → Option Value} (X : K.In h) (G : h.Ns mainGlobals mg) {x : Str} {p : PV} (c : exOne K x p = true) : ∃ u y, mg x = some u ∧ RelV y u ∧ Rep (K, w) (fun _ => none) y p := by
  unfold exOne at c
  split at c
  · rename_i v e
    obtain ⟨y, r1, r2⟩ := kval_ok (w := w) 40 v p c
    exact ⟨v, y, PySem.W.mg_of X G e, r1, r2⟩
  · cases c
/-- a world, told of one row -/
def setRow (w : World) (row : String) (b : Bool) : World := { w with params := { w.params with followText := fun s => if s == row then b else w.params.followText s } }
theorem setRow_same (w : World) (row : String) : setRow w row (w.params.followText row) = w := by
  have e : (fun s => if s == row then w.params.followText row else w.params.followText s) = w.params.followText := by
    funext s
    by_cases h : s = row
    · rw [if_pos (by simpa using h), h]
    · rw [if_neg (by simpa using h)]
  unfold setRow
  rw [e]
theorem both_rows {C : World → Prop} (row : String) (h : ∀ b w, C (setRow w row b)) (w : World) : C w := by
  have e := h (w.params.followText row) w
  rw [setRow_same] at e
  exact e
/-- a table of the module, its keys texts -/
def kvalT (K : PySem.W.Frag) (a : Addr) : Nat → List PV → Bool
  | 0, _ => false
  | d + 1, l => (match l with
    | [] => true
    | p :: l => (match l with
      | [] => false
      | q :: r => (match p with
        | .str s => okS s && (match PySem.W.nsIn K a (strP s) with | some (some u) => kval K 40 u q | _ => false) && kvalT K a d r
        | _ => false)))
theorem kvalT_ok {K : PySem.W.Frag} {w : World} {a : Addr} : ∀ (d : Nat) (l : List PV), kvalT K a d l = true → ∃ xs, tabX (K, w) a xs ∧ RepL (K, w) (fun _ => none) xs l
  | 0, _, h => by unfold kvalT at h; cases h
  | d + 1, [], h => ⟨[], trivial, .nil⟩
  | d + 1, [_], h => by unfold kvalT at h; cases h
  | d + 1, p :: q :: r, h => by
    unfold kvalT at h
    cases p with
    | str s =>
      simp only at h
      obtain ⟨h, h3⟩ := and_tt h
      obtain ⟨h1, h2⟩ := and_tt h
      unfold okS at h1
      obtain ⟨o1, o2⟩ := and_tt h1
      obtain ⟨xs, t1, t2⟩ := kvalT_ok d r h3
      split at h2
      · rename_i u e
        obtain ⟨y, r1, r2⟩ := kval_ok (w := w) 40 u q h2
        exact ⟨.str (strP s) :: y :: xs, ⟨⟨u, e, r1⟩, t1⟩, .cons (.str s ⟨of_decide_eq_true o1, fun c hc => of_decide_eq_true (List.all_eq_true.mp o2 c hc)⟩) (.cons r2 t2)⟩
      · cases h2
    | _ => cases h
def exTab (K : PySem.W.Frag) (x : Str) (l : List PV) : Bool := (He.Fa.glo x).ok K && kvalT K (He.ga K x) 40 l
theorem exTab_ok {K : PySem.W.Frag} {w : World} {h : Heap} {mg : Str → Option Value} (X : K.In h) (G : h.Ns mainGlobals mg) {x : Str} {l : List PV} (c : exTab K x l = true) (D : ∃ es n, KDict K w (He.ga K x) es n) : ∃ u y, mg x = some u ∧ RelV y u ∧ Rep (K, w) (fun _ => none) y (.set l) := by
  unfold exTab at c
  obtain ⟨c1, c2⟩ := and_tt c
  obtain ⟨xs, t1, t2⟩ := kvalT_ok (w := w) 40 l c2
  exact ⟨_, .ref (He.ga K x), He.glo_ok X G c1, rfl, .tab ⟨D, t1⟩ t2⟩
def exAny (K : PySem.W.Frag) (x : Str) : PV → Bool
  | .set l => exTab K x l
  | p => exOne K x p
def exAll (l : List (Str × PV)) (K : PySem.W.Frag) : Bool := l.all fun z => exAny K z.1 z.2
theorem exAll_ok {l : List (Str × PV)} {K : PySem.W.Frag} (h : exAll l K = true) {i : Nat} {x : Str} {p : PV} (e : l[i]? = some (x, p)) : exAny K x p = true :=
  List.all_eq_true.mp h (x, p) (List.mem_of_getElem? e)
end Py

namespace Py.K03
open PySem PySem.Spec PyProof.Rows L2
/-! ### the defs in the small language (printed) -/
def glob : Nat → Option PV := fun g => ([(.tup [.str [109], .str [118]])] : List PV)[g]?
def globs : List Str := ["KINDS"]
def fuel : Nat := 2 ^ 250
theorem lt_fuel {n : Nat} (h : n < 2 ^ 200) : n < fuel := Nat.lt_of_lt_of_le h (by unfold fuel; decide)
def f_is_whole : Fd := ⟨1, 1, false, (.cons (.ret (.and (.cons (.bi (.isi [0]) (.cons (.var 0) .nil)) (.cons (.not (.bi (.isi [4]) (.cons (.var 0) .nil))) .nil)))) .nil)⟩
def d_is_whole : Den := denOf glob [] fuel f_is_whole
def T_is_whole : Tab := ⟨glob, fun i => ([] : List Den)[i]?, false⟩
theorem df_is_whole (as : List PV) : d_is_whole.f as = runT T_is_whole fuel f_is_whole as := rfl
@[simp] theorem io_is_whole : d_is_whole.io = false := rfl
@[simp] theorem np_is_whole : d_is_whole.np = 1 := rfl
@[simp] theorem tio_is_whole : T_is_whole.io = false := rfl
def f_is_among : Fd := ⟨2, 2, false, (.cons (.ret (.and (.cons (.bi (.isi [3]) (.cons (.var 0) .nil)) (.cons (.cmp .inn (.var 0) (.var 1)) .nil)))) .nil)⟩
def d_is_among : Den := denOf glob [d_is_whole] fuel f_is_among
def T_is_among : Tab := ⟨glob, fun i => ([d_is_whole] : List Den)[i]?, false⟩
theorem df_is_among (as : List PV) : d_is_among.f as = runT T_is_among fuel f_is_among as := rfl
@[simp] theorem io_is_among : d_is_among.io = false := rfl
@[simp] theorem np_is_among : d_is_among.np = 2 := rfl
@[simp] theorem tio_is_among : T_is_among.io = false := rfl
def f_is_ascending_e1 : E := (.cmp .lt (.ix (.var 0) (.var 1)) (.ix (.var 0) (.bin .add (.var 1) (.con (.int 1)))))
def f_is_ascending : Fd := ⟨1, 2, false, (.cons (.ret (.bi .all (.cons (.lc f_is_ascending_e1 (.name 1) (.rng (.cons (.bin .sub (.bi .len (.cons (.var 0) .nil)) (.con (.int 1))) .nil)) .nil [1]) .nil))) .nil)⟩
def d_is_ascending : Den := denOf glob [d_is_whole, d_is_among] fuel f_is_ascending
def T_is_ascending : Tab := ⟨glob, fun i => ([d_is_whole, d_is_among] : List Den)[i]?, false⟩
theorem df_is_ascending (as : List PV) : d_is_ascending.f as = runT T_is_ascending fuel f_is_ascending as := rfl
@[simp] theorem io_is_ascending : d_is_ascending.io = false := rfl
@[simp] theorem np_is_ascending : d_is_ascending.np = 1 := rfl
@[simp] theorem tio_is_ascending : T_is_ascending.io = false := rfl
def f_is_tile_e1 : E := (.fn 0 (.cons (.var 1) .nil))
def f_is_tile : Fd := ⟨1, 2, false, (.cons (.ife (.or (.cons (.not (.bi (.isi [1]) (.cons (.var 0) .nil))) (.cons (.cmp .ne (.bi .len (.cons (.var 0) .nil)) (.con (.int 3))) (.cons (.not (.bi .all (.cons (.lc f_is_tile_e1 (.name 1) (.seq (.var 0)) .nil [1]) .nil))) .nil)))) (.cons (.ret (.con (.bl false))) .nil) .nil) (.cons (.ret (.cmp2 .le .le (.con (.int 0)) (.ix (.var 0) (.con (.int 2))) (.con (.int 3)))) .nil))⟩
def d_is_tile : Den := denOf glob [d_is_whole, d_is_among, d_is_ascending] fuel f_is_tile
def T_is_tile : Tab := ⟨glob, fun i => ([d_is_whole, d_is_among, d_is_ascending] : List Den)[i]?, false⟩
theorem df_is_tile (as : List PV) : d_is_tile.f as = runT T_is_tile fuel f_is_tile as := rfl
@[simp] theorem io_is_tile : d_is_tile.io = false := rfl
@[simp] theorem np_is_tile : d_is_tile.np = 1 := rfl
@[simp] theorem tio_is_tile : T_is_tile.io = false := rfl
@[simp] theorem fn_is_tile__is_whole : T_is_tile.fn 0 = some (d_is_whole) := rfl
def f_beyond : Fd := ⟨1, 5, false, (.cons (.asg (.tup [(.name 1), (.name 2), (.name 3)]) (.var 0)) (.cons (.asg (.name 4) (.ix (.tup (.cons (.tup (.cons (.un .neg (.con (.int 1))) (.cons (.con (.int 0)) .nil))) (.cons (.tup (.cons (.con (.int 0)) (.cons (.con (.int 1)) .nil))) (.cons (.tup (.cons (.con (.int 1)) (.cons (.con (.int 0)) .nil))) (.cons (.tup (.cons (.con (.int 0)) (.cons (.un .neg (.con (.int 1))) .nil))) .nil))))) (.var 3))) (.cons (.ret (.tup (.cons (.bin .add (.var 1) (.ix (.var 4) (.con (.int 0)))) (.cons (.bin .add (.var 2) (.ix (.var 4) (.con (.int 1)))) (.cons (.bin .mod (.bin .add (.var 3) (.con (.int 2))) (.con (.int 4))) .nil))))) .nil)))⟩
def d_beyond : Den := denOf glob [d_is_whole, d_is_among, d_is_ascending, d_is_tile] fuel f_beyond
def T_beyond : Tab := ⟨glob, fun i => ([d_is_whole, d_is_among, d_is_ascending, d_is_tile] : List Den)[i]?, false⟩
theorem df_beyond (as : List PV) : d_beyond.f as = runT T_beyond fuel f_beyond as := rfl
@[simp] theorem io_beyond : d_beyond.io = false := rfl
@[simp] theorem np_beyond : d_beyond.np = 1 := rfl
@[simp] theorem tio_beyond : T_beyond.io = false := rfl
def f_neighbours : Fd := ⟨1, 4, false, (.cons (.asg (.tup [(.name 1), (.name 2), (.name 3)]) (.var 0)) (.cons (.ret (.bi .sorted (.cons (.lst (.cons (.tup (.cons (.var 1) (.cons (.var 2) (.cons (.bin .mod (.bin .add (.var 3) (.con (.int 1))) (.con (.int 4))) .nil)))) (.cons (.tup (.cons (.var 1) (.cons (.var 2) (.cons (.bin .mod (.bin .add (.var 3) (.con (.int 3))) (.con (.int 4))) .nil)))) (.cons (.fn 4 (.cons (.var 0) .nil)) .nil)))) .nil))) .nil))⟩
def d_neighbours : Den := denOf glob [d_is_whole, d_is_among, d_is_ascending, d_is_tile, d_beyond] fuel f_neighbours
def T_neighbours : Tab := ⟨glob, fun i => ([d_is_whole, d_is_among, d_is_ascending, d_is_tile, d_beyond] : List Den)[i]?, false⟩
theorem df_neighbours (as : List PV) : d_neighbours.f as = runT T_neighbours fuel f_neighbours as := rfl
@[simp] theorem io_neighbours : d_neighbours.io = false := rfl
@[simp] theorem np_neighbours : d_neighbours.np = 1 := rfl
@[simp] theorem tio_neighbours : T_neighbours.io = false := rfl
@[simp] theorem fn_neighbours__beyond : T_neighbours.fn 4 = some (d_beyond) := rfl
def f_is_on : Fd := ⟨2, 2, false, (.cons (.ret (.and (.cons (.cmp2 .le .lt (.con (.int 0)) (.ix (.var 1) (.con (.int 0))) (.ix (.var 0) (.con (.int 0)))) (.cons (.cmp2 .le .lt (.con (.int 0)) (.ix (.var 1) (.con (.int 1))) (.ix (.var 0) (.con (.int 1)))) .nil)))) .nil)⟩
def d_is_on : Den := denOf glob [d_is_whole, d_is_among, d_is_ascending, d_is_tile, d_beyond, d_neighbours] fuel f_is_on
def T_is_on : Tab := ⟨glob, fun i => ([d_is_whole, d_is_among, d_is_ascending, d_is_tile, d_beyond, d_neighbours] : List Den)[i]?, false⟩
theorem df_is_on (as : List PV) : d_is_on.f as = runT T_is_on fuel f_is_on as := rfl
@[simp] theorem io_is_on : d_is_on.io = false := rfl
@[simp] theorem np_is_on : d_is_on.np = 2 := rfl
@[simp] theorem tio_is_on : T_is_on.io = false := rfl
def f_is_plane_edge : Fd := ⟨1, 1, false, (.cons (.ife (.or (.cons (.not (.bi (.isi [1]) (.cons (.var 0) .nil))) (.cons (.cmp .ne (.bi .len (.cons (.var 0) .nil)) (.con (.int 2))) (.cons (.not (.fn 3 (.cons (.ix (.var 0) (.con (.int 0))) .nil))) (.cons (.not (.fn 3 (.cons (.ix (.var 0) (.con (.int 1))) .nil))) .nil))))) (.cons (.ret (.con (.bl false))) .nil) .nil) (.cons (.ret (.and (.cons (.cmp .lt (.ix (.var 0) (.con (.int 0))) (.ix (.var 0) (.con (.int 1)))) (.cons (.cmp .inn (.ix (.var 0) (.con (.int 1))) (.fn 5 (.cons (.ix (.var 0) (.con (.int 0))) .nil))) .nil)))) .nil))⟩
def d_is_plane_edge : Den := denOf glob [d_is_whole, d_is_among, d_is_ascending, d_is_tile, d_beyond, d_neighbours, d_is_on] fuel f_is_plane_edge
def T_is_plane_edge : Tab := ⟨glob, fun i => ([d_is_whole, d_is_among, d_is_ascending, d_is_tile, d_beyond, d_neighbours, d_is_on] : List Den)[i]?, false⟩
theorem df_is_plane_edge (as : List PV) : d_is_plane_edge.f as = runT T_is_plane_edge fuel f_is_plane_edge as := rfl
@[simp] theorem io_is_plane_edge : d_is_plane_edge.io = false := rfl
@[simp] theorem np_is_plane_edge : d_is_plane_edge.np = 1 := rfl
@[simp] theorem tio_is_plane_edge : T_is_plane_edge.io = false := rfl
@[simp] theorem fn_is_plane_edge__is_tile : T_is_plane_edge.fn 3 = some (d_is_tile) := rfl
@[simp] theorem fn_is_plane_edge__neighbours : T_is_plane_edge.fn 5 = some (d_neighbours) := rfl
def f_is_edge : Fd := ⟨2, 2, false, (.cons (.ret (.and (.cons (.fn 7 (.cons (.var 1) .nil)) (.cons (.fn 6 (.cons (.var 0) (.cons (.ix (.var 1) (.con (.int 0))) .nil))) (.cons (.fn 6 (.cons (.var 0) (.cons (.ix (.var 1) (.con (.int 1))) .nil))) .nil))))) .nil)⟩
def d_is_edge : Den := denOf glob [d_is_whole, d_is_among, d_is_ascending, d_is_tile, d_beyond, d_neighbours, d_is_on, d_is_plane_edge] fuel f_is_edge
def T_is_edge : Tab := ⟨glob, fun i => ([d_is_whole, d_is_among, d_is_ascending, d_is_tile, d_beyond, d_neighbours, d_is_on, d_is_plane_edge] : List Den)[i]?, false⟩
theorem df_is_edge (as : List PV) : d_is_edge.f as = runT T_is_edge fuel f_is_edge as := rfl
@[simp] theorem io_is_edge : d_is_edge.io = false := rfl
@[simp] theorem np_is_edge : d_is_edge.np = 2 := rfl
@[simp] theorem tio_is_edge : T_is_edge.io = false := rfl
@[simp] theorem fn_is_edge__is_on : T_is_edge.fn 6 = some (d_is_on) := rfl
@[simp] theorem fn_is_edge__is_plane_edge : T_is_edge.fn 7 = some (d_is_plane_edge) := rfl
def f_is_bare_e1 : E := (.fn 8 (.cons (.var 0) (.cons (.var 2) .nil)))
def f_is_bare : Fd := ⟨2, 3, false, (.cons (.ret (.and (.cons (.bi (.isi [1]) (.cons (.var 1) .nil)) (.cons (.bi .all (.cons (.lc f_is_bare_e1 (.name 2) (.seq (.var 1)) .nil [2]) .nil)) (.cons (.fn 2 (.cons (.var 1) .nil)) .nil))))) .nil)⟩
def d_is_bare : Den := denOf glob [d_is_whole, d_is_among, d_is_ascending, d_is_tile, d_beyond, d_neighbours, d_is_on, d_is_plane_edge, d_is_edge] fuel f_is_bare
def T_is_bare : Tab := ⟨glob, fun i => ([d_is_whole, d_is_among, d_is_ascending, d_is_tile, d_beyond, d_neighbours, d_is_on, d_is_plane_edge, d_is_edge] : List Den)[i]?, false⟩
theorem df_is_bare (as : List PV) : d_is_bare.f as = runT T_is_bare fuel f_is_bare as := rfl
@[simp] theorem io_is_bare : d_is_bare.io = false := rfl
@[simp] theorem np_is_bare : d_is_bare.np = 2 := rfl
@[simp] theorem tio_is_bare : T_is_bare.io = false := rfl
@[simp] theorem fn_is_bare__is_ascending : T_is_bare.fn 2 = some (d_is_ascending) := rfl
@[simp] theorem fn_is_bare__is_edge : T_is_bare.fn 8 = some (d_is_edge) := rfl
def f_bare_of_e1 : E := (.var 1)
def f_bare_of : Fd := ⟨1, 3, false, (.cons (.ret (.bi .tuple (.cons (.lc f_bare_of_e1 (.tup [(.name 1), (.name 2)]) (.seq (.var 0)) .nil [1, 2]) .nil))) .nil)⟩
def d_bare_of : Den := denOf glob [d_is_whole, d_is_among, d_is_ascending, d_is_tile, d_beyond, d_neighbours, d_is_on, d_is_plane_edge, d_is_edge, d_is_bare] fuel f_bare_of
def T_bare_of : Tab := ⟨glob, fun i => ([d_is_whole, d_is_among, d_is_ascending, d_is_tile, d_beyond, d_neighbours, d_is_on, d_is_plane_edge, d_is_edge, d_is_bare] : List Den)[i]?, false⟩
theorem df_bare_of (as : List PV) : d_bare_of.f as = runT T_bare_of fuel f_bare_of as := rfl
@[simp] theorem io_bare_of : d_bare_of.io = false := rfl
@[simp] theorem np_bare_of : d_bare_of.np = 1 := rfl
@[simp] theorem tio_bare_of : T_bare_of.io = false := rfl
def f_is_pattern_e1 : E := (.fn 1 (.cons (.ix (.var 2) (.con (.int 1))) (.cons (.glob 0) .nil)))
def f_is_pattern_e2 : E := (.and (.cons (.bi (.isi [1]) (.cons (.var 2) .nil)) (.cons (.cmp .eq (.bi .len (.cons (.var 2) .nil)) (.con (.int 2))) .nil)))
def f_is_pattern : Fd := ⟨2, 3, false, (.cons (.ife (.or (.cons (.not (.bi (.isi [1]) (.cons (.var 1) .nil))) (.cons (.not (.bi .all (.cons (.lc f_is_pattern_e2 (.name 2) (.seq (.var 1)) .nil [2]) .nil))) .nil))) (.cons (.ret (.con (.bl false))) .nil) .nil) (.cons (.ret (.and (.cons (.bi .all (.cons (.lc f_is_pattern_e1 (.name 2) (.seq (.var 1)) .nil [2]) .nil)) (.cons (.fn 9 (.cons (.var 0) (.cons (.fn 10 (.cons (.var 1) .nil)) .nil))) .nil)))) .nil))⟩
def d_is_pattern : Den := denOf glob [d_is_whole, d_is_among, d_is_ascending, d_is_tile, d_beyond, d_neighbours, d_is_on, d_is_plane_edge, d_is_edge, d_is_bare, d_bare_of] fuel f_is_pattern
def T_is_pattern : Tab := ⟨glob, fun i => ([d_is_whole, d_is_among, d_is_ascending, d_is_tile, d_beyond, d_neighbours, d_is_on, d_is_plane_edge, d_is_edge, d_is_bare, d_bare_of] : List Den)[i]?, false⟩
theorem df_is_pattern (as : List PV) : d_is_pattern.f as = runT T_is_pattern fuel f_is_pattern as := rfl
@[simp] theorem io_is_pattern : d_is_pattern.io = false := rfl
@[simp] theorem np_is_pattern : d_is_pattern.np = 2 := rfl
@[simp] theorem tio_is_pattern : T_is_pattern.io = false := rfl
@[simp] theorem fn_is_pattern__is_among : T_is_pattern.fn 1 = some (d_is_among) := rfl
@[simp] theorem fn_is_pattern__is_bare : T_is_pattern.fn 9 = some (d_is_bare) := rfl
@[simp] theorem fn_is_pattern__bare_of : T_is_pattern.fn 10 = some (d_bare_of) := rfl
def f__law_same_e1 : E := (.var 2)
def f__law_same_c1 : Es := (.cons (.not (.fn 12 (.cons (.ix (.var 0) (.var 2)) (.cons (.ix (.var 1) (.var 2)) .nil)))) .nil)
def f__law_same : Fd := ⟨2, 3, false, (.cons (.ife (.or (.cons (.bi (.isi [1]) (.cons (.var 1) .nil)) (.cons (.bi (.isi [2]) (.cons (.var 1) .nil)) .nil))) (.cons (.ife (.or (.cons (.cmp .ne (.bi (.isi [1]) (.cons (.var 1) .nil)) (.bi (.isi [1]) (.cons (.var 0) .nil))) (.cons (.cmp .ne (.bi (.isi [2]) (.cons (.var 1) .nil)) (.bi (.isi [2]) (.cons (.var 0) .nil))) (.cons (.cmp .ne (.bi .len (.cons (.var 0) .nil)) (.bi .len (.cons (.var 1) .nil))) .nil)))) (.cons (.ret (.con (.bl false))) .nil) .nil) (.cons (.ret (.cmp .eq (.bi .len (.cons (.lc f__law_same_e1 (.name 2) (.rng (.cons (.bi .len (.cons (.var 1) .nil)) .nil)) f__law_same_c1 [2]) .nil)) (.con (.int 0)))) .nil)) .nil) (.cons (.ife (.cmp .isN (.var 1) (.con (.non))) (.cons (.ret (.cmp .isN (.var 0) (.con (.non)))) .nil) .nil) (.cons (.ife (.or (.cons (.bi (.isi [4]) (.cons (.var 1) .nil)) (.cons (.bi (.isi [4]) (.cons (.var 0) .nil)) .nil))) (.cons (.ret (.and (.cons (.bi (.isi [4]) (.cons (.var 1) .nil)) (.cons (.bi (.isi [4]) (.cons (.var 0) .nil)) (.cons (.cmp .eq (.var 0) (.var 1)) .nil))))) .nil) .nil) (.cons (.ife (.bi (.isi [0]) (.cons (.var 1) .nil)) (.cons (.ret (.and (.cons (.bi (.isi [0]) (.cons (.var 0) .nil)) (.cons (.cmp .eq (.var 0) (.var 1)) .nil)))) .nil) .nil) (.cons (.ret (.and (.cons (.bi (.isi [3]) (.cons (.var 0) .nil)) (.cons (.cmp .eq (.var 0) (.var 1)) .nil)))) .nil)))))⟩
def d__law_same : Nat → Den
  | 0 => ⟨2, false, fun _ => none⟩
  | m + 1 => denOf glob [d_is_whole, d_is_among, d_is_ascending, d_is_tile, d_beyond, d_neighbours, d_is_on, d_is_plane_edge, d_is_edge, d_is_bare, d_bare_of, d_is_pattern, d__law_same m] fuel f__law_same
def T__law_same (m : Nat) : Tab := ⟨glob, fun i => ([d_is_whole, d_is_among, d_is_ascending, d_is_tile, d_beyond, d_neighbours, d_is_on, d_is_plane_edge, d_is_edge, d_is_bare, d_bare_of, d_is_pattern, d__law_same m] : List Den)[i]?, false⟩
theorem df__law_same (m : Nat) (as : List PV) : (d__law_same (m + 1)).f as = runT (T__law_same m) fuel f__law_same as := rfl
@[simp] theorem io__law_same (m : Nat) : (d__law_same m).io = false := by cases m <;> rfl
@[simp] theorem np__law_same (m : Nat) : (d__law_same m).np = 2 := by cases m <;> rfl
@[simp] theorem tio__law_same (m : Nat) : (T__law_same m).io = false := rfl
@[simp] theorem fn__law_same___law_same (m : Nat) : (T__law_same m).fn 12 = some (d__law_same m) := rfl
def f__law_is_integer : Fd := ⟨1, 1, false, (.cons (.ret (.and (.cons (.bi (.isi [0]) (.cons (.var 0) .nil)) (.cons (.not (.bi (.isi [4]) (.cons (.var 0) .nil))) .nil)))) .nil)⟩
def d__law_is_integer : Den := denOf glob [d_is_whole, d_is_among, d_is_ascending, d_is_tile, d_beyond, d_neighbours, d_is_on, d_is_plane_edge, d_is_edge, d_is_bare, d_bare_of, d_is_pattern, d__law_same 8] fuel f__law_is_integer
def T__law_is_integer : Tab := ⟨glob, fun i => ([d_is_whole, d_is_among, d_is_ascending, d_is_tile, d_beyond, d_neighbours, d_is_on, d_is_plane_edge, d_is_edge, d_is_bare, d_bare_of, d_is_pattern, d__law_same 8] : List Den)[i]?, false⟩
theorem df__law_is_integer (as : List PV) : d__law_is_integer.f as = runT T__law_is_integer fuel f__law_is_integer as := rfl
@[simp] theorem io__law_is_integer : d__law_is_integer.io = false := rfl
@[simp] theorem np__law_is_integer : d__law_is_integer.np = 1 := rfl
@[simp] theorem tio__law_is_integer : T__law_is_integer.io = false := rfl
def f__law_pool_l1 : Ss := (.cons (.asg (.name 1) (.bin .mod (.bi .int (.cons (.bin .add (.bin .mul (.var 1) (.con (.int 31))) (.var 2)) .nil)) (.con (.int 1000003)))) .nil)
def f__law_pool : Fd := ⟨1, 3, false, (.cons (.asg (.name 1) (.con (.int 7))) (.cons (.for (.name 2) (.seq (.sl (.var 0) .abs (.con (.int 63)))) f__law_pool_l1) (.cons (.ret (.lst (.cons (.bi .list (.cons (.var 0) .nil)) (.cons (.con (.int 0)) (.cons (.con (.int 0)) (.cons (.con (.int 0)) (.cons (.var 1) .nil))))))) .nil)))⟩
def d__law_pool : Den := denOf glob [d_is_whole, d_is_among, d_is_ascending, d_is_tile, d_beyond, d_neighbours, d_is_on, d_is_plane_edge, d_is_edge, d_is_bare, d_bare_of, d_is_pattern, d__law_same 8, d__law_is_integer] fuel f__law_pool
def T__law_pool : Tab := ⟨glob, fun i => ([d_is_whole, d_is_among, d_is_ascending, d_is_tile, d_beyond, d_neighbours, d_is_on, d_is_plane_edge, d_is_edge, d_is_bare, d_bare_of, d_is_pattern, d__law_same 8, d__law_is_integer] : List Den)[i]?, false⟩
theorem df__law_pool (as : List PV) : d__law_pool.f as = runT T__law_pool fuel f__law_pool as := rfl
@[simp] theorem io__law_pool : d__law_pool.io = false := rfl
@[simp] theorem np__law_pool : d__law_pool.np = 1 := rfl
@[simp] theorem tio__law_pool : T__law_pool.io = false := rfl
def f__law_spread_l1 : Ss := (.cons (.asg (.name 1) (.bin .mod (.bi .int (.cons (.bin .add (.bin .add (.bin .mul (.var 1) (.con (.int 48271))) (.con (.int 12345))) (.var 3)) .nil)) (.con (.int 2147483647)))) (.cons (.asg (.name 2) (.bin .add (.bin .mul (.var 2) (.con (.int 2147483647))) (.var 1))) .nil))
def f__law_spread : Fd := ⟨1, 4, false, (.cons (.asg (.name 1) (.bin .mod (.bi .int (.cons (.var 0) .nil)) (.con (.int 2147483647)))) (.cons (.asg (.name 2) (.con (.int 1))) (.cons (.for (.name 3) (.rng (.cons (.con (.int 4)) .nil)) f__law_spread_l1) (.cons (.ret (.var 2)) .nil))))⟩
def d__law_spread : Den := denOf glob [d_is_whole, d_is_among, d_is_ascending, d_is_tile, d_beyond, d_neighbours, d_is_on, d_is_plane_edge, d_is_edge, d_is_bare, d_bare_of, d_is_pattern, d__law_same 8, d__law_is_integer, d__law_pool] fuel f__law_spread
def T__law_spread : Tab := ⟨glob, fun i => ([d_is_whole, d_is_among, d_is_ascending, d_is_tile, d_beyond, d_neighbours, d_is_on, d_is_plane_edge, d_is_edge, d_is_bare, d_bare_of, d_is_pattern, d__law_same 8, d__law_is_integer, d__law_pool] : List Den)[i]?, false⟩
theorem df__law_spread (as : List PV) : d__law_spread.f as = runT T__law_spread fuel f__law_spread as := rfl
@[simp] theorem io__law_spread : d__law_spread.io = false := rfl
@[simp] theorem np__law_spread : d__law_spread.np = 1 := rfl
@[simp] theorem tio__law_spread : T__law_spread.io = false := rfl
def f__law_draw : Fd := ⟨2, 5, true, (.cons (.ife (.and (.cons (.cmp .le (.ix (.var 0) (.con (.int 2))) (.con (.int 0))) (.cons (.cmp .lt (.ix (.var 0) (.con (.int 1))) (.bi .len (.cons (.ix (.var 0) (.con (.int 0))) .nil))) .nil))) (.cons (.asg (.name 2) (.ix (.ix (.var 0) (.con (.int 0))) (.ix (.var 0) (.con (.int 1))))) (.cons (.setix 0 (.con (.int 1)) (.bin .add (.ix (.var 0) (.con (.int 1))) (.con (.int 1)))) (.cons (.setix 0 (.con (.int 2)) (.var 2)) (.cons (.ife (.cmp .lt (.var 2) (.con (.int 1000000000000000000))) (.cons (.setix 0 (.con (.int 2)) (.fn 15 (.cons (.var 2) .nil))) .nil) .nil) .nil)))) .nil) (.cons (.setix 0 (.con (.int 3)) (.bin .add (.ix (.var 0) (.con (.int 3))) (.con (.int 1)))) (.cons (.ife (.cmp .le (.ix (.var 0) (.con (.int 2))) (.con (.int 0))) (.cons (.asg (.name 3) (.bin .mod (.bi .int (.cons (.bin .add (.bin .add (.bin .mul (.ix (.var 0) (.con (.int 4))) (.con (.int 48271))) (.bin .mul (.ix (.var 0) (.con (.int 3))) (.con (.int 69621)))) (.con (.int 1))) .nil)) (.con (.int 2147483647)))) (.cons (.asg (.name 3) (.bin .mod (.bi .int (.cons (.bin .add (.bin .mul (.var 3) (.con (.int 16807))) (.ix (.var 0) (.con (.int 3)))) .nil)) (.con (.int 2147483629)))) (.cons (.ret (.bin .mod (.bin .fdiv (.var 3) (.con (.int 5))) (.var 1))) .nil))) .nil) (.cons (.asg (.name 4) (.bin .mod (.bi .int (.cons (.ix (.var 0) (.con (.int 2))) .nil)) (.var 1))) (.cons (.setix 0 (.con (.int 2)) (.bin .fdiv (.ix (.var 0) (.con (.int 2))) (.var 1))) (.cons (.ret (.var 4)) .nil))))))⟩
def d__law_draw : Den := denOf glob [d_is_whole, d_is_among, d_is_ascending, d_is_tile, d_beyond, d_neighbours, d_is_on, d_is_plane_edge, d_is_edge, d_is_bare, d_bare_of, d_is_pattern, d__law_same 8, d__law_is_integer, d__law_pool, d__law_spread] fuel f__law_draw
def T__law_draw : Tab := ⟨glob, fun i => ([d_is_whole, d_is_among, d_is_ascending, d_is_tile, d_beyond, d_neighbours, d_is_on, d_is_plane_edge, d_is_edge, d_is_bare, d_bare_of, d_is_pattern, d__law_same 8, d__law_is_integer, d__law_pool, d__law_spread] : List Den)[i]?, true⟩
theorem df__law_draw (as : List PV) : d__law_draw.f as = runT T__law_draw fuel f__law_draw as := rfl
@[simp] theorem io__law_draw : d__law_draw.io = true := rfl
@[simp] theorem np__law_draw : d__law_draw.np = 2 := rfl
@[simp] theorem tio__law_draw : T__law_draw.io = true := rfl
@[simp] theorem fn__law_draw___law_spread : T__law_draw.fn 15 = some (d__law_spread) := rfl
def f__law_bent : Fd := ⟨2, 6, true, (.cons (.ife (.and (.cons (.bi (.isi [1]) (.cons (.var 1) .nil)) (.cons (.cmp .gt (.bi .len (.cons (.var 1) .nil)) (.con (.int 0))) (.cons (.cmp .gt (.fn 16 (.cons (.var 0) (.cons (.con (.int 3)) .nil))) (.con (.int 0))) .nil)))) (.cons (.asg (.name 2) (.fn 16 (.cons (.var 0) (.cons (.bi .len (.cons (.var 1) .nil)) .nil)))) (.cons (.ret (.bin .add (.bin .add (.sl (.var 1) .abs (.var 2)) (.tup (.cons (.fn 17 (.cons (.var 0) (.cons (.ix (.var 1) (.var 2)) .nil))) .nil))) (.sl (.var 1) (.bin .add (.var 2) (.con (.int 1))) .abs))) .nil)) .nil) (.cons (.asg (.name 3) (.fn 16 (.cons (.var 0) (.cons (.con (.int 9)) .nil)))) (.cons (.ife (.cmp .eq (.var 3) (.con (.int 0))) (.cons (.ret (.ix (.tup (.cons (.con (.str [120])) (.cons (.con (.bl true)) (.cons (.tup .nil) (.cons (.con (.int 0)) (.cons (.un .neg (.con (.int 1))) (.cons (.con (.non)) (.cons (.con (.bl false)) (.cons (.lst .nil) .nil))))))))) (.fn 16 (.cons (.var 0) (.cons (.con (.int 8)) .nil))))) .nil) .nil) (.cons (.ife (.fn 13 (.cons (.var 1) .nil)) (.cons (.ret (.bin .add (.var 1) (.ix (.tup (.cons (.con (.int 1)) (.cons (.un .neg (.con (.int 1))) (.cons (.con (.int 2)) (.cons (.con (.int 0)) .nil))))) (.fn 16 (.cons (.var 0) (.cons (.con (.int 4)) .nil)))))) .nil) .nil) (.cons (.ife (.bi (.isi [3]) (.cons (.var 1) .nil)) (.cons (.ret (.ix (.tup (.cons (.bin .add (.var 1) (.con (.str [97]))) (.cons (.sl (.var 1) (.con (.int 1)) .abs) (.cons (.bin .add (.var 1) (.con (.str [65]))) (.cons (.bin .add (.var 1) (.con (.str [32]))) (.cons (.sl (.var 1) .abs (.con (.int 1))) .nil)))))) (.fn 16 (.cons (.var 0) (.cons (.con (.int 5)) .nil))))) .nil) .nil) (.cons (.ife (.or (.cons (.not (.bi (.isi [1]) (.cons (.var 1) .nil))) (.cons (.cmp .eq (.bi .len (.cons (.var 1) .nil)) (.con (.int 0))) .nil))) (.cons (.ret (.ite (.cmp .lt (.var 3) (.con (.int 5))) (.tup (.cons (.var 1) (.cons (.con (.int 0)) .nil))) (.tup .nil))) .nil) .nil) (.cons (.asg (.name 2) (.fn 16 (.cons (.var 0) (.cons (.bi .len (.cons (.var 1) .nil)) .nil)))) (.cons (.ife (.cmp .lt (.var 3) (.con (.int 3))) (.cons (.ret (.bin .add (.sl (.var 1) .abs (.var 2)) (.sl (.var 1) (.bin .add (.var 2) (.con (.int 1))) .abs))) .nil) .nil) (.cons (.ife (.cmp .lt (.var 3) (.con (.int 5))) (.cons (.ret (.bin .add (.bin .add (.sl (.var 1) .abs (.var 2)) (.tup (.cons (.ix (.var 1) (.var 2)) .nil))) (.sl (.var 1) (.var 2) .abs))) .nil) .nil) (.cons (.ife (.cmp .eq (.var 3) (.con (.int 5))) (.cons (.ret (.bi .list (.cons (.var 1) .nil))) .nil) .nil) (.cons (.asg (.name 4) (.fn 16 (.cons (.var 0) (.cons (.bi .len (.cons (.var 1) .nil)) .nil)))) (.cons (.asg (.name 5) (.bi .list (.cons (.var 1) .nil))) (.cons (.setix 5 (.var 2) (.ix (.var 1) (.var 4))) (.cons (.setix 5 (.var 4) (.ix (.var 1) (.var 2))) (.cons (.ret (.bi .tuple (.cons (.var 5) .nil))) .nil)))))))))))))))⟩
def d__law_bent : Nat → Den
  | 0 => ⟨2, true, fun _ => none⟩
  | m + 1 => denOf glob [d_is_whole, d_is_among, d_is_ascending, d_is_tile, d_beyond, d_neighbours, d_is_on, d_is_plane_edge, d_is_edge, d_is_bare, d_bare_of, d_is_pattern, d__law_same 8, d__law_is_integer, d__law_pool, d__law_spread, d__law_draw, d__law_bent m] fuel f__law_bent
def T__law_bent (m : Nat) : Tab := ⟨glob, fun i => ([d_is_whole, d_is_among, d_is_ascending, d_is_tile, d_beyond, d_neighbours, d_is_on, d_is_plane_edge, d_is_edge, d_is_bare, d_bare_of, d_is_pattern, d__law_same 8, d__law_is_integer, d__law_pool, d__law_spread, d__law_draw, d__law_bent m] : List Den)[i]?, true⟩
theorem df__law_bent (m : Nat) (as : List PV) : (d__law_bent (m + 1)).f as = runT (T__law_bent m) fuel f__law_bent as := rfl
@[simp] theorem io__law_bent (m : Nat) : (d__law_bent m).io = true := by cases m <;> rfl
@[simp] theorem np__law_bent (m : Nat) : (d__law_bent m).np = 2 := by cases m <;> rfl
@[simp] theorem tio__law_bent (m : Nat) : (T__law_bent m).io = true := rfl
@[simp] theorem fn__law_bent___law_is_integer (m : Nat) : (T__law_bent m).fn 13 = some (d__law_is_integer) := rfl
@[simp] theorem fn__law_bent___law_draw (m : Nat) : (T__law_bent m).fn 16 = some (d__law_draw) := rfl
@[simp] theorem fn__law_bent___law_bent (m : Nat) : (T__law_bent m).fn 17 = some (d__law_bent m) := rfl
def f__law_booled_e1 : E := (.fn 18 (.cons (.var 1) .nil))
def f__law_booled : Fd := ⟨1, 2, false, (.cons (.ife (.bi (.isi [1]) (.cons (.var 0) .nil)) (.cons (.ret (.bi .tuple (.cons (.lc f__law_booled_e1 (.name 1) (.seq (.var 0)) .nil [1]) .nil))) .nil) .nil) (.cons (.ret (.ite (.and (.cons (.fn 13 (.cons (.var 0) .nil)) (.cons (.cmp .le (.con (.int 0)) (.var 0)) (.cons (.cmp .lt (.var 0) (.con (.int 2))) .nil)))) (.ix (.tup (.cons (.con (.bl false)) (.cons (.con (.bl true)) .nil))) (.var 0)) (.var 0))) .nil))⟩
def d__law_booled : Nat → Den
  | 0 => ⟨1, false, fun _ => none⟩
  | m + 1 => denOf glob [d_is_whole, d_is_among, d_is_ascending, d_is_tile, d_beyond, d_neighbours, d_is_on, d_is_plane_edge, d_is_edge, d_is_bare, d_bare_of, d_is_pattern, d__law_same 8, d__law_is_integer, d__law_pool, d__law_spread, d__law_draw, d__law_bent 8, d__law_booled m] fuel f__law_booled
def T__law_booled (m : Nat) : Tab := ⟨glob, fun i => ([d_is_whole, d_is_among, d_is_ascending, d_is_tile, d_beyond, d_neighbours, d_is_on, d_is_plane_edge, d_is_edge, d_is_bare, d_bare_of, d_is_pattern, d__law_same 8, d__law_is_integer, d__law_pool, d__law_spread, d__law_draw, d__law_bent 8, d__law_booled m] : List Den)[i]?, false⟩
theorem df__law_booled (m : Nat) (as : List PV) : (d__law_booled (m + 1)).f as = runT (T__law_booled m) fuel f__law_booled as := rfl
@[simp] theorem io__law_booled (m : Nat) : (d__law_booled m).io = false := by cases m <;> rfl
@[simp] theorem np__law_booled (m : Nat) : (d__law_booled m).np = 1 := by cases m <;> rfl
@[simp] theorem tio__law_booled (m : Nat) : (T__law_booled m).io = false := rfl
@[simp] theorem fn__law_booled___law_is_integer (m : Nat) : (T__law_booled m).fn 13 = some (d__law_is_integer) := rfl
@[simp] theorem fn__law_booled___law_booled (m : Nat) : (T__law_booled m).fn 18 = some (d__law_booled m) := rfl
def f__law_listed_e1 : E := (.fn 19 (.cons (.var 2) (.cons (.bin .sub (.var 1) (.con (.int 1))) .nil)))
def f__law_listed : Fd := ⟨2, 3, false, (.cons (.ife (.not (.bi (.isi [1]) (.cons (.var 0) .nil))) (.cons (.ret (.var 0)) .nil) .nil) (.cons (.ret (.ite (.cmp .eq (.var 1) (.con (.int 0))) (.bi .list (.cons (.var 0) .nil)) (.bi .tuple (.cons (.lc f__law_listed_e1 (.name 2) (.seq (.var 0)) .nil [2]) .nil)))) .nil))⟩
def d__law_listed : Nat → Den
  | 0 => ⟨2, false, fun _ => none⟩
  | m + 1 => denOf glob [d_is_whole, d_is_among, d_is_ascending, d_is_tile, d_beyond, d_neighbours, d_is_on, d_is_plane_edge, d_is_edge, d_is_bare, d_bare_of, d_is_pattern, d__law_same 8, d__law_is_integer, d__law_pool, d__law_spread, d__law_draw, d__law_bent 8, d__law_booled 8, d__law_listed m] fuel f__law_listed
def T__law_listed (m : Nat) : Tab := ⟨glob, fun i => ([d_is_whole, d_is_among, d_is_ascending, d_is_tile, d_beyond, d_neighbours, d_is_on, d_is_plane_edge, d_is_edge, d_is_bare, d_bare_of, d_is_pattern, d__law_same 8, d__law_is_integer, d__law_pool, d__law_spread, d__law_draw, d__law_bent 8, d__law_booled 8, d__law_listed m] : List Den)[i]?, false⟩
theorem df__law_listed (m : Nat) (as : List PV) : (d__law_listed (m + 1)).f as = runT (T__law_listed m) fuel f__law_listed as := rfl
@[simp] theorem io__law_listed (m : Nat) : (d__law_listed m).io = false := by cases m <;> rfl
@[simp] theorem np__law_listed (m : Nat) : (d__law_listed m).np = 2 := by cases m <;> rfl
@[simp] theorem tio__law_listed (m : Nat) : (T__law_listed m).io = false := rfl
@[simp] theorem fn__law_listed___law_listed (m : Nat) : (T__law_listed m).fn 19 = some (d__law_listed m) := rfl
def f__law_size_w1 : E := (.cmp .gt (.bin .mul (.ix (.var 3) (.con (.int 0))) (.ix (.var 3) (.con (.int 1)))) (.var 1))
def f__law_size_l1 : Ss := (.cons (.asg (.name 3) (.tup (.cons (.bi .max (.cons (.con (.int 1)) (.cons (.bin .sub (.ix (.var 3) (.con (.int 0))) (.con (.int 1))) .nil))) (.cons (.bi .max (.cons (.con (.int 1)) (.cons (.bin .sub (.ix (.var 3) (.con (.int 1))) (.con (.int 1))) .nil))) .nil)))) .nil)
def f__law_size : Fd := ⟨2, 4, true, (.cons (.asg (.name 2) (.tup (.cons (.tup (.cons (.con (.int 1)) (.cons (.con (.int 1)) .nil))) (.cons (.tup (.cons (.con (.int 1)) (.cons (.con (.int 2)) .nil))) (.cons (.tup (.cons (.con (.int 2)) (.cons (.con (.int 1)) .nil))) (.cons (.tup (.cons (.con (.int 1)) (.cons (.con (.int 3)) .nil))) (.cons (.tup (.cons (.con (.int 3)) (.cons (.con (.int 1)) .nil))) (.cons (.tup (.cons (.con (.int 2)) (.cons (.con (.int 2)) .nil))) (.cons (.tup (.cons (.con (.int 1)) (.cons (.con (.int 4)) .nil))) (.cons (.tup (.cons (.con (.int 4)) (.cons (.con (.int 1)) .nil))) (.cons (.tup (.cons (.con (.int 2)) (.cons (.con (.int 2)) .nil))) (.cons (.tup (.cons (.con (.int 1)) (.cons (.con (.int 4)) .nil))) (.cons (.tup (.cons (.con (.int 2)) (.cons (.con (.int 3)) .nil))) (.cons (.tup (.cons (.con (.int 3)) (.cons (.con (.int 2)) .nil))) (.cons (.tup (.cons (.con (.int 3)) (.cons (.con (.int 3)) .nil))) (.cons (.tup (.cons (.con (.int 1)) (.cons (.con (.int 6)) .nil))) (.cons (.tup (.cons (.con (.int 6)) (.cons (.con (.int 1)) .nil))) (.cons (.tup (.cons (.con (.int 2)) (.cons (.con (.int 4)) .nil))) .nil)))))))))))))))))) (.cons (.asg (.name 3) (.ix (.var 2) (.fn 16 (.cons (.var 0) (.cons (.ite (.cmp .lt (.var 1) (.con (.int 5))) (.con (.int 10)) (.con (.int 16))) .nil))))) (.cons (.while f__law_size_w1 f__law_size_l1) (.cons (.ret (.ite (.and (.cons (.cmp .gt (.var 1) (.con (.int 20))) (.cons (.cmp .eq (.fn 16 (.cons (.var 0) (.cons (.con (.int 6)) .nil))) (.con (.int 0))) .nil))) (.tup (.cons (.con (.int 4)) (.cons (.con (.int 6)) .nil))) (.var 3))) .nil))))⟩
def d__law_size : Den := denOf glob [d_is_whole, d_is_among, d_is_ascending, d_is_tile, d_beyond, d_neighbours, d_is_on, d_is_plane_edge, d_is_edge, d_is_bare, d_bare_of, d_is_pattern, d__law_same 8, d__law_is_integer, d__law_pool, d__law_spread, d__law_draw, d__law_bent 8, d__law_booled 8, d__law_listed 8] fuel f__law_size
def T__law_size : Tab := ⟨glob, fun i => ([d_is_whole, d_is_among, d_is_ascending, d_is_tile, d_beyond, d_neighbours, d_is_on, d_is_plane_edge, d_is_edge, d_is_bare, d_bare_of, d_is_pattern, d__law_same 8, d__law_is_integer, d__law_pool, d__law_spread, d__law_draw, d__law_bent 8, d__law_booled 8, d__law_listed 8] : List Den)[i]?, true⟩
theorem df__law_size (as : List PV) : d__law_size.f as = runT T__law_size fuel f__law_size as := rfl
@[simp] theorem io__law_size : d__law_size.io = true := rfl
@[simp] theorem np__law_size : d__law_size.np = 2 := rfl
@[simp] theorem tio__law_size : T__law_size.io = true := rfl
@[simp] theorem fn__law_size___law_draw : T__law_size.fn 16 = some (d__law_draw) := rfl
def f__law_triangles_e1 : E := (.tup (.cons (.var 2) (.cons (.var 3) (.cons (.var 4) .nil))))
def f__law_triangles_l1 : Ss := (.cons (.asg (.name 1) (.bin .add (.var 1) (.lc f__law_triangles_e1 (.name 4) (.rng (.cons (.con (.int 4)) .nil)) .nil [4]))) .nil)
def f__law_triangles_l2 : Ss := (.cons (.for (.name 3) (.rng (.cons (.ix (.var 0) (.con (.int 1))) .nil)) f__law_triangles_l1) .nil)
def f__law_triangles : Fd := ⟨1, 5, false, (.cons (.asg (.name 1) (.lst .nil)) (.cons (.for (.name 2) (.rng (.cons (.ix (.var 0) (.con (.int 0))) .nil)) f__law_triangles_l2) (.cons (.ret (.var 1)) .nil)))⟩
def d__law_triangles : Den := denOf glob [d_is_whole, d_is_among, d_is_ascending, d_is_tile, d_beyond, d_neighbours, d_is_on, d_is_plane_edge, d_is_edge, d_is_bare, d_bare_of, d_is_pattern, d__law_same 8, d__law_is_integer, d__law_pool, d__law_spread, d__law_draw, d__law_bent 8, d__law_booled 8, d__law_listed 8, d__law_size] fuel f__law_triangles
def T__law_triangles : Tab := ⟨glob, fun i => ([d_is_whole, d_is_among, d_is_ascending, d_is_tile, d_beyond, d_neighbours, d_is_on, d_is_plane_edge, d_is_edge, d_is_bare, d_bare_of, d_is_pattern, d__law_same 8, d__law_is_integer, d__law_pool, d__law_spread, d__law_draw, d__law_bent 8, d__law_booled 8, d__law_listed 8, d__law_size] : List Den)[i]?, false⟩
theorem df__law_triangles (as : List PV) : d__law_triangles.f as = runT T__law_triangles fuel f__law_triangles as := rfl
@[simp] theorem io__law_triangles : d__law_triangles.io = false := rfl
@[simp] theorem np__law_triangles : d__law_triangles.np = 1 := rfl
@[simp] theorem tio__law_triangles : T__law_triangles.io = false := rfl
def f__law_here : Fd := ⟨2, 2, false, (.cons (.ret (.and (.cons (.cmp .ge (.ix (.var 1) (.con (.int 0))) (.con (.int 0))) (.cons (.cmp .ge (.ix (.var 1) (.con (.int 1))) (.con (.int 0))) (.cons (.cmp .lt (.ix (.var 1) (.con (.int 0))) (.ix (.var 0) (.con (.int 0)))) (.cons (.cmp .lt (.ix (.var 1) (.con (.int 1))) (.ix (.var 0) (.con (.int 1)))) .nil)))))) .nil)⟩
def d__law_here : Den := denOf glob [d_is_whole, d_is_among, d_is_ascending, d_is_tile, d_beyond, d_neighbours, d_is_on, d_is_plane_edge, d_is_edge, d_is_bare, d_bare_of, d_is_pattern, d__law_same 8, d__law_is_integer, d__law_pool, d__law_spread, d__law_draw, d__law_bent 8, d__law_booled 8, d__law_listed 8, d__law_size, d__law_triangles] fuel f__law_here
def T__law_here : Tab := ⟨glob, fun i => ([d_is_whole, d_is_among, d_is_ascending, d_is_tile, d_beyond, d_neighbours, d_is_on, d_is_plane_edge, d_is_edge, d_is_bare, d_bare_of, d_is_pattern, d__law_same 8, d__law_is_integer, d__law_pool, d__law_spread, d__law_draw, d__law_bent 8, d__law_booled 8, d__law_listed 8, d__law_size, d__law_triangles] : List Den)[i]?, false⟩
theorem df__law_here (as : List PV) : d__law_here.f as = runT T__law_here fuel f__law_here as := rfl
@[simp] theorem io__law_here : d__law_here.io = false := rfl
@[simp] theorem np__law_here : d__law_here.np = 2 := rfl
@[simp] theorem tio__law_here : T__law_here.io = false := rfl
def f__law_edges_e1 : E := (.tup (.cons (.var 2) (.cons (.var 7) .nil)))
def f__law_edges_c1 : Es := (.cons (.and (.cons (.cmp .lt (.var 2) (.var 7)) (.cons (.fn 22 (.cons (.var 0) (.cons (.var 7) .nil))) .nil))) .nil)
def f__law_edges_l1 : Ss := (.cons (.asg (.tup [(.name 4), (.name 5), (.name 6)]) (.var 2)) (.cons (.asg (.name 3) (.lst (.cons (.tup (.cons (.var 4) (.cons (.var 5) (.cons (.bin .mod (.bi .int (.cons (.bin .add (.var 6) (.con (.int 1))) .nil)) (.con (.int 4))) .nil)))) (.cons (.tup (.cons (.var 4) (.cons (.var 5) (.cons (.bin .mod (.bi .int (.cons (.bin .add (.var 6) (.con (.int 3))) .nil)) (.con (.int 4))) .nil)))) (.cons (.ix (.lst (.cons (.tup (.cons (.bin .sub (.var 4) (.con (.int 1))) (.cons (.var 5) (.cons (.con (.int 2)) .nil)))) (.cons (.tup (.cons (.var 4) (.cons (.bin .add (.var 5) (.con (.int 1))) (.cons (.con (.int 3)) .nil)))) (.cons (.tup (.cons (.bin .add (.var 4) (.con (.int 1))) (.cons (.var 5) (.cons (.con (.int 0)) .nil)))) (.cons (.tup (.cons (.var 4) (.cons (.bin .sub (.var 5) (.con (.int 1))) (.cons (.con (.int 1)) .nil)))) .nil))))) (.var 6)) .nil))))) (.cons (.asg (.name 1) (.bin .add (.var 1) (.lc f__law_edges_e1 (.name 7) (.seq (.bi .sorted (.cons (.var 3) .nil))) f__law_edges_c1 [7]))) .nil)))
def f__law_edges : Fd := ⟨1, 8, false, (.cons (.asg (.name 1) (.lst .nil)) (.cons (.for (.name 2) (.seq (.fn 21 (.cons (.var 0) .nil))) f__law_edges_l1) (.cons (.ret (.var 1)) .nil)))⟩
def d__law_edges : Den := denOf glob [d_is_whole, d_is_among, d_is_ascending, d_is_tile, d_beyond, d_neighbours, d_is_on, d_is_plane_edge, d_is_edge, d_is_bare, d_bare_of, d_is_pattern, d__law_same 8, d__law_is_integer, d__law_pool, d__law_spread, d__law_draw, d__law_bent 8, d__law_booled 8, d__law_listed 8, d__law_size, d__law_triangles, d__law_here] fuel f__law_edges
def T__law_edges : Tab := ⟨glob, fun i => ([d_is_whole, d_is_among, d_is_ascending, d_is_tile, d_beyond, d_neighbours, d_is_on, d_is_plane_edge, d_is_edge, d_is_bare, d_bare_of, d_is_pattern, d__law_same 8, d__law_is_integer, d__law_pool, d__law_spread, d__law_draw, d__law_bent 8, d__law_booled 8, d__law_listed 8, d__law_size, d__law_triangles, d__law_here] : List Den)[i]?, false⟩
theorem df__law_edges (as : List PV) : d__law_edges.f as = runT T__law_edges fuel f__law_edges as := rfl
@[simp] theorem io__law_edges : d__law_edges.io = false := rfl
@[simp] theorem np__law_edges : d__law_edges.np = 1 := rfl
@[simp] theorem tio__law_edges : T__law_edges.io = false := rfl
@[simp] theorem fn__law_edges___law_triangles : T__law_edges.fn 21 = some (d__law_triangles) := rfl
@[simp] theorem fn__law_edges___law_here : T__law_edges.fn 22 = some (d__law_here) := rfl
def f__law_is_bare_e1 : E := (.var 3)
def f__law_is_bare_e2 : E := (.var 4)
def f__law_is_bare_c1 : Es := (.cons (.fn 12 (.cons (.var 3) (.cons (.var 4) .nil))) .nil)
def f__law_is_bare_c2 : Es := (.cons (.cmp .eq (.bi .len (.cons (.lc f__law_is_bare_e2 (.name 4) (.seq (.var 2)) f__law_is_bare_c1 [4]) .nil)) (.con (.int 0))) .nil)
def f__law_is_bare : Fd := ⟨2, 5, false, (.cons (.asg (.name 2) (.fn 23 (.cons (.var 0) .nil))) (.cons (.ife (.or (.cons (.not (.bi (.isi [1]) (.cons (.var 1) .nil))) (.cons (.cmp .gt (.bi .len (.cons (.lc f__law_is_bare_e1 (.name 3) (.seq (.var 1)) f__law_is_bare_c2 [3]) .nil)) (.con (.int 0))) .nil))) (.cons (.ret (.con (.bl false))) .nil) .nil) (.cons (.ret (.cmp .eq (.bi .list (.cons (.var 1) .nil)) (.cset true (.var 1)))) .nil)))⟩
def d__law_is_bare : Den := denOf glob [d_is_whole, d_is_among, d_is_ascending, d_is_tile, d_beyond, d_neighbours, d_is_on, d_is_plane_edge, d_is_edge, d_is_bare, d_bare_of, d_is_pattern, d__law_same 8, d__law_is_integer, d__law_pool, d__law_spread, d__law_draw, d__law_bent 8, d__law_booled 8, d__law_listed 8, d__law_size, d__law_triangles, d__law_here, d__law_edges] fuel f__law_is_bare
def T__law_is_bare : Tab := ⟨glob, fun i => ([d_is_whole, d_is_among, d_is_ascending, d_is_tile, d_beyond, d_neighbours, d_is_on, d_is_plane_edge, d_is_edge, d_is_bare, d_bare_of, d_is_pattern, d__law_same 8, d__law_is_integer, d__law_pool, d__law_spread, d__law_draw, d__law_bent 8, d__law_booled 8, d__law_listed 8, d__law_size, d__law_triangles, d__law_here, d__law_edges] : List Den)[i]?, false⟩
theorem df__law_is_bare (as : List PV) : d__law_is_bare.f as = runT T__law_is_bare fuel f__law_is_bare as := rfl
@[simp] theorem io__law_is_bare : d__law_is_bare.io = false := rfl
@[simp] theorem np__law_is_bare : d__law_is_bare.np = 2 := rfl
@[simp] theorem tio__law_is_bare : T__law_is_bare.io = false := rfl
@[simp] theorem fn__law_is_bare___law_same : T__law_is_bare.fn 12 = some (d__law_same 8) := rfl
@[simp] theorem fn__law_is_bare___law_edges : T__law_is_bare.fn 23 = some (d__law_edges) := rfl
def f_law_s1 : S := .asg (.name 1) (.fn 14 (.cons (.var 0) .nil))
def f_law_s2 : S := .asg (.name 2) (.fn 20 (.cons (.var 1) (.cons (.con (.int 4)) .nil)))
def f_law_e1 : E := (.var 4)
def f_law_c1 : Es := (.cons (.cmp .eq (.fn 16 (.cons (.var 1) (.cons (.con (.int 2)) .nil))) (.con (.int 0))) .nil)
def f_law_s3 : S := .asg (.name 3) (.bi .tuple (.cons (.lc f_law_e1 (.name 4) (.seq (.fn 23 (.cons (.var 2) .nil))) f_law_c1 [4]) .nil))
def f_law_e2 : E := (.tup (.cons (.var 4) (.cons (.ix (.tup (.cons (.con (.str [109])) (.cons (.con (.str [118])) .nil))) (.fn 16 (.cons (.var 1) (.cons (.con (.int 2)) .nil)))) .nil)))
def f_law_s4 : S := .asg (.name 5) (.bi .tuple (.cons (.lc f_law_e2 (.name 4) (.seq (.var 3)) .nil [4]) .nil))
def f_law_s5 : S := .ife (.not (.fn 12 (.cons (.fn 10 (.cons (.var 5) .nil)) (.cons (.var 3) .nil)))) (.cons (.ret (.con (.bl false))) .nil) .nil
def f_law_s6 : S := .asg (.name 4) (.ix (.fn 23 (.cons (.var 2) .nil)) (.con (.int 0)))
def f_law_s7 : S := .asg (.name 6) (.tup (.cons (.tup (.cons (.con (.int 0)) (.cons (.con (.int 0)) (.cons (.con (.int 2)) .nil)))) (.cons (.tup (.cons (.ix (.var 2) (.con (.int 0))) (.cons (.con (.int 0)) (.cons (.con (.int 0)) .nil)))) .nil)))
def f_law_s8 : S := .asg (.name 7) (.lst (.cons (.var 3) (.cons (.bi .list (.cons (.var 3) .nil)) (.cons (.fn 18 (.cons (.var 3) .nil)) (.cons (.fn 19 (.cons (.var 3) (.cons (.con (.int 1)) .nil))) (.cons (.fn 19 (.cons (.var 3) (.cons (.con (.int 2)) .nil))) (.cons (.rev (.var 3)) (.cons (.bin .add (.var 3) (.sl (.var 3) (.un .neg (.con (.int 1))) .abs)) (.cons (.bin .add (.var 3) (.tup (.cons (.var 6) .nil))) (.cons (.tup (.cons (.rev (.var 4)) .nil)) (.cons (.tup .nil) .nil)))))))))))
def f_law_s9 : S := .asg (.name 7) (.bin .add (.var 7) (.lst (.cons (.con (.non)) (.cons (.tup (.cons (.con (.str [109])) .nil)) (.cons (.bin .add (.var 3) (.tup (.cons (.con (.non)) .nil))) .nil)))))
def f_law_s10 : S := .asg (.name 7) (.bin .add (.var 7) (.lst (.cons (.var 5) (.cons (.bi .list (.cons (.var 5) .nil)) (.cons (.fn 18 (.cons (.var 5) .nil)) (.cons (.fn 19 (.cons (.var 5) (.cons (.con (.int 1)) .nil))) (.cons (.rev (.var 5)) (.cons (.bin .add (.var 5) (.sl (.var 5) (.un .neg (.con (.int 1))) .abs)) (.cons (.tup (.cons (.tup (.cons (.var 4) (.cons (.con (.str [120])) .nil))) .nil)) (.cons (.tup (.cons (.tup (.cons (.var 4) (.cons (.con (.non)) .nil))) .nil)) .nil))))))))))
def f_law_s11 : S := .asg (.name 7) (.bin .add (.var 7) (.lst (.cons (.tup (.cons (.tup (.cons (.var 4) (.cons (.con (.str [109])) (.cons (.con (.int 0)) .nil)))) .nil)) (.cons (.tup (.cons (.tup (.cons (.var 4) .nil)) .nil)) (.cons (.tup (.cons (.tup (.cons (.rev (.var 4)) (.cons (.con (.str [109])) .nil))) .nil)) (.cons (.tup (.cons (.tup (.cons (.var 4) (.cons (.con (.str [109])) .nil))) (.cons (.tup (.cons (.var 4) (.cons (.con (.str [118])) .nil))) .nil))) (.cons (.tup (.cons (.tup (.cons (.var 6) (.cons (.con (.str [118])) .nil))) .nil)) .nil)))))))
def f_law_e3 : E := (.fn 17 (.cons (.var 1) (.cons (.var 3) .nil)))
def f_law_e4 : E := (.fn 17 (.cons (.var 1) (.cons (.var 5) .nil)))
def f_law_e5 : E := (.var 13)
def f_law_c2 : Es := (.cons (.or (.cons (.not (.bi (.isi [1]) (.cons (.var 13) .nil))) (.cons (.cmp .ne (.bi .len (.cons (.var 13) .nil)) (.con (.int 2))) .nil))) .nil)
def f_law_e6 : E := (.ix (.var 13) (.con (.int 0)))
def f_law_e7 : E := (.var 13)
def f_law_c3 : Es := (.cons (.or (.cons (.not (.bi (.isi [3]) (.cons (.ix (.var 13) (.con (.int 1))) .nil))) (.cons (.cmp .nin (.ix (.var 13) (.con (.int 1))) (.tup (.cons (.con (.str [109])) (.cons (.con (.str [118])) .nil)))) .nil))) .nil)
def f_law_l1 : Ss := (.cons (.asg (.name 9) (.lst (.cons (.fn 24 (.cons (.var 2) (.cons (.var 8) .nil))) (.cons (.con (.bl false)) .nil)))) (.cons (.ife (.and (.cons (.bi (.isi [1]) (.cons (.var 8) .nil)) (.cons (.cmp .eq (.bi .len (.cons (.lc f_law_e5 (.name 13) (.seq (.var 8)) f_law_c2 [13]) .nil)) (.con (.int 0))) .nil))) (.cons (.asg (.name 11) (.cmp .eq (.bi .len (.cons (.lc f_law_e7 (.name 13) (.seq (.var 8)) f_law_c3 [13]) .nil)) (.con (.int 0)))) (.cons (.setix 9 (.con (.int 1)) (.and (.cons (.var 11) (.cons (.fn 24 (.cons (.var 2) (.cons (.bi .tuple (.cons (.lc f_law_e6 (.name 13) (.seq (.var 8)) .nil [13]) .nil)) .nil))) .nil)))) .nil)) .nil) (.cons (.asg (.name 10) (.rpr (.var 8))) (.cons (.ife (.or (.cons (.not (.fn 12 (.cons (.lst (.cons (.fn 9 (.cons (.var 2) (.cons (.var 8) .nil))) (.cons (.fn 11 (.cons (.var 2) (.cons (.var 8) .nil))) .nil))) (.cons (.var 9) .nil)))) (.cons (.cmp .ne (.rpr (.var 8)) (.var 10)) .nil))) (.cons (.ret (.con (.bl false))) .nil) .nil) .nil))))
def f_law_s12 : S := .for (.name 8) (.seq (.bin .add (.bin .add (.var 7) (.lc f_law_e3 (.name 12) (.rng (.cons (.con (.int 5)) .nil)) .nil [12])) (.lc f_law_e4 (.name 12) (.rng (.cons (.con (.int 5)) .nil)) .nil [12]))) f_law_l1
def f_law_s13 : S := .ret (.con (.bl true))
def f_law : Fd := ⟨1, 14, false, (.cons f_law_s1 (.cons f_law_s2 (.cons f_law_s3 (.cons f_law_s4 (.cons f_law_s5 (.cons f_law_s6 (.cons f_law_s7 (.cons f_law_s8 (.cons f_law_s9 (.cons f_law_s10 (.cons f_law_s11 (.cons f_law_s12 (.cons f_law_s13 .nil)))))))))))))⟩
def d_law : Den := denOf glob [d_is_whole, d_is_among, d_is_ascending, d_is_tile, d_beyond, d_neighbours, d_is_on, d_is_plane_edge, d_is_edge, d_is_bare, d_bare_of, d_is_pattern, d__law_same 8, d__law_is_integer, d__law_pool, d__law_spread, d__law_draw, d__law_bent 8, d__law_booled 8, d__law_listed 8, d__law_size, d__law_triangles, d__law_here, d__law_edges, d__law_is_bare] fuel f_law
def T_law : Tab := ⟨glob, fun i => ([d_is_whole, d_is_among, d_is_ascending, d_is_tile, d_beyond, d_neighbours, d_is_on, d_is_plane_edge, d_is_edge, d_is_bare, d_bare_of, d_is_pattern, d__law_same 8, d__law_is_integer, d__law_pool, d__law_spread, d__law_draw, d__law_bent 8, d__law_booled 8, d__law_listed 8, d__law_size, d__law_triangles, d__law_here, d__law_edges, d__law_is_bare] : List Den)[i]?, false⟩
theorem df_law (as : List PV) : d_law.f as = runT T_law fuel f_law as := rfl
@[simp] theorem io_law : d_law.io = false := rfl
@[simp] theorem np_law : d_law.np = 1 := rfl
@[simp] theorem tio_law : T_law.io = false := rfl
@[simp] theorem fn_law__is_bare : T_law.fn 9 = some (d_is_bare) := rfl
@[simp] theorem fn_law__bare_of : T_law.fn 10 = some (d_bare_of) := rfl
@[simp] theorem fn_law__is_pattern : T_law.fn 11 = some (d_is_pattern) := rfl
@[simp] theorem fn_law___law_same : T_law.fn 12 = some (d__law_same 8) := rfl
@[simp] theorem fn_law___law_pool : T_law.fn 14 = some (d__law_pool) := rfl
@[simp] theorem fn_law___law_draw : T_law.fn 16 = some (d__law_draw) := rfl
@[simp] theorem fn_law___law_bent : T_law.fn 17 = some (d__law_bent 8) := rfl
@[simp] theorem fn_law___law_booled : T_law.fn 18 = some (d__law_booled 8) := rfl
@[simp] theorem fn_law___law_listed : T_law.fn 19 = some (d__law_listed 8) := rfl
@[simp] theorem fn_law___law_size : T_law.fn 20 = some (d__law_size) := rfl
@[simp] theorem fn_law___law_edges : T_law.fn 23 = some (d__law_edges) := rfl
@[simp] theorem fn_law___law_is_bare : T_law.fn 24 = some (d__law_is_bare) := rfl
end Py.K03

namespace Py.K03
/-! ### the common helpers -/
theorem spread_ok (i : Int) : ∃ j, d__law_spread.f [.int i] = some ⟨false, .int j, .non⟩ := by
  rw [df__law_spread]
  simp [runT, f__law_spread, f__law_spread_l1, startE, setS, asgF_eq, loopF_cons, rng1, small62, rangeL, List.range, List.range.loop, bi1, divI, modI, mulI, mulOk, retE, outE]
/-- the pool -/
def pool (cs : List PV) (p v c s : Int) : PV := .lst [.lst cs, .int p, .int v, .int c, .int s]
def Pool (x : PV) : Prop := ∃ (cs : List Int) (p v c s : Int), x = pool (cs.map .int) p v c s ∧ 0 ≤ p
theorem pool_loop : ∀ (l : List Int) (a : PV) (cell : Slot) (salt : Int), ∃ (salt' : Int) (cell' : Slot), loopF (asgF T__law_pool (.name 2)) (exs T__law_pool fuel f__law_pool_l1) (l.map .int) [.sh a, .sh (.int salt), cell] = some (.nx [.sh a, .sh (.int salt'), cell'])
  | [], a, cell, salt => ⟨salt, cell, rfl⟩
  | x :: l, a, cell, salt => by
    obtain ⟨s', c', h⟩ := pool_loop l a (.sh (.int x)) ((salt * 31 + x).fmod 1000003)
    refine ⟨s', c', ?_⟩
    rw [← h]
    simp [loopF_cons, f__law_pool_l1, asgF_eq, setS, bi1, modI, mulI, mulOk]
theorem pool_ok (ns : List Int) : ∃ p, Pool p ∧ d__law_pool.f [.scr ns] = some ⟨true, p, .non⟩ := by
  obtain ⟨s, c, h⟩ := pool_loop (cutL ns none (some 63)) (.scr ns) .none 7
  refine ⟨pool (ns.map .int) 0 0 0 s, ⟨ns, 0, 0, 0, s, rfl, Int.le_refl 0⟩, ?_⟩
  rw [df__law_pool]
  simp [runT, f__law_pool, startE, setS, isAbs, sl3, seqOf, bi1, retE, outE, h, pool]
theorem ixI (l : List PV) (j : Int) : ix2 (.lst l) (.int j) = (atV l j).map .sh := rfl
theorem draw_tail (cs : List Int) (p v c s m : Int) (hp : 0 ≤ p) (h1 : 1 ≤ m) (h2 : m < 1073741824) (s2 s3 s4 : Slot) :
    ∃ (x : Int) (p' : PV) (ρ : Env), Pool p' ∧ 0 ≤ x ∧ x < m ∧ slotAt ρ 0 = .own p' ∧ exs T__law_draw fuel (match f__law_draw.body with | .cons _ b => b | b => b) [.own (pool (cs.map .int) p v c s), .sh (.int m), s2, s3, s4] = some (.ret (.sh (.int x)) ρ) := by
  have hm : m ≠ 0 := by omega
  have hd : divW m = true := by simp [divW]; omega
  have hd5 : divW 5 = true := by decide
  by_cases hv : v ≤ 0
  · obtain ⟨mx, hmx⟩ : ∃ mx : Int, mx = ((s * 48271 + (c + 1) * 69621 + 1).fmod 2147483647 * 16807 + (c + 1)).fmod 2147483629 := ⟨_, rfl⟩
    refine ⟨(mx.fdiv 5).fmod m, pool (cs.map .int) p v (c + 1) s, [.own (pool (cs.map .int) p v (c + 1) s), .sh (.int m), s2, .sh (.int mx), s4], ⟨cs, p, v, c + 1, s, rfl, hp⟩, Int.fmod_nonneg_of_pos _ (by omega), Int.fmod_lt_of_pos _ (by omega), rfl, ?_⟩
    simp [f__law_draw, setS, bi1, modI, mulI, divI, mulOk, hv, hm, hd5, pool, ixI, Py.ixN, atV, fSet, hmx]
  · refine ⟨v.fmod m, pool (cs.map .int) p (v.fdiv m) (c + 1) s, [.own (pool (cs.map .int) p (v.fdiv m) (c + 1) s), .sh (.int m), s2, s3, .sh (.int (v.fmod m))], ⟨cs, p, _, c + 1, s, rfl, hp⟩, Int.fmod_nonneg_of_pos v (by omega), Int.fmod_lt_of_pos v (by omega), rfl, ?_⟩
    simp [f__law_draw, setS, bi1, modI, mulI, divI, mulOk, hv, hm, hd, pool, ixI, Py.ixN, atV, fSet]
/-- a draw -/
theorem draw_ok {x : PV} (hx : Pool x) (m : Int) (h1 : 1 ≤ m) (h2 : m < 1073741824) : ∃ (v : Int) (p' : PV), Pool p' ∧ 0 ≤ v ∧ v < m ∧ d__law_draw.f [x, .int m] = some ⟨false, .int v, p'⟩ := by
  obtain ⟨cs, p, v, c, s, rfl, hp⟩ := hx
  have fin : ∀ (cs : List Int) (p' v' c' s' : Int) (t2 : Slot), 0 ≤ p' → (match f__law_draw.body with | .cons i _ => ex T__law_draw fuel i [.own (pool (cs.map .int) p v c s), .sh (.int m), .none, .none, .none] | .nil => none) = some (.nx [.own (pool (cs.map .int) p' v' c' s'), .sh (.int m), t2, .none, .none]) →
      ∃ (x : Int) (q : PV), Pool q ∧ 0 ≤ x ∧ x < m ∧ d__law_draw.f [pool (cs.map .int) p v c s, .int m] = some ⟨false, .int x, q⟩ := fun cs p' v' c' s' t2 hp' h => by
    obtain ⟨x, q, ρ, g1, g2, g3, g4, g5⟩ := draw_tail cs p' v' c' s' m hp' h1 h2 t2 .none .none
    refine ⟨x, q, g1, g2, g3, ?_⟩
    rw [df__law_draw]
    unfold f__law_draw at h g5
    simp only at h g5
    have e : exs T__law_draw fuel f__law_draw.body [.own (pool (cs.map .int) p v c s), .sh (.int m), .none, .none, .none] = some (.ret (.sh (.int x)) ρ) := by
      unfold f__law_draw
      simp only [exs_cons] at g5 ⊢
      rw [h]
      exact g5
    have st : startE f__law_draw [pool (cs.map .int) p v c s, .int m] = [.own (pool (cs.map .int) p v c s), .sh (.int m), .none, .none, .none] := rfl
    unfold runT
    rw [st, e]
    simp [f__law_draw, retE, outE, g4]
  by_cases hv : v ≤ 0
  · by_cases hl : p < cs.length
    · have hpl : p.toNat < cs.length := by omega
      obtain ⟨cell, hcell⟩ : ∃ cell, cs[p.toNat] = cell := ⟨_, rfl⟩
      obtain ⟨j, hj⟩ := spread_ok cell
      by_cases hc : cell < 1000000000000000000
      · refine fin cs (p + 1) j c s (.sh (.int cell)) (by omega) ?_
        simp [f__law_draw, setS, bi1, pool, ixI, Py.ixN, atV, fSet, hv, hl, hp, hcell, hc, callD, hj]
      · refine fin cs (p + 1) cell c s (.sh (.int cell)) (by omega) ?_
        simp [f__law_draw, setS, bi1, pool, ixI, Py.ixN, atV, fSet, hv, hl, hp, hcell, hc]
    · refine fin cs p v c s .none hp ?_
      simp [f__law_draw, setS, bi1, pool, ixI, Py.ixN, atV, fSet, hv, hl]
  · refine fin cs p v c s .none hp ?_
    simp [f__law_draw, setS, bi1, pool, ixI, Py.ixN, atV, fSet, hv]

/-! ### the same value is the same -/
theorem same_loop (m : Nat) (W : PV) (l : List PV) (hW : W = .tup l ∨ W = .lst l) (hl : ∀ x ∈ l, (d__law_same m).f [x, x] = some ⟨false, .bl true, .non⟩) :
    loopC (stepF (T__law_same m) f__law_same_e1 (.name 2) f__law_same_c1 [2]) (rangeL 0 l.length) [.sh W, .sh W, .none] = some ([], [.sh W, .sh W, .none]) := by
  refine loopC_none fun x hx => ?_
  unfold rangeL at hx
  obtain ⟨k, hk, rfl⟩ := List.mem_map.mp hx
  have hk := List.mem_range.mp hk
  have h := hl l[k] (List.getElem_mem hk)
  have ha : atV l (k : Int) = some l[k] := by
    unfold atV Py.ixN
    rw [if_pos (by omega), if_pos (by omega)]
    simp [hk]
  have hix : ix2 W (.int (k : Int)) = some (.sh l[k]) := by
    rcases hW with rfl | rfl
    · show (atV l (k : Int)).map Res.sh = _
      rw [ha]; rfl
    · show (atV l (k : Int)).map Res.sh = _
      rw [ha]; rfl
  rw [stepF_eq]
  simp [f__law_same_c1, setS, hix, callD, h, wipeE]
theorem same_non (m : Nat) : (d__law_same (m + 1)).f [.non, .non] = some ⟨false, .bl true, .non⟩ := by
  rw [df__law_same]; simp [runT, f__law_same, startE, bi1, isA, retE, outE]
theorem same_bl (m : Nat) (b : Bool) : (d__law_same (m + 1)).f [.bl b, .bl b] = some ⟨false, .bl true, .non⟩ := by
  rw [df__law_same]; simp [runT, f__law_same, startE, bi1, isA, retE, outE]
theorem same_int (m : Nat) (b : Int) : (d__law_same (m + 1)).f [.int b, .int b] = some ⟨false, .bl true, .non⟩ := by
  rw [df__law_same]; simp [runT, f__law_same, startE, bi1, isA, retE, outE]
theorem same_str (m : Nat) (b : List Nat) : (d__law_same (m + 1)).f [.str b, .str b] = some ⟨false, .bl true, .non⟩ := by
  rw [df__law_same]; simp [runT, f__law_same, startE, bi1, isA, retE, outE]
theorem same_tup (m : Nat) (l : List PV) (h1 : l.length ≤ 16777216) (hl : ∀ x ∈ l, (d__law_same m).f [x, x] = some ⟨false, .bl true, .non⟩) : (d__law_same (m + 1)).f [.tup l, .tup l] = some ⟨false, .bl true, .non⟩ := by
  have L := same_loop m (.tup l) l (.inl rfl) hl
  rw [df__law_same]
  simp [runT, f__law_same, startE, bi1, isA, retE, outE, noOwn, wipeE, rng1_len _ h1, L, backE]
theorem same_lst (m : Nat) (l : List PV) (h1 : l.length ≤ 16777216) (hl : ∀ x ∈ l, (d__law_same m).f [x, x] = some ⟨false, .bl true, .non⟩) : (d__law_same (m + 1)).f [.lst l, .lst l] = some ⟨false, .bl true, .non⟩ := by
  have L := same_loop m (.lst l) l (.inr rfl) hl
  rw [df__law_same]
  simp [runT, f__law_same, startE, bi1, isA, retE, outE, noOwn, wipeE, rng1_len _ h1, L, backE]
theorem same_ok : ∀ (d j : Nat) (v : PV), okV d v = true → (d__law_same (d + 1 + j)).f [v, v] = some ⟨false, .bl true, .non⟩ := by
  intro d
  induction d with
  | zero =>
    intro j v h
    rw [show 0 + 1 + j = j + 1 by omega]
    cases v with
    | non => exact same_non _
    | bl b => exact same_bl _ _
    | int b => exact same_int _ _
    | str b => exact same_str _ _
    | _ => cases h
  | succ d ih =>
    intro j v h
    rw [show d + 1 + 1 + j = (d + 1 + j) + 1 by omega]
    cases v with
    | tup l =>
      obtain ⟨h1, h2⟩ := okV_tup h
      exact same_tup _ l h1 fun x hx => ih j x (h2 x hx)
    | lst l =>
      obtain ⟨h1, h2⟩ := okV_lst h
      exact same_lst _ l h1 fun x hx => ih j x (h2 x hx)
    | non => exact same_non _
    | bl b => exact same_bl _ _
    | int b => exact same_int _ _
    | str b => exact same_str _ _
    | _ => cases h
/-- two values that are equal -/
theorem same8 {v : PV} (h : okV 6 v = true) : (d__law_same 8).f [v, v] = some ⟨false, .bl true, .non⟩ := same_ok 6 1 v h

/-! ### draws within expressions -/
theorem ev_draw (Φ : Tab) {kd i : Nat} (hfn : Φ.fn kd = some d__law_draw) {ρ : Env} {e : E} {m : Int} {p : PV} (he : ev Φ e ρ = some (.sh (.int m), ρ)) (hs : slotAt ρ i = .own p) (hp : Pool p) (h1 : 1 ≤ m) (h2 : m < 1073741824) :
    ∃ (v : Int) (p' : PV), Pool p' ∧ 0 ≤ v ∧ v < m ∧ ev Φ (.fn kd (.cons (.var i) (.cons e .nil))) ρ = some (.sh (.int v), ρ.set i (.own p')) := by
  obtain ⟨v, p', g1, g2, g3, g4⟩ := draw_ok hp m h1 h2
  refine ⟨v, p', g1, g2, g3, ?_⟩
  simp [hfn, hs, he, callD, g4]
theorem draw_nat (Φ : Tab) {kd i : Nat} (hfn : Φ.fn kd = some d__law_draw) {ρ : Env} {e : E} {m : Nat} {p : PV} (he : ev Φ e ρ = some (.sh (.int m), ρ)) (hs : slotAt ρ i = .own p) (hp : Pool p) (h1 : 1 ≤ m) (h2 : m < 1073741824) :
    ∃ (v : Nat) (p' : PV), Pool p' ∧ v < m ∧ ev Φ (.fn kd (.cons (.var i) (.cons e .nil))) ρ = some (.sh (.int v), ρ.set i (.own p')) := by
  obtain ⟨v, p', g1, g2, g3, g4⟩ := ev_draw Φ hfn he hs hp (by omega) (by omega)
  obtain ⟨w, rfl⟩ := Int.eq_ofNat_of_zero_le g2
  exact ⟨w, p', g1, by omega, g4⟩
/-- [e for j in ..], e one draw made to a value, the pool at 1 -/
theorem draw_comp (Φ : Tab) (hio : Φ.io = false) (j : Nat) (e : E) (P : PV → Prop) (hj : j ≠ 1) (he : ∀ (ρ : Env) (p : PV), 1 < ρ.length → slotAt ρ 1 = .own p → Pool p → ∃ (v : PV) (p' : PV), P v ∧ Pool p' ∧ ev Φ e ρ = some (.sh v, ρ.set 1 (.own p'))) :
    ∀ (xs : List PV) (ρ : Env) (p : PV), j < ρ.length → 1 < ρ.length → slotAt ρ j = .none → slotAt ρ 1 = .own p → Pool p → ∃ (ys : List PV) (p' : PV), (∀ y ∈ ys, P y) ∧ ys.length = xs.length ∧ Pool p' ∧ loopC (stepF Φ e (.name j) .nil [j]) xs ρ = some (ys, ρ.set 1 (.own p'))
  | [], ρ, p, h1, h2, h3, h4, hp => ⟨[], p, (fun y hy => by simp at hy), rfl, hp, by
    show some (([] : List PV), ρ) = _
    rw [set_slot h2 h4]⟩
  | x :: xs, ρ, p, h1, h2, h3, h4, hp => by
    obtain ⟨v, p1, v1, q1, e1⟩ := he (ρ.set j (.sh x)) p (by simpa using h2) (by rw [slotAt_set h1, if_neg hj]; exact h4) hp
    obtain ⟨ys, p2, y1, y2, y3, y4⟩ := draw_comp Φ hio j e P hj he xs (ρ.set 1 (.own p1)) p1 (by simpa using h1) (by simpa using h2) (by rw [slotAt_set h2, if_neg (Ne.symm hj)]; exact h3) (by rw [slotAt_set h2, if_pos rfl]) q1
    refine ⟨v :: ys, p2, fun y hy => ?_, by simp [y2], y3, ?_⟩
    · rcases List.mem_cons.mp hy with rfl | hy
      · exact v1
      · exact y1 y hy
    · have hw : wipeE ((ρ.set j (.sh x)).set 1 (.own p1)) [j] = ρ.set 1 (.own p1) := by
        show ((ρ.set j (.sh x)).set 1 (.own p1)).set j .none = _
        rw [List.set_comm _ _ (Ne.symm hj), List.set_set, set_slot h1 h3]
      have hst : stepF Φ e (.name j) .nil [j] x ρ = some (some v, ρ.set 1 (.own p1)) := by
        rw [stepF_eq]
        have ha : asgV Φ (.name j) x ρ = some (ρ.set j (.sh x)) := by
          rw [asgV_name]; unfold setS; rw [if_pos (by simp [h1, hio])]
        simp only [ha, evC_nil, e1, fz_sh, hw]
      rw [loopC_cons, hst]
      simp only [y4, List.set_set]
theorem draw_char (Φ : Tab) {kd : Nat} (a b : Nat) (hfn : Φ.fn kd = some d__law_draw) : ∀ (ρ : Env) (p : PV), 1 < ρ.length → slotAt ρ 1 = .own p → Pool p → ∃ (v : PV) (p' : PV), (v = .str [a] ∨ v = .str [b]) ∧ Pool p' ∧ ev Φ (.ix (.con (.str [a, b])) (.fn kd (.cons (.var 1) (.cons (.con (.int 2)) .nil)))) ρ = some (.sh v, ρ.set 1 (.own p')) := by
  intro ρ p h1 h2 hp
  obtain ⟨v, p', g1, g2, g3⟩ := draw_nat Φ hfn (ρ := ρ) (e := .con (.int 2)) (m := 2) rfl h2 hp (by decide) (by decide)
  have hv : v = 0 ∨ v = 1 := by omega
  rcases hv with rfl | rfl
  · exact ⟨_, p', .inl rfl, g1, by simp [-ev_fn, g3, ix2, atV, Py.ixN]⟩
  · exact ⟨_, p', .inr rfl, g1, by simp [-ev_fn, g3, ix2, atV, Py.ixN]⟩
theorem text_of (a b : Nat) : ∀ ys : List PV, (∀ y ∈ ys, y = .str [a] ∨ y = .str [b]) → ∃ t : List Nat, (∀ c ∈ t, c = a ∨ c = b) ∧ ys = t.map fun c => .str [c]
  | [], _ => ⟨[], by simp, rfl⟩
  | y :: ys, h => by
    obtain ⟨t, h1, h2⟩ := text_of a b ys fun z hz => h z (List.mem_cons_of_mem _ hz)
    rcases h y List.mem_cons_self with rfl | rfl
    · refine ⟨a :: t, fun c hc => ?_, by rw [h2]; rfl⟩
      rcases List.mem_cons.mp hc with rfl | hc
      · exact .inl rfl
      · exact h1 c hc
    · refine ⟨b :: t, fun c hc => ?_, by rw [h2]; rfl⟩
      rcases List.mem_cons.mp hc with rfl | hc
      · exact .inr rfl
      · exact h1 c hc
theorem ev_same (Φ : Tab) {ks : Nat} (hfn : Φ.fn ks = some (d__law_same 8)) {ρ : Env} {e1 e2 : E} {r1 r2 : R} {v : PV} (h1 : ev Φ e1 ρ = some (r1, ρ)) (h2 : ev Φ e2 ρ = some (r2, ρ)) (w1 : wt r1 = .sh v) (w2 : wt r2 = .sh v) (hv : okV 6 v = true) :
    ev Φ (.fn ks (.cons e1 (.cons e2 .nil))) ρ = some (.sh (.bl true), ρ) := by
  simp [hfn, h1, h2, w1, w2, callD, same8 hv]

/-! ### loops by number -/
theorem loopF_num {asg : PV → Env → Option Env} {body : Env → Option Out} (Inv : Nat → Env → Prop) : ∀ (xs : List PV) (k : Nat) (ρ : Env), Inv k ρ → (∀ t (h : t < xs.length) (ρ : Env), Inv (k + t) ρ → ∃ ρ1 ρ2, asg xs[t] ρ = some ρ1 ∧ body ρ1 = some (.nx ρ2) ∧ Inv (k + t + 1) ρ2) → ∃ ρ', loopF asg body xs ρ = some (.nx ρ') ∧ Inv (k + xs.length) ρ'
  | [], k, ρ, h0, _ => ⟨ρ, rfl, h0⟩
  | x :: xs, k, ρ, h0, hs => by
    obtain ⟨ρ1, ρ2, h1, h2, h3⟩ := hs 0 (by simp) ρ h0
    rw [List.getElem_cons_zero] at h1
    obtain ⟨ρ', h4, h5⟩ := loopF_num Inv xs (k + 1) ρ2 h3 fun t ht ρ hρ => by
      have := hs (t + 1) (by simpa using ht) ρ (by rw [show k + (t + 1) = k + 1 + t by omega]; exact hρ)
      rw [List.getElem_cons_succ, show k + (t + 1) + 1 = k + 1 + t + 1 by omega] at this
      exact this
    refine ⟨ρ', ?_, ?_⟩
    · rw [loopF_nx h1 h2]; exact h4
    · rw [List.length_cons, show k + (xs.length + 1) = k + 1 + xs.length by omega]; exact h5
theorem loopF_rng {asg : PV → Env → Option Env} {body : Env → Option Out} (Inv : Nat → Env → Prop) (lo : Int) (n : Nat) (ρ : Env) (h0 : Inv 0 ρ) (hs : ∀ t, t < n → ∀ ρ : Env, Inv t ρ → ∃ ρ1 ρ2, asg (.int (lo + (t : Int))) ρ = some ρ1 ∧ body ρ1 = some (.nx ρ2) ∧ Inv (t + 1) ρ2) : ∃ ρ', loopF asg body (rangeL lo n) ρ = some (.nx ρ') ∧ Inv n ρ' := by
  have hl : (rangeL lo n).length = n := by simp [rangeL]
  obtain ⟨ρ', h1, h2⟩ := loopF_num Inv (rangeL lo n) 0 ρ h0 fun t ht ρ hρ => by
    rw [Nat.zero_add] at hρ ⊢
    have e : (rangeL lo n)[t] = .int (lo + (t : Int)) := by simp [rangeL]
    rw [e]
    exact hs t (by omega) ρ hρ
  exact ⟨ρ', h1, by rw [hl, Nat.zero_add] at h2; exact h2⟩
theorem loopF_map {α : Type} [Inhabited α] {asg : PV → Env → Option Env} {body : Env → Option Out} (Inv : Nat → Env → Prop) (f : α → PV) (L : List α) (ρ : Env) (h0 : Inv 0 ρ) (hs : ∀ t (h : t < L.length) (ρ : Env), Inv t ρ → ∃ ρ1 ρ2, asg (f L[t]) ρ = some ρ1 ∧ body ρ1 = some (.nx ρ2) ∧ Inv (t + 1) ρ2) : ∃ ρ', loopF asg body (L.map f) ρ = some (.nx ρ') ∧ Inv L.length ρ' := by
  obtain ⟨ρ', h1, h2⟩ := loopF_num Inv (L.map f) 0 ρ h0 fun t ht ρ hρ => by
    rw [Nat.zero_add] at hρ ⊢
    rw [List.getElem_map]
    exact hs t (by simpa using ht) ρ hρ
  exact ⟨ρ', h1, by rw [List.length_map, Nat.zero_add] at h2; exact h2⟩
theorem cut_from (l : List PV) (i : Nat) : cutL l (some ((i : Int) + 1)) none = l.drop (i + 1) := by
  have e : cutAt l.length 0 (some ((i : Int) + 1)) = min (i + 1) l.length := by
    have e1 : cutAt l.length 0 (some ((i : Int) + 1)) = if (i : Int) + 1 < 0 then ((i : Int) + 1 + l.length).toNat else min ((i : Int) + 1).toNat l.length := rfl
    rw [e1, if_neg (by omega)]
    congr 1
  unfold cutL
  rw [e]
  show (l.drop (min (i + 1) l.length)).take (l.length - min (i + 1) l.length) = _
  rw [List.take_of_length_le (by rw [List.length_drop]; omega)]
  by_cases h : i + 1 ≤ l.length
  · rw [Nat.min_eq_left h]
  · rw [Nat.min_eq_right (by omega), List.drop_of_length_le (Nat.le_refl _), List.drop_of_length_le (by omega)]
theorem take_next {α β : Type} (l : List α) (f : α → List β) (t : Nat) (h : t < l.length) : (l.take (t + 1)).flatMap f = (l.take t).flatMap f ++ f l[t] := by
  rw [← List.take_append_getElem h, List.flatMap_append, List.flatMap_cons, List.flatMap_nil, List.append_nil]
theorem mu_ext (l k : List PV) (h : l.length + k.length ≤ 16777216) : mu1 .extend l [.lst k] = some (l ++ k, .non) := by
  have e : (if l.length + k.length ≤ line then some (l ++ k, PV.non) else none) = some (l ++ k, .non) := if_pos h
  exact e
theorem mu_app (l : List PV) (x : PV) (h : l.length < 16777216) : mu1 .append l [x] = some (l ++ [x], .non) := by
  have e : (if l.length + 1 ≤ line then some (l ++ [x], PV.non) else none) = some (l ++ [x], .non) := if_pos h
  exact e
theorem cut_to (l : List PV) (i : Nat) : cutL l none (some (i : Int)) = l.take i := by
  have e1 : cutAt l.length l.length (some (i : Int)) = if (i : Int) < 0 then ((i : Int) + l.length).toNat else min (i : Int).toNat l.length := rfl
  rw [if_neg (by omega)] at e1
  unfold cutL
  rw [e1]
  show (l.drop 0).take (min i l.length - 0) = _
  rw [List.drop_zero, Nat.sub_zero]
  by_cases h : i ≤ l.length
  · rw [Nat.min_eq_left h]
  · rw [Nat.min_eq_right (by omega), List.take_of_length_le (Nat.le_refl _), List.take_of_length_le (by omega)]
theorem add_lst (l k : List PV) (h : l.length + k.length ≤ 16777216) : bin2 .add (.lst l) (.lst k) = some (.own (.lst (l ++ k))) := by
  have e : (if l.length + k.length ≤ line then some (Res.own (.lst (l ++ k))) else none) = some (.own (.lst (l ++ k))) := if_pos h
  exact e
theorem rng_after (i n : Nat) (hi : i < n) (hn : n ≤ 10000) : rng1 [.int ((i : Int) + 1), .int (n : Int)] = some (rangeL ((i : Int) + 1) (n - (i + 1))) := by
  rw [rng1_two _ _ (by unfold small62; exact decide_eq_true (by omega)) (by unfold small62; exact decide_eq_true (by omega))]
  congr 2
  omega
def Sl (s : Slot) (v : PV) : Prop := s = .own v ∨ s = .sh v

theorem callD_io {d : Den} {i : Nat} {rest : List R} {ρ : Env} {p : PV} {vs : List PV} {ret : Ret} (hio : d.io = true) (hs : slotAt ρ i = .own p) (hp : pkL rest ρ = some vs) (hl : lentL rest = []) (hf : d.f (p :: vs) = some ret) : callD d (.slot i :: rest) ρ = some (if ret.own then .own ret.val else .sh ret.val, ρ.set i (.own ret.out)) := by
  unfold callD
  rw [if_pos hio]
  simp only [hs, hp, hl, hf, freezeL_nil]
  by_cases hpu : (pureR ret && pureL ret.out) = true
  · simp [hpu]
  · simp [hpu]

/-! ### sorted sets of tuples: any kind of them -/
structure Em (α : Type) [DecidableEq α] where
  f : α → PV
  e : ∀ x y, eqv (f x) (f y) = decide (x = y)
  a : ∀ x y, alk (f x) (f y) = true
  p : ∀ x, plainD 19 (f x) = true
  t : ∀ x, isTupP (f x) = true
  n : ∀ x, (match f x with | .non => false | .tup [] => false | _ => true) = true
  w : ∀ x, plain (f x) = true
section
variable {α : Type} [DecidableEq α] (M : Em α)
def insT (x : α) : List α → List α
  | [] => [x]
  | y :: ys => if ltv (M.f y) (M.f x) then y :: insT x ys else x :: y :: ys
def sortT : List α → List α
  | [] => []
  | x :: xs => insT M x (sortT xs)
def dedT : List α → List α
  | [] => []
  | x :: xs => x :: (dedT xs).filter (fun y => !decide (x = y))
def SS (l : List α) : List α := sortT M (dedT l)
theorem insT_map (x : α) : ∀ l : List α, insV (M.f x) (l.map M.f) = (insT M x l).map M.f
  | [] => rfl
  | y :: ys => by
    rw [List.map_cons, insV, insT, insT_map x ys]
    by_cases h : ltv (M.f y) (M.f x) = true
    · rw [if_pos h, if_pos h]; rfl
    · rw [if_neg h, if_neg h]; rfl
theorem sortT_map : ∀ l : List α, sortV (l.map M.f) = (sortT M l).map M.f
  | [] => rfl
  | x :: xs => by rw [List.map_cons, sortV, sortT, sortT_map xs, insT_map]
theorem dedT_map : ∀ l : List α, dedupV (l.map M.f) = (dedT l).map M.f
  | [] => rfl
  | x :: xs => by
    rw [List.map_cons, dedupV, dedT, dedT_map xs, List.map_cons, List.filter_map]
    congr 2
    apply List.filter_congr
    intro y _
    show (!eqv (M.f x) (M.f y)) = _
    rw [M.e]
theorem dedT_len : ∀ l : List α, (dedT l).length ≤ l.length
  | [] => Nat.le_refl _
  | x :: xs => by
    rw [dedT, List.length_cons, List.length_cons]
    exact Nat.succ_le_succ (Nat.le_trans (List.length_filter_le _ _) (dedT_len xs))
theorem alike_M : ∀ l : List α, alikeL (l.map M.f) = true
  | [] => rfl
  | x :: xs => by
    rw [List.map_cons, alikeL, alike_M xs, Bool.and_true, List.all_eq_true]
    intro y hy
    obtain ⟨z, _, rfl⟩ := List.mem_map.mp hy
    rw [M.a, M.a]; rfl
theorem sortOk_M (l : List α) : sortOk (l.map M.f) = true := by
  unfold sortOk
  have h1 : (l.map M.f).all (fun x => alk x x) = true := by
    rw [List.all_eq_true]; intro y hy; obtain ⟨z, _, rfl⟩ := List.mem_map.mp hy; exact M.a z z
  have h2 : plain (.lst (l.map M.f)) = true := by
    show (l.map M.f).all (plainD 19) = true
    rw [List.all_eq_true]; intro y hy; obtain ⟨z, _, rfl⟩ := List.mem_map.mp hy; exact M.p z
  have h3 : (l.map M.f).all (fun x => match x with | .non => false | .tup [] => false | _ => true) = true := by
    rw [List.all_eq_true]; intro y hy; obtain ⟨z, _, rfl⟩ := List.mem_map.mp hy; exact M.n z
  rw [alike_M, h1, h2, Bool.true_and, Bool.true_and, Bool.true_and]
  exact h3
theorem cset_M (l : List α) (h : l.length ≤ 1100) : cset true (.lst (l.map M.f)) = some (.own (.lst ((SS M l).map M.f))) := by
  have h1 : (l.map M.f).all isTupP = true := by
    rw [List.all_eq_true]; intro y hy; obtain ⟨z, _, rfl⟩ := List.mem_map.mp hy; exact M.t z
  have h2 : (dedupV (l.map M.f)).length < 1200 := by
    rw [dedT_map, List.length_map]; have := dedT_len l; omega
  show csetL true (l.map M.f) = _
  unfold csetL
  rw [if_pos (by rw [h1, decide_eq_true h2]; rfl), if_pos rfl, if_pos (sortOk_M M l), dedT_map, sortT_map]
  rfl
theorem memV_M (z : α) (l : List α) : memV (M.f z) (l.map M.f) = decide (z ∈ l) := by
  unfold memV
  rw [List.any_map]
  by_cases h : z ∈ l
  · rw [decide_eq_true h, List.any_eq_true]
    exact ⟨z, h, by show eqv (M.f z) (M.f z) = true; rw [M.e]; simp⟩
  · rw [decide_eq_false h, List.any_eq_false]
    intro y hy
    show ¬ eqv (M.f y) (M.f z) = true
    rw [M.e]
    simp only [decide_eq_true_eq]
    intro e
    exact h (e ▸ hy)
theorem plain_tup (l : List α) : plain (.tup (l.map M.f)) = true := by
  show (l.map M.f).all (plainD 19) = true
  rw [List.all_eq_true]; intro y hy; obtain ⟨z, _, rfl⟩ := List.mem_map.mp hy; exact M.p z
theorem plain_lst (l : List α) : plain (.lst (l.map M.f)) = true := by
  show (l.map M.f).all (plainD 19) = true
  rw [List.all_eq_true]; intro y hy; obtain ⟨z, _, rfl⟩ := List.mem_map.mp hy; exact M.p z
theorem nin_tup (z : α) (l : List α) : cmpB .nin (M.f z) (.tup (l.map M.f)) = some (!decide (z ∈ l)) := by
  have e : (if (plain (M.f z) && plain (.tup (l.map M.f))) = true then some (!memV (M.f z) (l.map M.f)) else none) = some (!decide (z ∈ l)) := by
    rw [if_pos (by rw [M.w, plain_tup]; rfl), memV_M]
  exact e
theorem nin_lst (z : α) (l : List α) : cmpB .nin (M.f z) (.lst (l.map M.f)) = some (!decide (z ∈ l)) := by
  have e : (if (plain (M.f z) && plain (.lst (l.map M.f))) = true then some (!memV (M.f z) (l.map M.f)) else none) = some (!decide (z ∈ l)) := by
    rw [if_pos (by rw [M.w, plain_lst]; rfl), memV_M]
  exact e
end

/-- is it a whole number? -/
def isI : PV → Bool
  | .int _ => true
  | _ => false
def noB (v : PV) : Prop := match v with
  | .dict _ _ _ => False
  | .set _ => False
  | .scr _ => False
  | _ => True
theorem is_whole_ok (v : PV) (h : noB v) : d_is_whole.f [v] = some ⟨false, .bl (isI v), .non⟩ := by
  rw [df_is_whole]
  cases v <;> first | rfl | exact absurd h id
theorem is_integer_ok (v : PV) (h : noB v) : d__law_is_integer.f [v] = some ⟨false, .bl (isI v), .non⟩ := by
  rw [df__law_is_integer]
  cases v <;> first | rfl | exact absurd h id

/-! ### bent copies -/
def fineV : Nat → Nat → Nat → PV → Bool
  | 0, K, M, v => (match v with | .non => true | .bl _ => true | .int i => decide (i.natAbs ≤ M) | .str s => decide (s.length ≤ K) | _ => false)
  | n + 1, K, M, v => (match v with | .non => true | .bl _ => true | .int i => decide (i.natAbs ≤ M) | .str s => decide (s.length ≤ K) | .tup l => decide (l.length ≤ K) && l.all (fineV n K M) | .lst l => decide (l.length ≤ K) && l.all (fineV n K M) | _ => false)
theorem fine_tup {n K M : Nat} {l : List PV} : fineV (n + 1) K M (.tup l) = true ↔ l.length ≤ K ∧ ∀ x ∈ l, fineV n K M x = true := by
  show (decide (l.length ≤ K) && l.all (fineV n K M)) = true ↔ _
  rw [Bool.and_eq_true, decide_eq_true_eq, List.all_eq_true]
theorem fine_lst {n K M : Nat} {l : List PV} : fineV (n + 1) K M (.lst l) = true ↔ l.length ≤ K ∧ ∀ x ∈ l, fineV n K M x = true := by
  show (decide (l.length ≤ K) && l.all (fineV n K M)) = true ↔ _
  rw [Bool.and_eq_true, decide_eq_true_eq, List.all_eq_true]
theorem fine_int {n K M : Nat} {i : Int} : fineV n K M (.int i) = true ↔ i.natAbs ≤ M := by
  cases n <;> exact decide_eq_true_iff
theorem fine_str {n K M : Nat} {s : List Nat} : fineV n K M (.str s) = true ↔ s.length ≤ K := by
  cases n <;> exact decide_eq_true_iff
theorem fine_non {n K M : Nat} : fineV n K M .non = true := by cases n <;> rfl
theorem fine_bl {n K M : Nat} {b : Bool} : fineV n K M (.bl b) = true := by cases n <;> rfl
theorem fine_mono : ∀ (n n' K K' M M' : Nat) (v : PV), fineV n K M v = true → n ≤ n' → K ≤ K' → M ≤ M' → fineV n' K' M' v = true
  | n, n', K, K', M, M', .non, _, _, _, _ => fine_non
  | n, n', K, K', M, M', .bl _, _, _, _, _ => fine_bl
  | n, n', K, K', M, M', .int i, h, _, _, h3 => fine_int.mpr (Nat.le_trans (fine_int.mp h) h3)
  | n, n', K, K', M, M', .str s, h, _, h2, _ => fine_str.mpr (Nat.le_trans (fine_str.mp h) h2)
  | 0, n', K, K', M, M', .tup l, h, _, _, _ => by cases h
  | 0, n', K, K', M, M', .lst l, h, _, _, _ => by cases h
  | n + 1, 0, K, K', M, M', .tup l, h, h1, h2, h3 => by omega
  | n + 1, 0, K, K', M, M', .lst l, h, h1, h2, h3 => by omega
  | n + 1, n' + 1, K, K', M, M', .tup l, h, h1, h2, h3 => by
    obtain ⟨a, b⟩ := fine_tup.mp h
    exact fine_tup.mpr ⟨Nat.le_trans a h2, fun x hx => fine_mono n n' K K' M M' x (b x hx) (by omega) h2 h3⟩
  | n + 1, n' + 1, K, K', M, M', .lst l, h, h1, h2, h3 => by
    obtain ⟨a, b⟩ := fine_lst.mp h
    exact fine_lst.mpr ⟨Nat.le_trans a h2, fun x hx => fine_mono n n' K K' M M' x (b x hx) (by omega) h2 h3⟩
  | n, n', K, K', M, M', .dict _ _ _, h, _, _, _ => by cases n <;> cases h
  | n, n', K, K', M, M', .set _, h, _, _, _ => by cases n <;> cases h
  | n, n', K, K', M, M', .scr _, h, _, _, _ => by cases n <;> cases h
theorem fine_noScr {n K M : Nat} {v : PV} (h : fineV n K M v = true) : noB v := by
  cases v <;> first | trivial | (cases n <;> cases h)
theorem pick_ix (l : List PV) (w : Nat) (h : w < l.length) : ix2 (.tup l) (.int (w : Int)) = some (.sh l[w]) := by
  have ha : atV l (w : Int) = some l[w] := by
    unfold atV Py.ixN
    rw [if_pos (by omega), if_pos (by omega)]
    simp [h]
  show (atV l (w : Int)).map Res.sh = _
  rw [ha]; rfl
theorem pick_fine {n K M : Nat} {l : List PV} {w : Nat} (h : w < l.length) (hl : ∀ x ∈ l, fineV n K M x = true) : fineV n K M l[w] = true := hl _ (List.getElem_mem h)
theorem add_tup (l k : List PV) (h : l.length + k.length ≤ 16777216) : bin2 .add (.tup l) (.tup k) = some (.sh (.tup (l ++ k))) := by
  have e : (if l.length + k.length ≤ line then some (Res.sh (.tup (l ++ k))) else none) = some (.sh (.tup (l ++ k))) := if_pos h
  exact e
theorem add_str (l k : List Nat) (h : l.length + k.length ≤ 16777216) : bin2 .add (.str l) (.str k) = some (.sh (.str (l ++ k))) := by
  have e : (if l.length + k.length ≤ line then some (Res.sh (.str (l ++ k))) else none) = some (.sh (.str (l ++ k))) := if_pos h
  exact e
theorem cut_from' {α : Type} (l : List α) (i : Nat) : cutL l (some (i : Int)) none = l.drop i := by
  have e1 : cutAt l.length 0 (some (i : Int)) = if (i : Int) < 0 then ((i : Int) + l.length).toNat else min (i : Int).toNat l.length := rfl
  rw [if_neg (by omega)] at e1
  unfold cutL
  rw [e1]
  show (l.drop (min i l.length)).take (l.length - min i l.length) = _
  rw [List.take_of_length_le (by rw [List.length_drop]; omega)]
  by_cases h : i ≤ l.length
  · rw [Nat.min_eq_left h]
  · rw [Nat.min_eq_right (by omega), List.drop_of_length_le (Nat.le_refl _), List.drop_of_length_le (by omega)]
theorem cut_to' {α : Type} (l : List α) (i : Nat) : cutL l none (some (i : Int)) = l.take i := by
  have e1 : cutAt l.length l.length (some (i : Int)) = if (i : Int) < 0 then ((i : Int) + l.length).toNat else min (i : Int).toNat l.length := rfl
  rw [if_neg (by omega)] at e1
  unfold cutL
  rw [e1]
  show (l.drop 0).take (min i l.length - 0) = _
  rw [List.drop_zero, Nat.sub_zero]
  by_cases h : i ≤ l.length
  · rw [Nat.min_eq_left h]
  · rw [Nat.min_eq_right (by omega), List.take_of_length_le (Nat.le_refl _), List.take_of_length_le (by omega)]
theorem ev_isint (Φ : Tab) {ki : Nat} (hfn : Φ.fn ki = some d__law_is_integer) {ρ : Env} {v : PV} (h : slotAt ρ 1 = .sh v) (hv : noB v) : ev Φ (.fn ki (.cons (.var 1) .nil)) ρ = some (.sh (.bl (isI v)), ρ) := by
  have w := callD_sh (d := d__law_is_integer) (rs := [.sh v]) (ρ := ρ) rfl rfl rfl (is_integer_ok v hv)
  generalize isI v = b at *
  simp [hfn, h, w]
abbrev B6 (s0 s1 s2 s3 s4 s5 : Slot) : Env := [s0, s1, s2, s3, s4, s5]
def bentTail : Ss := match f__law_bent.body with | .cons _ b => b | b => b
theorem wgtL_app : ∀ a b : List PV, wgtL (a ++ b) = wgtL a + wgtL b
  | [], b => by simp [wgtL]
  | x :: a, b => by rw [List.cons_append, wgtL, wgtL, wgtL_app a b]; omega
theorem wgtL_cut (l : List PV) (a : Nat) : wgtL (l.take a) + wgtL (l.drop a) = wgtL l := by
  rw [← wgtL_app, List.take_append_drop]
theorem wgtL_at {l : List PV} {a : Nat} (h : a < l.length) : wgtL (l.drop a) = wgtV l[a] + 1 + wgtL (l.drop (a + 1)) := by
  rw [List.drop_eq_getElem_cons h, wgtL]
theorem wgtL_one (x : PV) : wgtL [x] = wgtV x + 1 := by simp [wgtL]
theorem wgtL_set : ∀ (l : List PV) (a : Nat) (x : PV), wgtL (l.set a x) ≤ wgtL l + wgtV x
  | [], _, x => by simp [wgtL]
  | y :: l, 0, x => by rw [List.set_cons_zero, wgtL, wgtL]; omega
  | y :: l, a + 1, x => by
    have := wgtL_set l a x
    rw [List.set_cons_succ, wgtL, wgtL]; omega
def bentEnd (n K M W : Nat) (o : Out) : Prop := ∃ (r : PV) (q : PV) (s1 s2 s3 s4 s5 : Slot) (w : Bool), o = .ret (if w then .own r else .sh r) (B6 (.own q) s1 s2 s3 s4 s5) ∧ Pool q ∧ fineV (n + 1) (K + 2) (M + 2) r = true ∧ wgtV r ≤ W
theorem ite_ex {Φ : Tab} {n : Nat} {e : E} {a : Ss} {ρ : Env} {b : Bool} (h : ev Φ e ρ = some (.sh (.bl b), ρ)) : ex Φ n (.ife e a .nil) ρ = if b then exs Φ n a ρ else some (.nx ρ) := by
  cases b
  · rw [ife_ff h]; rfl
  · rw [ex_ife, h]; rfl

theorem ret_now {Φ : Tab} {n : Nat} {s : S} {ss : Ss} {ρ ρ' : Env} {r : R} {Q : Out → Prop} (h : ex Φ n s ρ = some (.ret r ρ')) (k : Q (.ret r ρ')) : ∃ o, exs Φ n (.cons s ss) ρ = some o ∧ Q o :=
  ⟨_, by rw [exs_cons, h], k⟩
def L8 : List PV := [.str [120], .bl true, .tup [], .int 0, .int (-1), .non, .bl false, .lst []]
theorem L8_fine (n K M : Nat) : ∀ x ∈ L8, fineV (n + 1) (K + 2) (M + 2) x = true := by
  intro x hx
  simp only [L8, List.mem_cons, List.not_mem_nil, or_false] at hx
  rcases hx with rfl | rfl | rfl | rfl | rfl | rfl | rfl | rfl
  · exact fine_str.mpr (by show 1 ≤ K + 2; omega)
  · exact fine_bl
  · exact fine_tup.mpr ⟨by simp, by simp⟩
  · exact fine_int.mpr (by simp)
  · exact fine_int.mpr (by show 1 ≤ M + 2; omega)
  · exact fine_non
  · exact fine_bl
  · exact fine_lst.mpr ⟨by simp, by simp⟩
theorem L8_wgt : ∀ x ∈ L8, wgtV x ≤ 64 := by
  intro x hx
  simp only [L8, List.mem_cons, List.not_mem_nil, or_false] at hx
  rcases hx with rfl | rfl | rfl | rfl | rfl | rfl | rfl | rfl <;> simp [wgtV, wgtL]
theorem bent_tail (m : Nat) {n K M : Nat} {v : PV} (hv : fineV n K M v = true) (hK : K ≤ 10000) {p : PV} (hp : Pool p) (s2 : Slot) : ∃ o, exs (T__law_bent m) fuel bentTail (B6 (.own p) (.sh v) s2 .none .none .none) = some o ∧ bentEnd n K M (3 * wgtV v + 200) o := by
  have hns := fine_noScr hv
  obtain ⟨t, p1, q1, ht, e1⟩ := draw_nat (T__law_bent m) (kd := 16) (i := 0) rfl (ρ := B6 (.own p) (.sh v) s2 .none .none .none) (e := .con (.int 9)) (m := 9) rfl rfl hp (by decide) (by decide)
  simp only [List.set_cons_zero] at e1
  unfold bentTail f__law_bent
  simp only
  refine goes (ρ1 := B6 (.own p1) (.sh v) s2 (.sh (.int t)) .none .none) (by rw [ex_asg, e1]; simp [setS]) ?_
  by_cases h0 : t = 0
  · subst h0
    obtain ⟨w, p2, q2, hw, e2⟩ := draw_nat (T__law_bent m) (kd := 16) (i := 0) rfl (ρ := B6 (.own p1) (.sh v) s2 (.sh (.int 0)) .none .none) (e := .con (.int 8)) (m := 8) rfl rfl q1 (by decide) (by decide)
    simp only [List.set_cons_zero] at e2
    have hix := pick_ix L8 w hw
    have hf := pick_fine (l := L8) hw (L8_fine n K M)
    have hg := L8_wgt _ (List.getElem_mem hw)
    generalize L8[w] = r at *
    unfold L8 at hix
    refine ret_now (r := .sh r) (ρ' := B6 (.own p2) (.sh v) s2 (.sh (.int 0)) .none .none) ?_ ⟨r, p2, _, _, _, _, _, false, rfl, q2, hf, by omega⟩
    simp [-ev_fn, e2, hix]
  have ht0 : ¬ ((t : Int) = 0) := by omega
  refine goes (ρ1 := B6 (.own p1) (.sh v) s2 (.sh (.int t)) .none .none) (by simp [h0]) ?_
  have hI := ev_isint (T__law_bent m) (ki := 13) rfl (ρ := B6 (.own p1) (.sh v) s2 (.sh (.int t)) .none .none) (v := v) rfl hns
  by_cases hi : isI v = true
  · -- a whole number
    obtain ⟨i, rfl⟩ : ∃ i, v = .int i := by cases v <;> first | exact ⟨_, rfl⟩ | cases hi
    rw [hi] at hI
    obtain ⟨w, p2, q2, hw, e2⟩ := draw_nat (T__law_bent m) (kd := 16) (i := 0) rfl (ρ := B6 (.own p1) (.sh (.int i)) s2 (.sh (.int t)) .none .none) (e := .con (.int 4)) (m := 4) rfl rfl q1 (by decide) (by decide)
    simp only [List.set_cons_zero] at e2
    have hix := pick_ix [.int 1, .int (-1), .int 2, .int 0] w hw
    obtain ⟨j, hj, hj2⟩ : ∃ j : Int, ([PV.int 1, .int (-1), .int 2, .int 0])[w]'hw = .int j ∧ j.natAbs ≤ 2 := by
      have : w = 0 ∨ w = 1 ∨ w = 2 ∨ w = 3 := by omega
      rcases this with rfl | rfl | rfl | rfl
      · exact ⟨1, rfl, by decide⟩
      · exact ⟨-1, rfl, by decide⟩
      · exact ⟨2, rfl, by decide⟩
      · exact ⟨0, rfl, by decide⟩
    rw [hj] at hix
    have hb := fine_int.mp hv
    refine ret_now (r := .sh (.int (i + j))) (ρ' := B6 (.own p2) (.sh (.int i)) s2 (.sh (.int t)) .none .none) ?_ ⟨.int (i + j), p2, _, _, _, _, _, false, rfl, q2, fine_int.mpr (by omega), by simp [wgtV]⟩
    simp [-ev_fn, hI, e2, hix]
  have hi : isI v = false := by simpa using hi
  rw [hi] at hI
  refine goes (ρ1 := B6 (.own p1) (.sh v) s2 (.sh (.int t)) .none .none) (by simp [-ev_fn, hI]) ?_
  by_cases hs : ∃ s, v = .str s
  · -- a text
    obtain ⟨s, rfl⟩ := hs
    have hb := fine_str.mp hv
    obtain ⟨w, p2, q2, hw, e2⟩ := draw_nat (T__law_bent m) (kd := 16) (i := 0) rfl (ρ := B6 (.own p1) (.sh (.str s)) s2 (.sh (.int t)) .none .none) (e := .con (.int 5)) (m := 5) rfl rfl q1 (by decide) (by decide)
    simp only [List.set_cons_zero] at e2
    have hix := pick_ix [.str (s ++ [97]), .str (s.drop 1), .str (s ++ [65]), .str (s ++ [32]), .str (s.take 1)] w hw
    have hf : fineV (n + 1) (K + 2) (M + 2) (([PV.str (s ++ [97]), .str (s.drop 1), .str (s ++ [65]), .str (s ++ [32]), .str (s.take 1)])[w]'hw) = true := by
      have : w = 0 ∨ w = 1 ∨ w = 2 ∨ w = 3 ∨ w = 4 := by omega
      rcases this with rfl | rfl | rfl | rfl | rfl <;> refine fine_str.mpr ?_ <;> simp <;> omega
    have hg : wgtV (([PV.str (s ++ [97]), .str (s.drop 1), .str (s ++ [65]), .str (s ++ [32]), .str (s.take 1)])[w]'hw) ≤ 3 * wgtV (.str s) + 200 := by
      have : w = 0 ∨ w = 1 ∨ w = 2 ∨ w = 3 ∨ w = 4 := by omega
      rcases this with rfl | rfl | rfl | rfl | rfl <;> simp [wgtV] <;> omega
    have a1 := add_str s [97] (by simp; omega)
    have a2 := add_str s [65] (by simp; omega)
    have a3 := add_str s [32] (by simp; omega)
    have c1 : sl3 (.str s) (some 1) none = some (.sh (.str (s.drop 1))) := by
      show some (Res.sh (.str (cutL s (some ((1 : Nat) : Int)) none))) = _
      rw [cut_from']
    have c2 : sl3 (.str s) none (some 1) = some (.sh (.str (s.take 1))) := by
      show some (Res.sh (.str (cutL s none (some ((1 : Nat) : Int))))) = _
      rw [cut_to']
    generalize ([PV.str (s ++ [97]), .str (s.drop 1), .str (s ++ [65]), .str (s ++ [32]), .str (s.take 1)])[w]'hw = r at *
    refine ret_now (r := .sh r) (ρ' := B6 (.own p2) (.sh (.str s)) s2 (.sh (.int t)) .none .none) ?_ ⟨r, p2, _, _, _, _, _, false, rfl, q2, hf, hg⟩
    generalize s ++ [97] = x1 at *
    generalize s ++ [65] = x2 at *
    generalize s ++ [32] = x3 at *
    generalize s.drop 1 = x4 at *
    generalize s.take 1 = x5 at *
    simp [-ev_fn, bi1, isA, isAbs, e2, a1, a2, a3, c1, c2, hix]
  have hsA : isA 3 v = false := by cases v <;> first | rfl | exact absurd ⟨_, rfl⟩ hs | exact absurd (fine_noScr hv) id
  have hsB : bi1 (.isi [3]) [v] = some (.sh (.bl false)) := by
    cases v <;> first | rfl | exact absurd ⟨_, rfl⟩ hs | exact absurd (fine_noScr hv) id
  refine goes (ρ1 := B6 (.own p1) (.sh v) s2 (.sh (.int t)) .none .none) (by simp [hsB]) ?_
  by_cases htu : ∃ l, v = .tup l ∧ l ≠ []
  · -- a tuple
    obtain ⟨l, rfl, hne⟩ := htu
    have hpos : 0 < l.length := List.length_pos_iff.mpr hne
    obtain ⟨n', rfl⟩ : ∃ n', n = n' + 1 := by cases n with | zero => cases hv | succ n => exact ⟨n, rfl⟩
    obtain ⟨hl, hx⟩ := fine_tup.mp hv
    have hx' : ∀ x ∈ l, fineV (n' + 1) (K + 2) (M + 2) x = true := fun x h => fine_mono _ _ _ _ _ _ _ (hx x h) (by omega) (by omega) (by omega)
    have b1 : bi1 (.isi [1]) [.tup l] = some (.sh (.bl true)) := rfl
    have b2 : bi1 .len [.tup l] = some (.sh (.int (l.length : Nat))) := rfl
    have b3 : cmpB .eq (.int (l.length : Nat)) (.int 0) = some false := by
      show some (decide ((l.length : Int) = 0)) = _
      rw [decide_eq_false (by omega)]
    refine goes (ρ1 := B6 (.own p1) (.sh (.tup l)) s2 (.sh (.int t)) .none .none) (by
      generalize (l.length : Int) = L at *
      simp [b1, b2, b3]) ?_
    obtain ⟨a, p2, q2, ha, e2⟩ := draw_nat (T__law_bent m) (kd := 16) (i := 0) rfl (ρ := B6 (.own p1) (.sh (.tup l)) s2 (.sh (.int t)) .none .none) (e := .bi .len (.cons (.var 1) .nil)) (m := l.length) (by simp [b2]) rfl q1 hpos (by omega)
    simp only [List.set_cons_zero] at e2
    refine goes (ρ1 := B6 (.own p2) (.sh (.tup l)) (.sh (.int a)) (.sh (.int t)) .none .none) (by rw [ex_asg, e2]; simp [setS]) ?_
    have hixa := pick_ix l a ha
    have c1 : sl3 (.tup l) none (some (a : Int)) = some (.sh (.tup (l.take a))) := by
      show some (Res.sh (.tup (cutL l none (some (a : Int))))) = _
      rw [cut_to']
    have c2 : sl3 (.tup l) (some ((a : Int) + 1)) none = some (.sh (.tup (l.drop (a + 1)))) := by
      show some (Res.sh (.tup (cutL l (some ((a + 1 : Nat) : Int)) none))) = _
      rw [cut_from']
    have c3 : sl3 (.tup l) (some (a : Int)) none = some (.sh (.tup (l.drop a))) := by
      show some (Res.sh (.tup (cutL l (some (a : Int)) none))) = _
      rw [cut_from']
    have w1 := wgtL_cut l a
    have w2 := wgtL_at ha
    have w0 : wgtV (.tup l) = wgtL l := by rw [wgtV]
    have mt : ∀ x ∈ l.take a, fineV (n' + 1) (K + 2) (M + 2) x = true := fun x h => hx' x (List.mem_of_mem_take h)
    have md : ∀ k, ∀ x ∈ l.drop k, fineV (n' + 1) (K + 2) (M + 2) x = true := fun k x h => hx' x (List.mem_of_mem_drop h)
    by_cases t3 : t < 3
    · have d1 := add_tup (l.take a) (l.drop (a + 1)) (by simp; omega)
      refine ret_now (r := .sh (.tup (l.take a ++ l.drop (a + 1)))) (ρ' := B6 (.own p2) (.sh (.tup l)) (.sh (.int a)) (.sh (.int t)) .none .none) ?_ ⟨.tup (l.take a ++ l.drop (a + 1)), p2, _, _, _, _, _, false, rfl, q2, fine_tup.mpr ⟨by simp; omega, fun x h => (List.mem_append.mp h).elim (mt x) (md _ x)⟩, by rw [w0, wgtV, wgtL_app]; omega⟩
      have h3 : (t : Int) < 3 := by omega
      simp [h3, t3, isAbs, c1, c2, d1]
    have h3 : ¬ (t : Int) < 3 := by omega
    refine goes (ρ1 := B6 (.own p2) (.sh (.tup l)) (.sh (.int a)) (.sh (.int t)) .none .none) (by simp [h3, t3]) ?_
    by_cases t5 : t < 5
    · have d1 := add_tup (l.take a) [l[a]] (by simp; omega)
      have d2 := add_tup (l.take a ++ [l[a]]) (l.drop a) (by simp; omega)
      have hla := hx' _ (List.getElem_mem ha)
      generalize l[a] = la at *
      refine ret_now (r := .sh (.tup (l.take a ++ [la] ++ l.drop a))) (ρ' := B6 (.own p2) (.sh (.tup l)) (.sh (.int a)) (.sh (.int t)) .none .none) ?_ ⟨.tup (l.take a ++ [la] ++ l.drop a), p2, _, _, _, _, _, false, rfl, q2, fine_tup.mpr ⟨by simp; omega, fun x h => ?_⟩, by rw [w0, wgtV, wgtL_app, wgtL_app, wgtL_one]; omega⟩
      · have h5 : (t : Int) < 5 := by omega
        generalize l.take a ++ [la] ++ l.drop a = RR at *
        simp [h5, t5, isAbs, c1, c3, hixa, d1, d2]
      · rcases List.mem_append.mp h with h | h
        · rcases List.mem_append.mp h with h | h
          · exact mt x h
          · rw [List.mem_singleton.mp h]; exact hla
        · exact md _ x h
    have h5 : ¬ (t : Int) < 5 := by omega
    refine goes (ρ1 := B6 (.own p2) (.sh (.tup l)) (.sh (.int a)) (.sh (.int t)) .none .none) (by simp [h5, t5]) ?_
    have bl : bi1 .list [.tup l] = some (.own (.lst l)) := by
      have : l.length < 16777216 := by omega
      simp [bi1, seqOf, this]
    by_cases t6 : t = 5
    · refine ret_now (r := .own (.lst l)) (ρ' := B6 (.own p2) (.sh (.tup l)) (.sh (.int a)) (.sh (.int t)) .none .none) ?_ ⟨.lst l, p2, _, _, _, _, _, true, rfl, q2, fine_lst.mpr ⟨by omega, hx'⟩, by rw [w0, wgtV]; omega⟩
      have h6 : (t : Int) = 5 := by omega
      simp [h6, t6, bl]
    have h6 : ¬ (t : Int) = 5 := by omega
    refine goes (ρ1 := B6 (.own p2) (.sh (.tup l)) (.sh (.int a)) (.sh (.int t)) .none .none) (by simp [h6, t6]) ?_
    obtain ⟨b, p3, q3, hb, e3⟩ := draw_nat (T__law_bent m) (kd := 16) (i := 0) rfl (ρ := B6 (.own p2) (.sh (.tup l)) (.sh (.int a)) (.sh (.int t)) .none .none) (e := .bi .len (.cons (.var 1) .nil)) (m := l.length) (by simp [b2]) rfl q2 hpos (by omega)
    simp only [List.set_cons_zero] at e3
    refine goes (ρ1 := B6 (.own p3) (.sh (.tup l)) (.sh (.int a)) (.sh (.int t)) (.sh (.int b)) .none) (by rw [ex_asg, e3]; simp [setS]) ?_
    refine goes (ρ1 := B6 (.own p3) (.sh (.tup l)) (.sh (.int a)) (.sh (.int t)) (.sh (.int b)) (.own (.lst l))) (by simp [bl, setS]) ?_
    have hixb := pick_ix l b hb
    have ixn : ∀ (k : List PV) (j : Nat), j < k.length → Py.ixN k.length (j : Int) = some j := fun k j h => by
      unfold Py.ixN
      rw [if_pos (by omega), if_pos (by omega)]
      simp
    refine goes (ρ1 := B6 (.own p3) (.sh (.tup l)) (.sh (.int a)) (.sh (.int t)) (.sh (.int b)) (.own (.lst (l.set a l[b])))) (by
      have := ixn l a ha
      simp [fSet, hixb, this]) ?_
    refine goes (ρ1 := B6 (.own p3) (.sh (.tup l)) (.sh (.int a)) (.sh (.int t)) (.sh (.int b)) (.own (.lst ((l.set a l[b]).set b l[a])))) (by
      have := ixn (l.set a l[b]) b (by simpa using hb)
      rw [List.length_set] at this
      simp [fSet, hixa, this]) ?_
    have w3 := wgtL_cut l b
    have w4 := wgtL_at hb
    have hlb := hx' _ (List.getElem_mem hb)
    have hla := hx' _ (List.getElem_mem ha)
    generalize l[b] = lb at *
    generalize l[a] = la at *
    have hlen : ((l.set a lb).set b la).length = l.length := by simp
    refine ret_now (r := .sh (.tup ((l.set a lb).set b la))) (ρ' := B6 (.own p3) (.sh (.tup l)) (.sh (.int a)) (.sh (.int t)) (.sh (.int b)) (.own (.lst ((l.set a lb).set b la)))) ?_ ⟨.tup ((l.set a lb).set b la), p3, _, _, _, _, _, false, rfl, q3, fine_tup.mpr ⟨by omega, fun x h => ?_⟩, by
      have z1 := wgtL_set l a lb
      have z2 := wgtL_set (l.set a lb) b la
      rw [w0, wgtV]; omega⟩
    · have bt : bi1 .tuple [.lst ((l.set a lb).set b la)] = some (.sh (.tup ((l.set a lb).set b la))) := by
        have : l.length < 16777216 := by omega
        simp [bi1, seqOf, this]
      simp [bt]
    · rcases List.mem_or_eq_of_mem_set h with h | rfl
      · rcases List.mem_or_eq_of_mem_set h with h | rfl
        · exact hx' x h
        · exact hlb
      · exact hla
  -- no tuple, or an empty one
  have hor : ev (T__law_bent m) (.or (.cons (.not (.bi (.isi [1]) (.cons (.var 1) .nil))) (.cons (.cmp .eq (.bi .len (.cons (.var 1) .nil)) (.con (.int 0))) .nil))) (B6 (.own p1) (.sh v) s2 (.sh (.int t)) .none .none) = some (.sh (.bl true), B6 (.own p1) (.sh v) s2 (.sh (.int t)) .none .none) := by
    by_cases hv1 : ∃ l, v = .tup l
    · obtain ⟨l, rfl⟩ := hv1
      have hl : l = [] := Classical.byContradiction fun h => htu ⟨l, rfl, h⟩
      subst hl
      have b1 : bi1 (.isi [1]) [.tup []] = some (.sh (.bl true)) := rfl
      have b2 : bi1 .len [.tup []] = some (.sh (.int 0)) := rfl
      have b3 : cmpB .eq (.int 0) (.int 0) = some true := rfl
      simp [b1, b2, b3]
    · have b1 : bi1 (.isi [1]) [v] = some (.sh (.bl false)) := by
        cases v <;> first | rfl | exact absurd ⟨_, rfl⟩ hv1 | exact absurd (fine_noScr hv) id
      simp [b1]
  by_cases t5 : t < 5
  · refine ret_now (r := .sh (.tup [v, .int 0])) (ρ' := B6 (.own p1) (.sh v) s2 (.sh (.int t)) .none .none) ?_ ⟨.tup [v, .int 0], p1, _, _, _, _, _, false, rfl, q1, fine_tup.mpr ⟨by show 2 ≤ K + 2; omega, fun x hx => ?_⟩, by simp only [wgtV, wgtL]; omega⟩
    · rw [ite_ex hor]
      have h5 : (t : Int) < 5 := by omega
      simp [h5, t5]
    · simp only [List.mem_cons, List.not_mem_nil, or_false] at hx
      rcases hx with rfl | rfl
      · exact fine_mono _ _ _ _ _ _ _ hv (Nat.le_refl _) (by omega) (by omega)
      · exact fine_int.mpr (by simp)
  · refine ret_now (r := .sh (.tup [])) (ρ' := B6 (.own p1) (.sh v) s2 (.sh (.int t)) .none .none) ?_ ⟨.tup [], p1, _, _, _, _, _, false, rfl, q1, fine_tup.mpr ⟨by simp, by simp⟩, by simp [wgtV, wgtL]⟩
    rw [ite_ex hor]
    have h5 : ¬ (t : Int) < 5 := by omega
    simp [h5, t5]

theorem bent_ret {n K M m : Nat} {v p : PV} {o : Out} (h : exs (T__law_bent m) fuel f__law_bent.body (B6 (.own p) (.sh v) .none .none .none .none) = some o) {W : Nat} (he : bentEnd n K M W o) : ∃ (w : Bool) (r q : PV), Pool q ∧ fineV (n + 1) (K + 2) (M + 2) r = true ∧ wgtV r ≤ W ∧ (d__law_bent (m + 1)).f [p, v] = some ⟨w, r, q⟩ := by
  obtain ⟨r, q, s1, s2, s3, s4, s5, w, rfl, hq, hf, hg⟩ := he
  refine ⟨w, r, q, hq, hf, hg, ?_⟩
  rw [df__law_bent]
  have st : startE f__law_bent [p, v] = B6 (.own p) (.sh v) .none .none .none .none := rfl
  unfold runT
  rw [st, h]
  cases w <;> rfl
theorem bent_ok (K M : Nat) (hK : K ≤ 10000) : ∀ (n m : Nat) (v p : PV), fineV n K M v = true → n ≤ m → Pool p → ∃ (w : Bool) (r q : PV), Pool q ∧ fineV (n + 1) (K + 2) (M + 2) r = true ∧ wgtV r ≤ 3 * wgtV v + 200 ∧ (d__law_bent (m + 1)).f [p, v] = some ⟨w, r, q⟩ := by
  intro n
  induction n with
  | zero =>
    intro m v p hv _ hp
    obtain ⟨o, h1, h2⟩ := bent_tail m hv hK hp .none
    refine bent_ret (o := o) ?_ h2
    have b1 : bi1 (.isi [1]) [v] = some (.sh (.bl false)) := by
      cases v <;> first | rfl | cases hv
    unfold bentTail f__law_bent at h1
    simp only at h1
    unfold f__law_bent
    simp only
    rw [exs_cons, ← h1]
    have hc : ∀ (a : Ss), ex (T__law_bent m) fuel (.ife (.and (.cons (.bi (.isi [1]) (.cons (.var 1) .nil)) (.cons (.cmp .gt (.bi .len (.cons (.var 1) .nil)) (.con (.int 0))) (.cons (.cmp .gt (.fn 16 (.cons (.var 0) (.cons (.con (.int 3)) .nil))) (.con (.int 0))) .nil)))) a .nil) (B6 (.own p) (.sh v) .none .none .none .none) = some (.nx (B6 (.own p) (.sh v) .none .none .none .none)) := by
      intro a
      simp [b1]
    rw [hc]
  | succ n ih =>
    intro m v p hv hm hp
    obtain ⟨m, rfl⟩ : ∃ k, m = k + 1 := ⟨m - 1, by omega⟩
    by_cases htu : ∃ l, v = .tup l ∧ l ≠ []
    · obtain ⟨l, rfl, hne⟩ := htu
      have hpos : 0 < l.length := List.length_pos_iff.mpr hne
      obtain ⟨hl, hx⟩ := fine_tup.mp hv
      have b1 : bi1 (.isi [1]) [.tup l] = some (.sh (.bl true)) := rfl
      have b2 : bi1 .len [.tup l] = some (.sh (.int (l.length : Nat))) := rfl
      have b3 : cmpB .gt (.int (l.length : Nat)) (.int 0) = some true := by
        show some (decide ((0 : Int) < (l.length : Int))) = _
        rw [decide_eq_true (by omega)]
      obtain ⟨w, p1, q1, hw, e1⟩ := draw_nat (T__law_bent (m + 1)) (kd := 16) (i := 0) rfl (ρ := B6 (.own p) (.sh (.tup l)) .none .none .none .none) (e := .con (.int 3)) (m := 3) rfl rfl hp (by decide) (by decide)
      simp only [List.set_cons_zero] at e1
      by_cases h0 : w = 0
      · obtain ⟨o, h1, h2⟩ := bent_tail (m + 1) hv hK q1 .none
        refine bent_ret (o := o) ?_ h2
        unfold bentTail f__law_bent at h1
        simp only at h1
        unfold f__law_bent
        simp only
        rw [exs_cons, ← h1]
        subst h0
        have b4 : cmpB .gt (.int ((0 : Nat) : Int)) (.int 0) = some false := rfl
        generalize (l.length : Int) = L at *
        have hc : ∀ (a : Ss), ex (T__law_bent (m + 1)) fuel (.ife (.and (.cons (.bi (.isi [1]) (.cons (.var 1) .nil)) (.cons (.cmp .gt (.bi .len (.cons (.var 1) .nil)) (.con (.int 0))) (.cons (.cmp .gt (.fn 16 (.cons (.var 0) (.cons (.con (.int 3)) .nil))) (.con (.int 0))) .nil)))) a .nil) (B6 (.own p) (.sh (.tup l)) .none .none .none .none) = some (.nx (B6 (.own p1) (.sh (.tup l)) .none .none .none .none)) := by
          intro a
          simp [-ev_fn, b1, b2, b3, e1, b4]
        rw [hc]
      · obtain ⟨a, p2, q2, ha, e2⟩ := draw_nat (T__law_bent (m + 1)) (kd := 16) (i := 0) rfl (ρ := B6 (.own p1) (.sh (.tup l)) .none .none .none .none) (e := .bi .len (.cons (.var 1) .nil)) (m := l.length) (by simp [b2]) rfl q1 hpos (by omega)
        simp only [List.set_cons_zero] at e2
        obtain ⟨w', r, q, hq, hf, hg, hrec⟩ := ih m l[a] p2 (hx _ (List.getElem_mem ha)) (by omega) q2
        have hixa := pick_ix l a ha
        have c1 : sl3 (.tup l) none (some (a : Int)) = some (.sh (.tup (l.take a))) := by
          show some (Res.sh (.tup (cutL l none (some (a : Int))))) = _
          rw [cut_to']
        have c2 : sl3 (.tup l) (some ((a : Int) + 1)) none = some (.sh (.tup (l.drop (a + 1)))) := by
          show some (Res.sh (.tup (cutL l (some ((a + 1 : Nat) : Int)) none))) = _
          rw [cut_from']
        have d1 := add_tup (l.take a) [r] (by simp; omega)
        have d2 := add_tup (l.take a ++ [r]) (l.drop (a + 1)) (by simp; omega)
        have hrev : ev (T__law_bent (m + 1)) (.fn 17 (.cons (.var 0) (.cons (.ix (.var 1) (.var 2)) .nil))) (B6 (.own p2) (.sh (.tup l)) (.sh (.int a)) .none .none .none) = some (if w' then .own r else .sh r, B6 (.own q) (.sh (.tup l)) (.sh (.int a)) .none .none .none) := by
          generalize l[a] = la at *
          cases w' <;> simp [hixa, callD, hrec]
        have hfin : fineV (n + 1 + 1) (K + 2) (M + 2) (.tup (l.take a ++ [r] ++ l.drop (a + 1))) = true := by
          refine fine_tup.mpr ⟨by simp; omega, fun x h => ?_⟩
          have up : ∀ x ∈ l, fineV (n + 1) (K + 2) (M + 2) x = true := fun x h => fine_mono _ _ _ _ _ _ _ (hx x h) (by omega) (by omega) (by omega)
          rcases List.mem_append.mp h with h | h
          · rcases List.mem_append.mp h with h | h
            · exact up x (List.mem_of_mem_take h)
            · rw [List.mem_singleton.mp h]; exact hf
          · exact up x (List.mem_of_mem_drop h)
        have hwg : wgtV (.tup (l.take a ++ [r] ++ l.drop (a + 1))) ≤ 3 * wgtV (.tup l) + 200 := by
          have w1 := wgtL_cut l a
          have w2 := wgtL_at ha
          have w0 : wgtV (.tup l) = wgtL l := by rw [wgtV]
          rw [w0, wgtV, wgtL_app, wgtL_app, wgtL_one]
          omega
        refine bent_ret (n := n + 1) (o := .ret (.sh (.tup (l.take a ++ [r] ++ l.drop (a + 1)))) (B6 (.own q) (.sh (.tup l)) (.sh (.int a)) .none .none .none)) ?_ ⟨_, q, _, _, _, _, _, false, rfl, hq, hfin, hwg⟩
        have b4 : cmpB .gt (.int (w : Nat)) (.int 0) = some true := by
          show some (decide ((0 : Int) < (w : Int))) = _
          rw [decide_eq_true (by omega)]
        unfold f__law_bent
        simp only
        rw [exs_cons]
        have hc : ∀ (a b : Ss), ex (T__law_bent (m + 1)) fuel (.ife (.and (.cons (.bi (.isi [1]) (.cons (.var 1) .nil)) (.cons (.cmp .gt (.bi .len (.cons (.var 1) .nil)) (.con (.int 0))) (.cons (.cmp .gt (.fn 16 (.cons (.var 0) (.cons (.con (.int 3)) .nil))) (.con (.int 0))) .nil)))) a b) (B6 (.own p) (.sh (.tup l)) .none .none .none .none) = exs (T__law_bent (m + 1)) fuel a (B6 (.own p1) (.sh (.tup l)) .none .none .none .none) := by
          intro a b
          generalize (l.length : Int) = L at *
          simp [-ev_fn, b1, b2, b3, e1, b4]
        rw [hc, exs_cons]
        have hs2 : ∀ e, ev (T__law_bent (m + 1)) e (B6 (.own p1) (.sh (.tup l)) .none .none .none .none) = some (.sh (.int a), [.own p2, .sh (.tup l), .none, .none, .none, .none]) → ex (T__law_bent (m + 1)) fuel (.asg (.name 2) e) (B6 (.own p1) (.sh (.tup l)) .none .none .none .none) = some (.nx (B6 (.own p2) (.sh (.tup l)) (.sh (.int a)) .none .none .none)) := by
          intro e he
          rw [ex_asg, he]; simp [setS]
        rw [hs2 _ e2]
        simp only
        generalize l.take a ++ [r] ++ l.drop (a + 1) = RR at *
        cases w' <;> simp [-ev_fn, isAbs, c1, c2, hrev, d1, d2]
    · obtain ⟨o, h1, h2⟩ := bent_tail (m + 1) hv hK hp .none
      refine bent_ret (o := o) ?_ h2
      unfold bentTail f__law_bent at h1
      simp only at h1
      unfold f__law_bent
      simp only
      rw [exs_cons, ← h1]
      have hc : ∀ (a : Ss), ex (T__law_bent (m + 1)) fuel (.ife (.and (.cons (.bi (.isi [1]) (.cons (.var 1) .nil)) (.cons (.cmp .gt (.bi .len (.cons (.var 1) .nil)) (.con (.int 0))) (.cons (.cmp .gt (.fn 16 (.cons (.var 0) (.cons (.con (.int 3)) .nil))) (.con (.int 0))) .nil)))) a .nil) (B6 (.own p) (.sh v) .none .none .none .none) = some (.nx (B6 (.own p) (.sh v) .none .none .none .none)) := by
        intro a
        by_cases hv1 : ∃ l, v = .tup l
        · obtain ⟨l, rfl⟩ := hv1
          have hl : l = [] := Classical.byContradiction fun h => htu ⟨l, rfl, h⟩
          subst hl
          have b1 : bi1 (.isi [1]) [.tup []] = some (.sh (.bl true)) := rfl
          have b2 : bi1 .len [.tup []] = some (.sh (.int 0)) := rfl
          have b3 : cmpB .gt (.int 0) (.int 0) = some false := rfl
          simp [b1, b2, b3]
        · have b1 : bi1 (.isi [1]) [v] = some (.sh (.bl false)) := by
            cases v <;> first | rfl | exact absurd ⟨_, rfl⟩ hv1 | exact absurd (fine_noScr hv) id
          simp [b1]
      rw [hc]

abbrev T3 := Int × Int × Int
def t3 (a b c : Int) : PV := .tup [.int a, .int b, .int c]
def tt (z : T3) : PV := t3 z.1 z.2.1 z.2.2
theorem eqv_tt (x y : T3) : eqv (tt x) (tt y) = decide (x = y) := by
  obtain ⟨a, b, c⟩ := x
  obtain ⟨d, e, f⟩ := y
  have h : eqv (tt (a, b, c)) (tt (d, e, f)) = (decide (a = d) && (decide (b = e) && (decide (c = f) && true))) := rfl
  rw [h]
  by_cases h1 : a = d <;> by_cases h2 : b = e <;> by_cases h3 : c = f <;> simp [h1, h2, h3]
def Mt : Em T3 := ⟨tt, eqv_tt, fun _ _ => rfl, fun _ => rfl, fun _ => rfl, fun _ => rfl, fun _ => rfl⟩
def ltT (x y : T3) : Bool := decide (x.1 < y.1) || (decide (x.1 = y.1) && (decide (x.2.1 < y.2.1) || (decide (x.2.1 = y.2.1) && decide (x.2.2 < y.2.2))))
theorem ltv_tt (x y : T3) : ltv (tt x) (tt y) = ltT x y := by
  obtain ⟨a, b, c⟩ := x
  obtain ⟨d, e, f⟩ := y
  have h : ltv (tt (a, b, c)) (tt (d, e, f)) = if decide (a = d) then (if decide (b = e) then (if decide (c = f) then false else decide (c < f)) else decide (b < e)) else decide (a < d) := rfl
  rw [h]
  unfold ltT
  simp only
  by_cases h1 : a = d
  · subst h1
    by_cases h2 : b = e
    · subst h2
      by_cases h3 : c = f
      · subst h3; simp
      · simp [h3]
    · simp [h2]
  · simp [h1]
abbrev Ed := T3 × T3
def ee (e : Ed) : PV := .tup [tt e.1, tt e.2]
theorem eqv_ee (x y : Ed) : eqv (ee x) (ee y) = decide (x = y) := by
  obtain ⟨a, b⟩ := x
  obtain ⟨c, d⟩ := y
  have h : eqv (ee (a, b)) (ee (c, d)) = (eqv (tt a) (tt c) && (eqv (tt b) (tt d) && true)) := rfl
  rw [h, eqv_tt, eqv_tt]
  by_cases h1 : a = c <;> by_cases h2 : b = d <;> simp [h1, h2]
def Me : Em Ed := ⟨ee, eqv_ee, fun _ _ => rfl, fun _ => rfl, fun _ => rfl, fun _ => rfl, fun _ => rfl⟩
def ltE (x y : Ed) : Bool := if x.1 = y.1 then (if x.2 = y.2 then false else ltT x.2 y.2) else ltT x.1 y.1
theorem ltv_ee (x y : Ed) : ltv (ee x) (ee y) = ltE x y := by
  obtain ⟨a, b⟩ := x
  obtain ⟨c, d⟩ := y
  have h : ltv (ee (a, b)) (ee (c, d)) = if eqv (tt a) (tt c) then (if eqv (tt b) (tt d) then false else ltv (tt b) (tt d)) else ltv (tt a) (tt c) := rfl
  rw [h, eqv_tt, eqv_tt, ltv_tt, ltv_tt]
  unfold ltE
  simp only [decide_eq_true_eq]
/-! ### sheets -/
def nbL (z : T3) : List T3 := [(z.1, z.2.1, (z.2.2 + 1) % 4), (z.1, z.2.1, (z.2.2 + 3) % 4), if z.2.2 = 0 then (z.1 - 1, z.2.1, 2) else if z.2.2 = 1 then (z.1, z.2.1 + 1, 3) else if z.2.2 = 2 then (z.1 + 1, z.2.1, 0) else (z.1, z.2.1 - 1, 1)]
def insZ (x : T3) : List T3 → List T3
  | [] => [x]
  | y :: ys => if ltT y x then y :: insZ x ys else x :: y :: ys
def sortZ : List T3 → List T3
  | [] => []
  | x :: xs => insZ x (sortZ xs)
def onB (s : Int × Int) (z : T3) : Bool := decide (0 ≤ z.1) && (decide (z.1 < s.1) && (decide (0 ≤ z.2.1) && decide (z.2.1 < s.2)))
def upI (n : Int) : List Int := (List.range n.toNat).map fun (k : Nat) => (k : Int)
def TL (s : Int × Int) : List T3 := (upI s.1).flatMap fun r => (upI s.2).flatMap fun c => [(r, c, 0), (r, c, 1), (r, c, 2), (r, c, 3)]
def EL (s : Int × Int) : List Ed := (TL s).flatMap fun z => ((sortZ (nbL z)).filter fun o => ltT z o && onB s o).map fun o => (z, o)
def sz (s : Int × Int) : PV := .tup [.int s.1, .int s.2]
def sizes : List (Int × Int) := [(1, 1), (1, 2), (2, 1), (1, 3), (3, 1), (2, 2), (1, 4), (4, 1)]

theorem edges_11 : d__law_edges.f [sz (1, 1)] = some ⟨true, .lst ((EL (1, 1)).map ee), .non⟩ := by rw [df__law_edges]; kernel_rfl
theorem edges_12 : d__law_edges.f [sz (1, 2)] = some ⟨true, .lst ((EL (1, 2)).map ee), .non⟩ := by rw [df__law_edges]; kernel_rfl
theorem edges_21 : d__law_edges.f [sz (2, 1)] = some ⟨true, .lst ((EL (2, 1)).map ee), .non⟩ := by rw [df__law_edges]; kernel_rfl
theorem edges_13 : d__law_edges.f [sz (1, 3)] = some ⟨true, .lst ((EL (1, 3)).map ee), .non⟩ := by rw [df__law_edges]; kernel_rfl
theorem edges_31 : d__law_edges.f [sz (3, 1)] = some ⟨true, .lst ((EL (3, 1)).map ee), .non⟩ := by rw [df__law_edges]; kernel_rfl
theorem edges_22 : d__law_edges.f [sz (2, 2)] = some ⟨true, .lst ((EL (2, 2)).map ee), .non⟩ := by rw [df__law_edges]; kernel_rfl
theorem edges_14 : d__law_edges.f [sz (1, 4)] = some ⟨true, .lst ((EL (1, 4)).map ee), .non⟩ := by rw [df__law_edges]; kernel_rfl
theorem edges_41 : d__law_edges.f [sz (4, 1)] = some ⟨true, .lst ((EL (4, 1)).map ee), .non⟩ := by rw [df__law_edges]; kernel_rfl
theorem edges_ok {s : Int × Int} (h : s ∈ sizes) : d__law_edges.f [sz s] = some ⟨true, .lst ((EL s).map ee), .non⟩ := by
  simp only [sizes, List.mem_cons, List.not_mem_nil, or_false] at h
  rcases h with (rfl | rfl | rfl | rfl | rfl | rfl | rfl | rfl)
  · exact edges_11
  · exact edges_12
  · exact edges_21
  · exact edges_13
  · exact edges_31
  · exact edges_22
  · exact edges_14
  · exact edges_41

/-! ### _law_same of any fine value and an edge -/
def dec3 (v : PV) : Option T3 := match v with
  | .tup [.int a, .int b, .int c] => some (a, b, c)
  | _ => none
def decE (v : PV) : Option Ed := match v with
  | .tup [x, y] => (match dec3 x with | none => none | some a => (match dec3 y with | none => none | some b => some (a, b)))
  | _ => none
theorem dec3_tt (z : T3) : dec3 (tt z) = some z := rfl
theorem dec3_some {v : PV} {z : T3} (h : dec3 v = some z) : v = tt z := by
  unfold dec3 at h
  split at h
  · obtain rfl := Option.some.inj h; rfl
  · cases h
theorem decE_some {v : PV} {e : Ed} (h : decE v = some e) : v = ee e := by
  unfold decE at h
  split at h
  · rename_i x y
    cases hx : dec3 x with
    | none => rw [hx] at h; cases h
    | some a =>
      cases hy : dec3 y with
      | none => rw [hx, hy] at h; cases h
      | some b =>
        rw [hx, hy] at h
        obtain rfl := Option.some.inj h
        rw [dec3_some hx, dec3_some hy]; rfl
  · cases h
theorem decE_ee (e : Ed) : decE (ee e) = some e := rfl
def eqI (v : PV) (j : Int) : Bool := match v with
  | .int i => decide (i = j)
  | _ => false
theorem same_i (m : Nat) {v : PV} (h : noB v) (j : Int) : (d__law_same (m + 1)).f [v, .int j] = some ⟨false, .bl (eqI v j), .non⟩ := by
  rw [df__law_same]
  cases v <;> first | exact absurd h id | skip
  case int i =>
    have e : cmpB .eq (.int i) (.int j) = some (decide (i = j)) := rfl
    show _ = (some ⟨false, .bl (decide (i = j)), .non⟩ : Option Ret)
    generalize decide (i = j) = b at *
    simp [runT, f__law_same, startE, bi1, isA, e, retE, outE]
  all_goals (show _ = (some ⟨false, .bl false, .non⟩ : Option Ret); simp [runT, f__law_same, startE, bi1, isA, retE, outE])
theorem same_no (m : Nat) {v : PV} (h : noB v) (L : List PV) (hv : ∀ l, v = .tup l → l.length ≠ L.length) : (d__law_same (m + 1)).f [v, .tup L] = some ⟨false, .bl false, .non⟩ := by
  rw [df__law_same]
  cases v <;> first | exact absurd h id | skip
  case tup l =>
    have hl := hv l rfl
    have e : cmpB .ne (.int (l.length : Nat)) (.int (L.length : Nat)) = some true := by
      show some (!decide ((l.length : Int) = (L.length : Int))) = _
      rw [decide_eq_false (by omega)]; rfl
    simp [runT, f__law_same, startE, bi1, isA, e, retE, outE]
    try omega
  all_goals simp [runT, f__law_same, startE, bi1, isA, retE, outE]
theorem same_2 (m : Nat) {x y X Y : PV} {a b : Bool} (h0 : (d__law_same m).f [x, X] = some ⟨false, .bl a, .non⟩) (h1 : (d__law_same m).f [y, Y] = some ⟨false, .bl b, .non⟩) : (d__law_same (m + 1)).f [.tup [x, y], .tup [X, Y]] = some ⟨false, .bl (a && b), .non⟩ := by
  have w0 := fun ρ => callD_sh (d := d__law_same m) (rs := [.sh x, .sh X]) (ρ := ρ) (by cases m <;> rfl) rfl rfl h0
  have w1 := fun ρ => callD_sh (d := d__law_same m) (rs := [.sh y, .sh Y]) (ρ := ρ) (by cases m <;> rfl) rfl rfl h1
  have i0 : ix2 (.tup [x, y]) (.int 0) = some (.sh x) := rfl
  have i1 : ix2 (.tup [x, y]) (.int 1) = some (.sh y) := rfl
  have j0 : ix2 (.tup [X, Y]) (.int 0) = some (.sh X) := rfl
  have j1 : ix2 (.tup [X, Y]) (.int 1) = some (.sh Y) := rfl
  have b0 : ∀ x y : PV, bi1 .len [.tup [x, y]] = some (.sh (.int 2)) := fun _ _ => rfl
  have t0 : ∀ l : List PV, bi1 (.isi [1]) [.tup l] = some (.sh (.bl true)) := fun _ => rfl
  have t1 : ∀ l : List PV, bi1 (.isi [2]) [.tup l] = some (.sh (.bl false)) := fun _ => rfl
  have c0 : cmpB .ne (.int 2) (.int 2) = some false := rfl
  have cb1 : ∀ b : Bool, cmpB .ne (.bl b) (.bl b) = some false := fun b => by cases b <;> rfl
  have r : rng1 [.int 2] = some [.int 0, .int 1] := rfl
  have ln : ∀ l : List PV, bi1 .len [.lst l] = some (.sh (.int (l.length : Nat))) := fun _ => rfl
  have q0 : cmpB .eq (.int 0) (.int 0) = some true := rfl
  have q1 : cmpB .eq (.int 1) (.int 0) = some false := rfl
  have q2 : cmpB .eq (.int 2) (.int 0) = some false := rfl
  have d0 := b0 x y
  have d1 := b0 X Y
  have u0 := t0 [x, y]
  have u1 := t0 [X, Y]
  have u2 := t1 [x, y]
  have u3 := t1 [X, Y]
  clear b0 t0 t1
  rw [df__law_same]
  generalize PV.tup [x, y] = P at *
  generalize PV.tup [X, Y] = Q at *
  cases a <;> cases b <;> simp [runT, f__law_same, startE, d0, d1, u0, u1, u2, u3, c0, cb1, r, noOwn, wipeE, loopC_cons, loopC_nil, stepF_eq, f__law_same_e1, f__law_same_c1, setS, i0, i1, j0, j1, w0, w1, backE, ln, q0, q1, q2, retE, outE]
theorem same_3 (m : Nat) {x y z X Y Z : PV} {a b c : Bool} (h0 : (d__law_same m).f [x, X] = some ⟨false, .bl a, .non⟩) (h1 : (d__law_same m).f [y, Y] = some ⟨false, .bl b, .non⟩) (h2 : (d__law_same m).f [z, Z] = some ⟨false, .bl c, .non⟩) : (d__law_same (m + 1)).f [.tup [x, y, z], .tup [X, Y, Z]] = some ⟨false, .bl (a && (b && c)), .non⟩ := by
  have w0 := fun ρ => callD_sh (d := d__law_same m) (rs := [.sh x, .sh X]) (ρ := ρ) (by cases m <;> rfl) rfl rfl h0
  have w1 := fun ρ => callD_sh (d := d__law_same m) (rs := [.sh y, .sh Y]) (ρ := ρ) (by cases m <;> rfl) rfl rfl h1
  have w2 := fun ρ => callD_sh (d := d__law_same m) (rs := [.sh z, .sh Z]) (ρ := ρ) (by cases m <;> rfl) rfl rfl h2
  have i0 : ix2 (.tup [x, y, z]) (.int 0) = some (.sh x) := rfl
  have i1 : ix2 (.tup [x, y, z]) (.int 1) = some (.sh y) := rfl
  have i2 : ix2 (.tup [x, y, z]) (.int 2) = some (.sh z) := rfl
  have j0 : ix2 (.tup [X, Y, Z]) (.int 0) = some (.sh X) := rfl
  have j1 : ix2 (.tup [X, Y, Z]) (.int 1) = some (.sh Y) := rfl
  have j2 : ix2 (.tup [X, Y, Z]) (.int 2) = some (.sh Z) := rfl
  have b0 : ∀ x y z : PV, bi1 .len [.tup [x, y, z]] = some (.sh (.int 3)) := fun _ _ _ => rfl
  have t0 : ∀ l : List PV, bi1 (.isi [1]) [.tup l] = some (.sh (.bl true)) := fun _ => rfl
  have t1 : ∀ l : List PV, bi1 (.isi [2]) [.tup l] = some (.sh (.bl false)) := fun _ => rfl
  have c0 : cmpB .ne (.int 3) (.int 3) = some false := rfl
  have cb1 : ∀ b : Bool, cmpB .ne (.bl b) (.bl b) = some false := fun b => by cases b <;> rfl
  have r : rng1 [.int 3] = some [.int 0, .int 1, .int 2] := rfl
  have ln : ∀ l : List PV, bi1 .len [.lst l] = some (.sh (.int (l.length : Nat))) := fun _ => rfl
  have q0 : cmpB .eq (.int 0) (.int 0) = some true := rfl
  have q1 : cmpB .eq (.int 1) (.int 0) = some false := rfl
  have q2 : cmpB .eq (.int 2) (.int 0) = some false := rfl
  have q3 : cmpB .eq (.int 3) (.int 0) = some false := rfl
  have d0 := b0 x y z
  have d1 := b0 X Y Z
  have u0 := t0 [x, y, z]
  have u1 := t0 [X, Y, Z]
  have u2 := t1 [x, y, z]
  have u3 := t1 [X, Y, Z]
  clear b0 t0 t1
  rw [df__law_same]
  generalize PV.tup [x, y, z] = P at *
  generalize PV.tup [X, Y, Z] = Q at *
  cases a <;> cases b <;> cases c <;> simp [runT, f__law_same, startE, d0, d1, u0, u1, u2, u3, c0, cb1, r, noOwn, wipeE, loopC_cons, loopC_nil, stepF_eq, f__law_same_e1, f__law_same_c1, setS, i0, i1, i2, j0, j1, j2, w0, w1, w2, backE, ln, q0, q1, q2, q3, retE, outE]
/-- all parts are plain things -/
def deepN : Nat → PV → Prop
  | 0, v => noB v
  | n + 1, v => noB v ∧ ∀ l, v = .tup l → ∀ x ∈ l, deepN n x
theorem fine_deep {K M : Nat} : ∀ (n : Nat) (v : PV), fineV n K M v = true → deepN n v
  | 0, v, h => fine_noScr h
  | n + 1, v, h => ⟨fine_noScr h, fun l e x hx => by
    subst e
    exact fine_deep n x ((fine_tup.mp h).2 x hx)⟩
theorem deep_noB : ∀ {n : Nat} {v : PV}, deepN n v → noB v
  | 0, _, h => h
  | _ + 1, _, h => h.1
theorem dec3_len {v : PV} (h : ∀ l, v = .tup l → l.length ≠ 3) : dec3 v = none := by
  unfold dec3
  split
  · exact absurd rfl (h _ rfl)
  · rfl
theorem same_T (m : Nat) {v : PV} (h : deepN 1 v) (z : T3) : (d__law_same (m + 2)).f [v, tt z] = some ⟨false, .bl (decide (dec3 v = some z)), .non⟩ := by
  by_cases hl : ∃ x y w, v = .tup [x, y, w]
  · obtain ⟨x, y, w, rfl⟩ := hl
    have hx := same_i m (h.2 _ rfl x (by simp)) z.1
    have hy := same_i m (h.2 _ rfl y (by simp)) z.2.1
    have hw := same_i m (h.2 _ rfl w (by simp)) z.2.2
    have e := same_3 (m + 1) hx hy hw
    have eb : (eqI x z.1 && (eqI y z.2.1 && eqI w z.2.2)) = decide (dec3 (.tup [x, y, w]) = some z) := by
      cases x <;> cases y <;> cases w <;> simp [eqI, dec3, Prod.ext_iff]
    rw [eb] at e
    exact e
  · have hn : ∀ l, v = .tup l → l.length ≠ 3 := fun l e hl3 => by
      match l, hl3 with
      | [x, y, w], _ => exact hl ⟨x, y, w, e⟩
    rw [dec3_len hn]
    exact same_no (m + 1) (deep_noB h) _ hn
theorem same_E (m : Nat) {v : PV} (h : deepN 2 v) (e : Ed) : (d__law_same (m + 3)).f [v, ee e] = some ⟨false, .bl (decide (decE v = some e)), .non⟩ := by
  by_cases hl : ∃ x y, v = .tup [x, y]
  · obtain ⟨x, y, rfl⟩ := hl
    have hx := same_T m (h.2 _ rfl x (by simp)) e.1
    have hy := same_T m (h.2 _ rfl y (by simp)) e.2
    have g := same_2 (m + 2) hx hy
    have eb : (decide (dec3 x = some e.1) && decide (dec3 y = some e.2)) = decide (decE (.tup [x, y]) = some e) := by
      unfold decE
      rw [Bool.eq_iff_iff, Bool.and_eq_true, decide_eq_true_eq, decide_eq_true_eq, decide_eq_true_eq]
      simp only
      cases dec3 x <;> cases dec3 y <;> simp [Prod.ext_iff]
    rw [eb] at g
    exact g
  · have hn : ∀ l, v = .tup l → l.length ≠ 2 := fun l e hl3 => by
      match l, hl3 with
      | [x, y], _ => exact hl ⟨x, y, e⟩
    have ed : decE v = none := by
      unfold decE
      split
      · rename_i x y; exact absurd rfl (hn _ rfl)
      · rfl
    rw [ed]
    exact same_no (m + 2) (deep_noB h) _ hn

/-! ### is it an edge, asked of any fine value -/
theorem bls_map {α : Type} (f : α → Bool) : ∀ l : List α, blsOf (l.map fun x => PV.bl (f x)) = some (l.map f)
  | [] => rfl
  | x :: l => by
    have ih := bls_map f l
    show (blsOf (l.map fun x => PV.bl (f x))).map (f x :: ·) = _
    rw [ih]; rfl
theorem all_bls {α : Type} (f : α → Bool) (l : List α) : bi1 .all [.lst (l.map fun x => PV.bl (f x))] = some (.sh (.bl (l.all f))) := by
  show (blsOf _).map (fun bs => Res.sh (.bl (bs.all id))) = _
  rw [bls_map, Option.map_some, List.all_map]; rfl
def isTu : PV → Bool
  | .tup _ => true
  | _ => false
theorem isi1 {v : PV} (h : noB v) : bi1 (.isi [1]) [v] = some (.sh (.bl (isTu v))) := by
  cases v <;> first | rfl | exact absurd h id
theorem tup_of {v : PV} (h : isTu v = true) : ∃ l, v = .tup l := by
  cases v <;> first | exact ⟨_, rfl⟩ | (cases h; done)
theorem len_nek (a : Nat) (k : Nat) : cmpB .ne (.int (a : Int)) (.int (k : Int)) = some (!decide (a = k)) := by
  show some (!decide ((a : Int) = (k : Int))) = _
  congr 2
  exact decide_eq_decide.mpr (by omega)
theorem len_eqk (a : Nat) (k : Nat) : cmpB .eq (.int (a : Int)) (.int (k : Int)) = some (decide (a = k)) := by
  show some (decide ((a : Int) = (k : Int))) = _
  congr 1
  exact decide_eq_decide.mpr (by omega)
@[simp] theorem ev_cmp2 (Φ : Tab) (o o' : CmOp) (a b c : E) (ρ : Env) : ev Φ (.cmp2 o o' a b c) ρ = (match ev Φ a ρ with
    | none => none
    | some (ra, ρ1) => (match ev Φ b ρ1 with
      | none => none
      | some (rb, ρ2) => (match pk (wt ra) ρ2 with
        | none => none
        | some x => (match pk (wt rb) ρ2 with
          | none => none
          | some y => (match cmpB o x y with
            | none => none
            | some false => some (.sh (.bl false), ρ2)
            | some true => (match ev Φ c ρ2 with
              | none => none
              | some (rc, ρ3) => (match pk (wt rb) ρ3 with
                | none => none
                | some y => (match pk rc ρ3 with
                  | none => none
                  | some z => (match cmpB o' y z with | none => none | some t => some (.sh (.bl t), ρ3))))))))))  := rfl
def tileZ (z : T3) : Bool := decide (0 ≤ z.2.2) && decide (z.2.2 ≤ 3)
def tileB (v : PV) : Bool := match dec3 v with
  | some z => tileZ z
  | none => false
theorem tile_tt (z : T3) : d_is_tile.f [tt z] = some ⟨false, .bl (tileZ z), .non⟩ := by
  have b0 : bi1 (.isi [1]) [tt z] = some (.sh (.bl true)) := rfl
  have b1 : bi1 .len [tt z] = some (.sh (.int 3)) := rfl
  have c1 : cmpB .ne (.int 3) (.int 3) = some false := rfl
  have hseq : seqOf (tt z) = some [.int z.1, .int z.2.1, .int z.2.2] := rfl
  have w := fun (i : Int) ρ => callD_sh (d := d_is_whole) (rs := [.sh (.int i)]) (ρ := ρ) rfl rfl rfl (is_whole_ok (.int i) trivial)
  have i2 : ix2 (tt z) (.int 2) = some (.sh (.int z.2.2)) := rfl
  have e1 : cmpB .le (.int 0) (.int z.2.2) = some (decide (0 ≤ z.2.2)) := rfl
  have e2 : cmpB .le (.int z.2.2) (.int 3) = some (decide (z.2.2 ≤ 3)) := rfl
  have ha : bi1 .all [.lst [.bl true, .bl true, .bl true]] = some (.sh (.bl true)) := rfl
  have l1 : loopC (stepF T_is_tile f_is_tile_e1 (.name 1) .nil [1]) [.int z.1, .int z.2.1, .int z.2.2] [.sh (tt z), .none] = some ([.bl true, .bl true, .bl true], [.sh (tt z), .none]) := by
    generalize tt z = P at *
    simp [loopC_cons, loopC_nil, stepF_eq, f_is_tile_e1, setS, w, isI, wipeE]
  rw [df_is_tile]
  unfold tileZ
  generalize decide (0 ≤ z.2.2) = a at *
  generalize decide (z.2.2 ≤ 3) = b at *
  generalize [PV.int z.1, .int z.2.1, .int z.2.2] = LL at *
  generalize z.2.2 = k at *
  generalize tt z = P at *
  cases a <;> simp [runT, f_is_tile, startE, b0, b1, c1, hseq, noOwn, wipeE, l1, backE, ha, i2, e1, e2, retE, outE]
theorem tile_any {v : PV} (h : deepN 1 v) : d_is_tile.f [v] = some ⟨false, .bl (tileB v), .non⟩ := by
  cases hd : dec3 v with
  | some z =>
    rw [dec3_some hd]
    exact tile_tt z
  | none =>
    have e : tileB v = false := by unfold tileB; rw [hd]
    rw [e]
    have b0 := isi1 (deep_noB h)
    by_cases ht : isTu v = true
    · obtain ⟨l, rfl⟩ := tup_of ht
      rw [ht] at b0
      have b1 : bi1 .len [.tup l] = some (.sh (.int (l.length : Nat))) := rfl
      have c1 : cmpB .ne (.int (l.length : Nat)) (.int 3) = some (!decide (l.length = 3)) := len_nek _ 3
      by_cases hl : l.length = 3
      · have hx := h.2 l rfl
        have l1 : loopC (stepF T_is_tile f_is_tile_e1 (.name 1) .nil [1]) l [.sh (.tup l), .none] = some (l.map (fun x => PV.bl (isI x)), [.sh (.tup l), .none]) := by
          refine loopC_map _ fun x hx' => ?_
          have w := fun ρ => callD_sh (d := d_is_whole) (rs := [.sh x]) (ρ := ρ) rfl rfl rfl (is_whole_ok x (hx x hx'))
          rw [stepF_eq]
          generalize PV.tup l = PP at *
          generalize isI x = b at *
          simp [f_is_tile_e1, setS, w, wipeE]
        have hall := all_bls isI l
        have ef : l.all isI = false := by
          match l, hl with
          | [x, y, w], _ =>
            cases x <;> first | rfl | skip
            cases y <;> first | rfl | skip
            cases w <;> first | rfl | skip
            cases hd
        have q1 : (l.map fun x => PV.bl (isI x)).length < 16777216 := by rw [List.length_map]; omega
        have hseq : seqOf (.tup l) = some l := rfl
        rw [ef] at hall
        rw [decide_eq_true hl] at c1
        rw [df_is_tile]
        generalize (l.map fun x => PV.bl (isI x)) = BB at *
        generalize (l.length : Int) = L at *
        generalize PV.tup l = PP at *
        simp [runT, f_is_tile, startE, b0, b1, c1, hseq, noOwn, wipeE, l1, backE, q1, hall, retE, outE]
      · rw [decide_eq_false hl] at c1
        rw [df_is_tile]
        generalize (l.length : Int) = L at *
        generalize PV.tup l = PP at *
        simp [runT, f_is_tile, startE, b0, b1, c1, retE, outE]
    · rw [Bool.eq_false_iff.mpr ht] at b0
      rw [df_is_tile]
      simp [runT, f_is_tile, startE, b0, retE, outE]
theorem on_ok (s : Int × Int) (z : T3) : d_is_on.f [sz s, tt z] = some ⟨false, .bl (onB s z), .non⟩ := by
  have i0 : ix2 (tt z) (.int 0) = some (.sh (.int z.1)) := rfl
  have i1 : ix2 (tt z) (.int 1) = some (.sh (.int z.2.1)) := rfl
  have j0 : ix2 (sz s) (.int 0) = some (.sh (.int s.1)) := rfl
  have j1 : ix2 (sz s) (.int 1) = some (.sh (.int s.2)) := rfl
  have c0 : cmpB .le (.int 0) (.int z.1) = some (decide (0 ≤ z.1)) := rfl
  have c1 : cmpB .lt (.int z.1) (.int s.1) = some (decide (z.1 < s.1)) := rfl
  have c2 : cmpB .le (.int 0) (.int z.2.1) = some (decide (0 ≤ z.2.1)) := rfl
  have c3 : cmpB .lt (.int z.2.1) (.int s.2) = some (decide (z.2.1 < s.2)) := rfl
  rw [df_is_on]
  unfold onB
  generalize decide (0 ≤ z.1) = b0 at *
  generalize decide (z.1 < s.1) = b1 at *
  generalize decide (0 ≤ z.2.1) = b2 at *
  generalize decide (z.2.1 < s.2) = b3 at *
  generalize tt z = P at *
  generalize sz s = Q at *
  cases b0 <;> cases b1 <;> cases b2 <;> cases b3 <;> simp [runT, f_is_on, startE, i0, i1, j0, j1, c0, c1, c2, c3, retE, outE]
theorem insZ_eq (x : T3) : ∀ l, insT Mt x l = insZ x l
  | [] => rfl
  | y :: l => by
    rw [insT, insZ, insZ_eq x l]
    show (if ltv (tt y) (tt x) then _ else _) = _
    rw [ltv_tt]
theorem sortZ_eq : ∀ l, sortT Mt l = sortZ l
  | [] => rfl
  | x :: l => by rw [sortT, sortZ, sortZ_eq l, insZ_eq]
theorem sorted_tt (l : List T3) : bi1 .sorted [.lst (l.map tt)] = some (.own (.lst ((sortZ l).map tt))) := by
  have e : bi1 .sorted [.lst (l.map tt)] = if sortOk (l.map tt) then some (Res.own (.lst (sortV (l.map tt)))) else none := rfl
  have h1 : sortOk (l.map tt) = true := sortOk_M Mt l
  have h2 : sortV (l.map tt) = (sortT Mt l).map tt := sortT_map Mt l
  rw [e, if_pos h1, h2, sortZ_eq]
theorem beyond_ok {z : T3} (h : tileZ z = true) : d_beyond.f [tt z] = some ⟨false, tt (if z.2.2 = 0 then (z.1 - 1, z.2.1, 2) else if z.2.2 = 1 then (z.1, z.2.1 + 1, 3) else if z.2.2 = 2 then (z.1 + 1, z.2.1, 0) else (z.1, z.2.1 - 1, 1)), .non⟩ := by
  unfold tileZ at h
  simp only [Bool.and_eq_true, decide_eq_true_eq] at h
  obtain ⟨r, c, k⟩ := z
  have hk : k = 0 ∨ k = 1 ∨ k = 2 ∨ k = 3 := by simp only at h; omega
  rw [df_beyond]
  rcases hk with (rfl | rfl | rfl | rfl)
  all_goals
    simp [runT, f_beyond, startE, setS, ix2, atV, Py.ixN, t3, tt, retE, outE, bin2, divW, Int.sub_eq_add_neg]
    try decide

theorem nb_ok {z : T3} (h : tileZ z = true) : d_neighbours.f [tt z] = some ⟨true, .lst ((sortZ (nbL z)).map tt), .non⟩ := by
  have hb := beyond_ok h
  have hs := sorted_tt (nbL z)
  have cb := fun ρ => callD_sh (d := d_beyond) (rs := [.sh (tt z)]) (ρ := ρ) rfl rfl rfl hb
  unfold tileZ at h
  simp only [Bool.and_eq_true, decide_eq_true_eq] at h
  clear hb
  rw [df_neighbours]
  generalize (sortZ (nbL z)).map tt = SS at *
  obtain ⟨r, c, k⟩ := z
  have hk : k = 0 ∨ k = 1 ∨ k = 2 ∨ k = 3 := by simp only at h; omega
  clear h
  rcases hk with (rfl | rfl | rfl | rfl)
  · change bi1 .sorted [.lst [.tup [.int r, .int c, .int 1], .tup [.int r, .int c, .int 3], tt (r - 1, c, 2)]] = _ at hs
    change ∀ ρ, callD d_beyond [.sh (tt (r, c, 0))] ρ = some (.sh (tt (r - 1, c, 2)), ρ) at cb
    generalize tt (r - 1, c, 2) = Y at *
    simp only [tt, t3] at cb ⊢
    simp [runT, f_neighbours, startE, setS, cb, bin2, divW, hs, retE, outE]
  · change bi1 .sorted [.lst [.tup [.int r, .int c, .int 2], .tup [.int r, .int c, .int 0], tt (r, c + 1, 3)]] = _ at hs
    change ∀ ρ, callD d_beyond [.sh (tt (r, c, 1))] ρ = some (.sh (tt (r, c + 1, 3)), ρ) at cb
    generalize tt (r, c + 1, 3) = Y at *
    simp only [tt, t3] at cb ⊢
    simp [runT, f_neighbours, startE, setS, cb, bin2, divW, hs, retE, outE]
  · change bi1 .sorted [.lst [.tup [.int r, .int c, .int 3], .tup [.int r, .int c, .int 1], tt (r + 1, c, 0)]] = _ at hs
    change ∀ ρ, callD d_beyond [.sh (tt (r, c, 2))] ρ = some (.sh (tt (r + 1, c, 0)), ρ) at cb
    generalize tt (r + 1, c, 0) = Y at *
    simp only [tt, t3] at cb ⊢
    simp [runT, f_neighbours, startE, setS, cb, bin2, divW, hs, retE, outE]
  · change bi1 .sorted [.lst [.tup [.int r, .int c, .int 0], .tup [.int r, .int c, .int 2], tt (r, c - 1, 1)]] = _ at hs
    change ∀ ρ, callD d_beyond [.sh (tt (r, c, 3))] ρ = some (.sh (tt (r, c - 1, 1)), ρ) at cb
    generalize tt (r, c - 1, 1) = Y at *
    simp only [tt, t3] at cb ⊢
    simp [runT, f_neighbours, startE, setS, cb, bin2, divW, hs, retE, outE]
theorem memV_ins (x y : PV) : ∀ l, memV x (insV y l) = (eqv y x || memV x l)
  | [] => rfl
  | z :: l => by
    rw [insV]
    by_cases h : ltv z y = true
    · rw [if_pos h]
      show (eqv z x || memV x (insV y l)) = (eqv y x || (eqv z x || memV x l))
      rw [memV_ins x y l]
      cases eqv z x <;> cases eqv y x <;> rfl
    · rw [if_neg h]; rfl
theorem mem_insZ (x y : T3) : ∀ l, x ∈ insZ y l ↔ x = y ∨ x ∈ l
  | [] => by simp [insZ]
  | z :: l => by
    rw [insZ]
    by_cases h : ltT z y = true
    · rw [if_pos h, List.mem_cons, mem_insZ x y l, List.mem_cons]
      constructor <;> (intro h; rcases h with (h | h | h) <;> simp [h])
    · rw [if_neg h, List.mem_cons]
theorem mem_sortZ (x : T3) : ∀ l, x ∈ sortZ l ↔ x ∈ l
  | [] => by simp [sortZ]
  | z :: l => by rw [sortZ, mem_insZ, mem_sortZ x l, List.mem_cons]
theorem in_lstT (z : T3) (l : List T3) : cmpB .inn (tt z) (.lst (l.map tt)) = some (decide (z ∈ l)) := by
  have h2 : plain (.lst (l.map tt)) = true := plain_lst Mt l
  have e : (if (plain (tt z) && plain (.lst (l.map tt))) = true then some (memV (tt z) (l.map tt)) else none) = some (decide (z ∈ l)) := by
    have h3 : memV (tt z) (l.map tt) = decide (z ∈ l) := (memV_M Mt z l).trans (decide_eq_decide.mpr Iff.rfl)
    rw [if_pos (by rw [h2]; rfl), h3]
  exact e
theorem lt_tt (x y : T3) : cmpB .lt (tt x) (tt y) = some (ltT x y) := by
  have e : (if plain (tt x) && plain (tt y) && alk (tt x) (tt y) then some (ltv (tt x) (tt y)) else none) = some (ltT x y) := by
    rw [if_pos (show (plain (tt x) && plain (tt y) && alk (tt x) (tt y)) = true from rfl), ltv_tt]
  exact e
def planeZ (e : Ed) : Bool := (tileZ e.1 && tileZ e.2) && (ltT e.1 e.2 && decide (e.2 ∈ sortZ (nbL e.1)))
def planeB (v : PV) : Bool := match decE v with
  | some e => planeZ e
  | none => false
theorem plane_ee (e : Ed) : d_is_plane_edge.f [ee e] = some ⟨false, .bl (planeZ e), .non⟩ := by
  obtain ⟨a, b⟩ := e
  have b0 : bi1 (.isi [1]) [ee (a, b)] = some (.sh (.bl true)) := rfl
  have b1 : bi1 .len [ee (a, b)] = some (.sh (.int 2)) := rfl
  have c1 : cmpB .ne (.int 2) (.int 2) = some false := rfl
  have i0 : ix2 (ee (a, b)) (.int 0) = some (.sh (tt a)) := rfl
  have i1 : ix2 (ee (a, b)) (.int 1) = some (.sh (tt b)) := rfl
  have ta := fun ρ => callD_sh (d := d_is_tile) (rs := [.sh (tt a)]) (ρ := ρ) rfl rfl rfl (tile_tt a)
  have tb := fun ρ => callD_sh (d := d_is_tile) (rs := [.sh (tt b)]) (ρ := ρ) rfl rfl rfl (tile_tt b)
  have cl := lt_tt a b
  rw [df_is_plane_edge]
  unfold planeZ
  simp only
  cases ha : tileZ a with
  | false =>
    rw [ha] at ta
    generalize ee (a, b) = P at *
    generalize tt a = A at *
    simp [runT, f_is_plane_edge, startE, b0, b1, c1, i0, ta, retE, outE]
  | true =>
    have hn := nb_ok ha
    have ci := in_lstT b (sortZ (nbL a))
    have hn' := fun ρ => callD_sh (d := d_neighbours) (rs := [.sh (tt a)]) (ρ := ρ) rfl rfl rfl hn
    rw [ha] at ta
    generalize tileZ b = t2 at *
    generalize ltT a b = t3 at *
    generalize decide (b ∈ sortZ (nbL a)) = t4 at *
    generalize (sortZ (nbL a)).map tt = NN at *
    generalize ee (a, b) = P at *
    generalize tt a = A at *
    generalize tt b = B at *
    cases t2 <;> cases t3 <;> simp [runT, f_is_plane_edge, startE, b0, b1, c1, i0, i1, ta, tb, cl, hn', ci, retE, outE]
theorem plane_any {v : PV} (h : deepN 2 v) : d_is_plane_edge.f [v] = some ⟨false, .bl (planeB v), .non⟩ := by
  cases hd : decE v with
  | some e =>
    have e1 : planeB v = planeZ e := by unfold planeB; rw [hd]
    rw [e1, decE_some hd]
    exact plane_ee e
  | none =>
    have e : planeB v = false := by unfold planeB; rw [hd]
    rw [e]
    have b0 := isi1 (deep_noB h)
    by_cases ht : isTu v = true
    · obtain ⟨l, rfl⟩ := tup_of ht
      rw [ht] at b0
      have b1 : bi1 .len [.tup l] = some (.sh (.int (l.length : Nat))) := rfl
      have c1 : cmpB .ne (.int (l.length : Nat)) (.int 2) = some (!decide (l.length = 2)) := len_nek _ 2
      by_cases hl : l.length = 2
      · have hx := h.2 l rfl
        rw [decide_eq_true hl] at c1
        match l, hl with
        | [x, y], _ =>
          have ta := fun ρ => callD_sh (d := d_is_tile) (rs := [.sh x]) (ρ := ρ) rfl rfl rfl (tile_any (hx x (by simp)))
          have tb := fun ρ => callD_sh (d := d_is_tile) (rs := [.sh y]) (ρ := ρ) rfl rfl rfl (tile_any (hx y (by simp)))
          have i0 : ix2 (.tup [x, y]) (.int 0) = some (.sh x) := rfl
          have i1 : ix2 (.tup [x, y]) (.int 1) = some (.sh y) := rfl
          have hf : tileB x = false ∨ tileB y = false := by
            unfold decE at hd
            simp only at hd
            unfold tileB
            cases hx3 : dec3 x with
            | none => exact .inl rfl
            | some a =>
              cases hy3 : dec3 y with
              | none => exact .inr rfl
              | some b => rw [hx3, hy3] at hd; cases hd
          rw [df_is_plane_edge]
          generalize tileB x = t1 at *
          generalize tileB y = t2 at *
          generalize (([x, y] : List PV).length : Int) = L at *
          generalize PV.tup [x, y] = P at *
          cases t1 with
          | false => simp [runT, f_is_plane_edge, startE, b0, b1, c1, i0, ta, retE, outE]
          | true =>
            obtain rfl : t2 = false := hf.resolve_left (by decide)
            simp [runT, f_is_plane_edge, startE, b0, b1, c1, i0, i1, ta, tb, retE, outE]
      · rw [decide_eq_false hl] at c1
        rw [df_is_plane_edge]
        generalize (l.length : Int) = L at *
        generalize PV.tup l = PP at *
        simp [runT, f_is_plane_edge, startE, b0, b1, c1, retE, outE]
    · rw [Bool.eq_false_iff.mpr ht] at b0
      rw [df_is_plane_edge]
      simp [runT, f_is_plane_edge, startE, b0, retE, outE]

theorem mem_upI {n i : Int} (h1 : 0 ≤ i) (h2 : i < n) : i ∈ upI n := by
  unfold upI
  refine List.mem_map.mpr ⟨i.toNat, List.mem_range.mpr (by omega), by omega⟩
theorem mem_TL {s : Int × Int} {z : T3} (h1 : tileZ z = true) (h2 : onB s z = true) : z ∈ TL s := by
  unfold tileZ at h1
  unfold onB at h2
  simp only [Bool.and_eq_true, decide_eq_true_eq] at h1 h2
  obtain ⟨r, c, k⟩ := z
  simp only at h1 h2
  unfold TL
  refine List.mem_flatMap.mpr ⟨r, mem_upI h2.1 h2.2.1, List.mem_flatMap.mpr ⟨c, mem_upI h2.2.2.1 h2.2.2.2, ?_⟩⟩
  have hk : k = 0 ∨ k = 1 ∨ k = 2 ∨ k = 3 := by omega
  rcases hk with (rfl | rfl | rfl | rfl) <;> simp
theorem el_fwd : (sizes.all fun s => (EL s).all fun e => planeZ e && (onB s e.1 && onB s e.2)) = true := by decide +kernel
theorem el_bwd : (sizes.all fun s => (TL s).all fun a => (TL s).all fun b => !(ltT a b && decide (b ∈ sortZ (nbL a))) || decide ((a, b) ∈ EL s)) = true := by decide +kernel
theorem el_iff {s : Int × Int} (hs : s ∈ sizes) (e : Ed) : (planeZ e && (onB s e.1 && onB s e.2)) = decide (e ∈ EL s) := by
  rw [Bool.eq_iff_iff, decide_eq_true_eq]
  constructor
  · intro h
    rw [Bool.and_eq_true, Bool.and_eq_true] at h
    obtain ⟨h1, h2, h3⟩ := h
    unfold planeZ at h1
    rw [Bool.and_eq_true, Bool.and_eq_true] at h1
    obtain ⟨⟨t1, t2⟩, t3⟩ := h1
    have g := List.all_eq_true.mp (List.all_eq_true.mp (List.all_eq_true.mp el_bwd s hs) e.1 (mem_TL t1 h2)) e.2 (mem_TL t2 h3)
    rw [t3, Bool.not_true, Bool.false_or, decide_eq_true_eq] at g
    exact g
  · intro h
    exact List.all_eq_true.mp (List.all_eq_true.mp el_fwd s hs) e h
def edgeB (s : Int × Int) (v : PV) : Bool := match decE v with
  | some e => decide (e ∈ EL s)
  | none => false
theorem edge_any {s : Int × Int} (hs : s ∈ sizes) {v : PV} (h : deepN 2 v) : d_is_edge.f [sz s, v] = some ⟨false, .bl (edgeB s v), .non⟩ := by
  have cp := fun ρ => callD_sh (d := d_is_plane_edge) (rs := [.sh v]) (ρ := ρ) rfl rfl rfl (plane_any h)
  cases hd : decE v with
  | none =>
    have e1 : planeB v = false := by unfold planeB; rw [hd]
    have e2 : edgeB s v = false := by unfold edgeB; rw [hd]
    rw [e1] at cp
    rw [e2, df_is_edge]
    generalize sz s = S at *
    simp [runT, f_is_edge, startE, cp, retE, outE]
  | some e =>
    have e1 : planeB v = planeZ e := by unfold planeB; rw [hd]
    have e2 : edgeB s v = (planeZ e && (onB s e.1 && onB s e.2)) := by unfold edgeB; rw [hd, el_iff hs]
    rw [e1] at cp
    rw [e2, df_is_edge]
    obtain rfl := decE_some hd
    obtain ⟨a, b⟩ := e
    have i0 : ix2 (ee (a, b)) (.int 0) = some (.sh (tt a)) := rfl
    have i1 : ix2 (ee (a, b)) (.int 1) = some (.sh (tt b)) := rfl
    have o0 := fun ρ => callD_sh (d := d_is_on) (rs := [.sh (sz s), .sh (tt a)]) (ρ := ρ) rfl rfl rfl (on_ok s a)
    have o1 := fun ρ => callD_sh (d := d_is_on) (rs := [.sh (sz s), .sh (tt b)]) (ρ := ρ) rfl rfl rfl (on_ok s b)
    simp only
    generalize planeZ (a, b) = x at *
    generalize onB s a = y at *
    generalize onB s b = z at *
    generalize ee (a, b) = P at *
    generalize tt a = A at *
    generalize tt b = B at *
    generalize sz s = S at *
    cases x <;> cases y <;> simp [runT, f_is_edge, startE, cp, i0, i1, o0, o1, retE, outE]
/-! ### ascending lists of edges -/
theorem ltT_iff (x y : T3) : ltT x y = true ↔ x.1 < y.1 ∨ (x.1 = y.1 ∧ (x.2.1 < y.2.1 ∨ (x.2.1 = y.2.1 ∧ x.2.2 < y.2.2))) := by
  unfold ltT
  simp only [Bool.or_eq_true, Bool.and_eq_true, decide_eq_true_eq]
theorem t3_ext (x y : T3) : x = y ↔ x.1 = y.1 ∧ x.2.1 = y.2.1 ∧ x.2.2 = y.2.2 := by
  obtain ⟨a, b, c⟩ := x
  obtain ⟨d, e, f⟩ := y
  simp only [Prod.mk.injEq]
theorem ltT_irr (x : T3) : ltT x x = false := by
  cases h : ltT x x with
  | false => rfl
  | true => rw [ltT_iff] at h; omega
theorem ltE_iff (x y : Ed) : ltE x y = true ↔ ltT x.1 y.1 = true ∨ (x.1 = y.1 ∧ ltT x.2 y.2 = true) := by
  unfold ltE
  by_cases h1 : x.1 = y.1
  · rw [if_pos h1, h1, ltT_irr]
    by_cases h2 : x.2 = y.2
    · rw [if_pos h2, h2, ltT_irr]; simp
    · rw [if_neg h2]; simp
  · rw [if_neg h1]
    simp [h1]
theorem ltT_trans {x y z : T3} (h1 : ltT x y = true) (h2 : ltT y z = true) : ltT x z = true := by
  rw [ltT_iff] at *; omega
theorem ltT_tot (x y : T3) : ltT x y = true ∨ x = y ∨ ltT y x = true := by
  rw [ltT_iff, ltT_iff, t3_ext]; omega
theorem ltE_irr (x : Ed) : ltE x x = false := by
  unfold ltE; simp
theorem ltE_trans {x y z : Ed} (h1 : ltE x y = true) (h2 : ltE y z = true) : ltE x z = true := by
  rw [ltE_iff] at *
  rcases h1 with h1 | ⟨h1, h1'⟩ <;> rcases h2 with h2 | ⟨h2, h2'⟩
  · exact .inl (ltT_trans h1 h2)
  · exact .inl (h2 ▸ h1)
  · exact .inl (h1 ▸ h2)
  · exact .inr ⟨h1.trans h2, ltT_trans h1' h2'⟩
theorem ltE_tot (x y : Ed) : ltE x y = true ∨ x = y ∨ ltE y x = true := by
  rw [ltE_iff, ltE_iff]
  rcases ltT_tot x.1 y.1 with h | h | h
  · exact .inl (.inl h)
  · rcases ltT_tot x.2 y.2 with g | g | g
    · exact .inl (.inr ⟨h, g⟩)
    · exact .inr (.inl (Prod.ext h g))
    · exact .inr (.inr (.inr ⟨h.symm, g⟩))
  · exact .inr (.inr (.inl h))
theorem ltE_asym {x y : Ed} (h : ltE x y = true) : ltE y x = false := by
  cases g : ltE y x with
  | false => rfl
  | true => have := ltE_trans h g; rw [ltE_irr] at this; cases this
def Asc (l : List Ed) : Prop := l.Pairwise fun x y => ltE x y = true
theorem insT_cons (x y : Ed) (l : List Ed) : insT Me x (y :: l) = if ltE y x then y :: insT Me x l else x :: y :: l := by
  rw [insT]
  show (if ltv (ee y) (ee x) then _ else _) = _
  rw [ltv_ee]
theorem mem_insT (x z : Ed) : ∀ l, z ∈ insT Me x l ↔ z = x ∨ z ∈ l
  | [] => by simp [insT]
  | y :: l => by
    rw [insT_cons]
    by_cases h : ltE y x = true
    · rw [if_pos h, List.mem_cons, mem_insT x z l, List.mem_cons]
      constructor <;> (intro h; rcases h with (h | h | h) <;> simp [h])
    · rw [if_neg h, List.mem_cons]
theorem asc_ins (x : Ed) : ∀ l, Asc l → x ∉ l → Asc (insT Me x l)
  | [], _, _ => by unfold Asc; simp [insT]
  | y :: l, h, hx => by
    obtain ⟨h1, h2⟩ := List.pairwise_cons.mp h
    have hxy : x ≠ y := fun e => hx (e ▸ List.mem_cons_self)
    have hxl : x ∉ l := fun e => hx (List.mem_cons_of_mem _ e)
    rw [insT_cons]
    by_cases g : ltE y x = true
    · rw [if_pos g]
      refine List.pairwise_cons.mpr ⟨fun z hz => ?_, asc_ins x l h2 hxl⟩
      rcases (mem_insT x z l).mp hz with rfl | hz
      · exact g
      · exact h1 z hz
    · rw [if_neg g]
      have hlt : ltE x y = true := ((ltE_tot x y).resolve_right fun t => t.elim hxy g)
      refine List.pairwise_cons.mpr ⟨fun z hz => ?_, h⟩
      rcases List.mem_cons.mp hz with rfl | hz
      · exact hlt
      · exact ltE_trans hlt (h1 z hz)
theorem mem_dedT (z : Ed) : ∀ l : List Ed, z ∈ dedT l ↔ z ∈ l
  | [] => by simp [dedT]
  | x :: l => by
    rw [dedT, List.mem_cons, List.mem_cons, List.mem_filter, mem_dedT z l]
    by_cases h : x = z
    · subst h; simp
    · have h' : z ≠ x := fun e => h e.symm
      simp [h, h']
theorem mem_sortT (z : Ed) : ∀ l, z ∈ sortT Me l ↔ z ∈ l
  | [] => by simp [sortT]
  | x :: l => by rw [sortT, mem_insT, mem_sortT z l, List.mem_cons]
theorem nodup_dedT : ∀ l : List Ed, (dedT l).Nodup
  | [] => by simp [dedT]
  | x :: l => by
    rw [dedT]
    refine List.nodup_cons.mpr ⟨fun h => ?_, (nodup_dedT l).filter _⟩
    have := (List.mem_filter.mp h).2
    simp at this
theorem asc_sortT : ∀ l, l.Nodup → Asc (sortT Me l)
  | [], _ => by unfold Asc; simp [sortT]
  | x :: l, h => by
    obtain ⟨h1, h2⟩ := List.nodup_cons.mp h
    rw [sortT]
    exact asc_ins x _ (asc_sortT l h2) fun e => h1 ((mem_sortT x l).mp e)
theorem asc_dedT : ∀ {l : List Ed}, Asc l → dedT l = l
  | [], _ => rfl
  | x :: l, h => by
    obtain ⟨h1, h2⟩ := List.pairwise_cons.mp h
    rw [dedT, asc_dedT h2]
    congr 1
    rw [List.filter_eq_self]
    intro y hy
    have : x ≠ y := fun e => by
      have := h1 y hy
      rw [e, ltE_irr] at this
      cases this
    simpa using this
theorem asc_sort : ∀ {l : List Ed}, Asc l → sortT Me l = l
  | [], _ => rfl
  | [x], _ => rfl
  | x :: y :: l, h => by
    obtain ⟨h1, h2⟩ := List.pairwise_cons.mp h
    rw [sortT, asc_sort h2, insT_cons, ltE_asym (h1 y List.mem_cons_self), if_neg (by decide)]
theorem asc_iff (l : List Ed) : l = SS Me l ↔ Asc l := by
  constructor
  · intro h
    rw [h]
    exact asc_sortT _ (nodup_dedT l)
  · intro h
    unfold SS
    rw [asc_dedT h, asc_sort h]
def at2 (L : List Ed) (i : Nat) : Ed := L.getD i ((0, 0, 0), (0, 0, 0))
def ascB (L : List Ed) : Bool := (List.range (L.length - 1)).all fun k => ltE (at2 L k) (at2 L (k + 1))
theorem ascB_iff : ∀ L : List Ed, ascB L = true ↔ Asc L
  | [] => by unfold ascB Asc; simp
  | [x] => by unfold ascB Asc; simp
  | x :: y :: l => by
    have ih := ascB_iff (y :: l)
    have e : ascB (x :: y :: l) = (ltE x y && ascB (y :: l)) := by
      unfold ascB
      show ((List.range (l.length + 1)).all fun k => ltE (at2 (x :: y :: l) k) (at2 (x :: y :: l) (k + 1))) = (ltE x y && (List.range l.length).all fun k => ltE (at2 (y :: l) k) (at2 (y :: l) (k + 1)))
      rw [List.range_succ_eq_map, List.all_cons, List.all_map]
      rfl
    rw [e, Bool.and_eq_true, ih]
    constructor
    · intro ⟨h1, h2⟩
      refine List.pairwise_cons.mpr ⟨fun z hz => ?_, h2⟩
      rcases List.mem_cons.mp hz with rfl | hz
      · exact h1
      · exact ltE_trans h1 ((List.pairwise_cons.mp h2).1 z hz)
    · intro h
      obtain ⟨h1, h2⟩ := List.pairwise_cons.mp h
      exact ⟨h1 y List.mem_cons_self, h2⟩
theorem asc_eq (L : List Ed) : decide (L = SS Me L) = ascB L := by
  rw [Bool.eq_iff_iff, decide_eq_true_eq, ascB_iff, asc_iff]

/-! ### is it bare: program and law -/
theorem len_lst (l : List PV) : bi1 .len [.lst l] = some (.sh (.int (l.length : Nat))) := rfl
theorem len_tup (l : List PV) : bi1 .len [.tup l] = some (.sh (.int (l.length : Nat))) := rfl
theorem gt_zero (a : Nat) : cmpB .gt (.int (a : Int)) (.int 0) = some (decide (0 < a)) := by
  show some (decide ((0 : Int) < (a : Int))) = _
  congr 1
  exact decide_eq_decide.mpr (by omega)
theorem filt_all {α : Type} (p : α → Bool) : ∀ l : List α, decide (0 < (l.filter fun y => !p y).length) = !(l.all p)
  | [] => rfl
  | x :: l => by
    have ih := filt_all p l
    rw [List.filter_cons, List.all_cons]
    cases p x with
    | true => simpa using ih
    | false => simp
theorem eq_zero {α : Type} (p : α → Bool) (l : List α) : cmpB .eq (.int ((l.filter fun y => !p y).length : Nat)) (.int 0) = some (l.all p) := by
  have h := filt_all p l
  have g : cmpB .eq (.int ((l.filter fun y => !p y).length : Nat)) (.int 0) = some (decide ((l.filter fun y => !p y).length = 0)) := len_eqk _ 0
  rw [g]
  congr 1
  rw [← Bool.not_not (l.all p), ← h, ← decide_not]
  exact decide_eq_decide.mpr (by omega)
theorem ix_ees (L : List Ed) {k : Nat} (h : k < L.length) : ix2 (.tup (L.map ee)) (.int (k : Int)) = some (.sh (ee (at2 L k))) := by
  have ha : atV (L.map ee) (k : Int) = some (ee (at2 L k)) := by
    unfold atV Py.ixN at2
    rw [if_pos (by omega), if_pos (by simpa using h), List.getD_eq_getElem?_getD, List.getElem?_eq_getElem h]
    simp [h]
  show (atV (L.map ee) (k : Int)).map Res.sh = _
  rw [ha]; rfl
theorem lt_ee (x y : Ed) : cmpB .lt (ee x) (ee y) = some (ltE x y) := by
  have e : (if plain (ee x) && plain (ee y) && alk (ee x) (ee y) then some (ltv (ee x) (ee y)) else none) = some (ltE x y) := by
    rw [if_pos (show (plain (ee x) && plain (ee y) && alk (ee x) (ee y)) = true from rfl), ltv_ee]
  exact e
theorem asc_ok {L : List Ed} (hl : L.length ≤ 10000) : d_is_ascending.f [.tup (L.map ee)] = some ⟨false, .bl (ascB L), .non⟩ := by
  have b1 : bi1 .len [.tup (L.map ee)] = some (.sh (.int (L.length : Nat))) := by
    show some (Res.sh (.int ((L.map ee).length : Nat))) = _
    rw [List.length_map]
  have hr : rng1 [.int ((L.length : Int) - 1)] = some (rangeL 0 (L.length - 1)) := by
    have e : rng1 [.int ((L.length : Int) - 1)] = if small62 ((L.length : Int) - 1) then some (rangeL 0 ((L.length : Int) - 1).toNat) else none := rfl
    rw [e, if_pos (by unfold small62; exact decide_eq_true (by omega))]
    rw [show ((L.length : Int) - 1).toNat = L.length - 1 by omega]
  have l1 : loopC (stepF T_is_ascending f_is_ascending_e1 (.name 1) .nil [1]) (rangeL 0 (L.length - 1)) [.sh (.tup (L.map ee)), .none] = some ((List.range (L.length - 1)).map (fun k => PV.bl (ltE (at2 L k) (at2 L (k + 1)))), [.sh (.tup (L.map ee)), .none]) := by
    unfold rangeL
    refine loopC_mapI _ _ fun k hk => ?_
    have hk := List.mem_range.mp hk
    have i1 := ix_ees L (k := k + 1) (by omega)
    have i2 := ix_ees L (k := k) (by omega)
    have e3 : (0 : Int) + (k : Int) = (k : Int) := by omega
    have j1 : ix2 (.tup (L.map ee)) (.int ((k : Int) + 1)) = some (.sh (ee (at2 L (k + 1)))) := i1
    have cl := lt_ee (at2 L k) (at2 L (k + 1))
    rw [stepF_eq, e3]
    generalize ltE (at2 L k) (at2 L (k + 1)) = b at *
    generalize ee (at2 L (k + 1)) = x1 at *
    generalize ee (at2 L k) = x2 at *
    generalize L.map ee = PP at *
    generalize (k : Int) = z at *
    simp [f_is_ascending_e1, setS, j1, i2, cl, wipeE]
  have hall := all_bls (fun k => ltE (at2 L k) (at2 L (k + 1))) (List.range (L.length - 1))
  have q1 : ((List.range (L.length - 1)).map fun k => PV.bl (ltE (at2 L k) (at2 L (k + 1)))).length < 16777216 := by
    rw [List.length_map, List.length_range]; omega
  rw [df_is_ascending]
  unfold ascB
  generalize ((List.range (L.length - 1)).map fun k => PV.bl (ltE (at2 L k) (at2 L (k + 1)))) = BB at *
  generalize ((List.range (L.length - 1)).all fun k => ltE (at2 L k) (at2 L (k + 1))) = b at *
  generalize rangeL 0 (L.length - 1) = XS at *
  generalize (L.length : Int) = LL at *
  generalize L.map ee = PP at *
  simp [runT, f_is_ascending, startE, b1, hr, noOwn, wipeE, l1, backE, q1, hall, retE, outE]
theorem edges_of_all {s : Int × Int} : ∀ {l : List PV}, l.all (edgeB s) = true → ∃ L : List Ed, l = L.map ee
  | [], _ => ⟨[], rfl⟩
  | x :: l, h => by
    rw [List.all_cons, Bool.and_eq_true] at h
    obtain ⟨L, rfl⟩ := edges_of_all h.2
    have h1 := h.1
    unfold edgeB at h1
    cases hd : decE x with
    | none => rw [hd] at h1; cases h1
    | some e => exact ⟨e :: L, by rw [decE_some hd]; rfl⟩
def bareB (s : Int × Int) (v : PV) : Bool := match v with
  | .tup l => l.all (edgeB s) && ascB (l.map fun x => (decE x).getD ((0, 0, 0), (0, 0, 0)))
  | _ => false
theorem dec_map (L : List Ed) : (L.map ee).map (fun x => (decE x).getD ((0, 0, 0), (0, 0, 0))) = L := by
  rw [List.map_map]
  conv => rhs; rw [← List.map_id L]
  rfl
theorem bare_any {s : Int × Int} (hs : s ∈ sizes) {v : PV} (h : deepN 3 v) (hl : ∀ l, v = .tup l → l.length ≤ 10000) : d_is_bare.f [sz s, v] = some ⟨false, .bl (bareB s v), .non⟩ := by
  have b0 := isi1 (deep_noB h)
  by_cases ht : isTu v = true
  · obtain ⟨l, rfl⟩ := tup_of ht
    rw [ht] at b0
    have hx := h.2 l rfl
    have hl := hl l rfl
    have hseq : seqOf (.tup l) = some l := rfl
    have l1 : loopC (stepF T_is_bare f_is_bare_e1 (.name 2) .nil [2]) l [.sh (sz s), .sh (.tup l), .none] = some (l.map (fun x => PV.bl (edgeB s x)), [.sh (sz s), .sh (.tup l), .none]) := by
      refine loopC_map _ fun x hx' => ?_
      have w := fun ρ => callD_sh (d := d_is_edge) (rs := [.sh (sz s), .sh x]) (ρ := ρ) rfl rfl rfl (edge_any hs (hx x hx'))
      rw [stepF_eq]
      generalize sz s = S at *
      generalize PV.tup l = PP at *
      generalize edgeB s x = b at *
      simp [f_is_bare_e1, setS, w, wipeE]
    have hall := all_bls (edgeB s) l
    have q1 : (l.map fun x => PV.bl (edgeB s x)).length < 16777216 := by rw [List.length_map]; omega
    rw [df_is_bare]
    cases ha : l.all (edgeB s) with
    | false =>
      have e : bareB s (.tup l) = false := by unfold bareB; simp only; rw [ha]; rfl
      rw [e]
      rw [ha] at hall
      generalize (l.map fun x => PV.bl (edgeB s x)) = BB at *
      generalize PV.tup l = PP at *
      generalize sz s = S at *
      simp [runT, f_is_bare, startE, b0, hseq, noOwn, wipeE, l1, backE, q1, hall, retE, outE]
    | true =>
      obtain ⟨L, rfl⟩ := edges_of_all ha
      have e : bareB s (.tup (L.map ee)) = ascB L := by unfold bareB; simp only; rw [ha, dec_map]; rfl
      rw [e]
      rw [ha] at hall
      rw [List.length_map] at hl
      have ca := fun ρ => callD_sh (d := d_is_ascending) (rs := [.sh (.tup (L.map ee))]) (ρ := ρ) rfl rfl rfl (asc_ok (L := L) hl)
      generalize ((L.map ee).map fun x => PV.bl (edgeB s x)) = BB at *
      generalize ascB L = b at *
      generalize PV.tup (L.map ee) = PP at *
      generalize sz s = S at *
      simp [runT, f_is_bare, startE, b0, hseq, noOwn, wipeE, l1, backE, q1, hall, ca, retE, outE]
  · rw [Bool.eq_false_iff.mpr ht] at b0
    have e : bareB s v = false := by cases v <;> first | rfl | exact absurd rfl ht
    rw [e, df_is_bare]
    generalize sz s = S at *
    simp [runT, f_is_bare, startE, b0, retE, outE]
/-! the law's -/
theorem one_loop (s : Int × Int) {x : PV} (h : deepN 2 x) (s0 s1 s2 : Slot) : loopC (stepF T__law_is_bare f__law_is_bare_e2 (.name 4) f__law_is_bare_c1 [4]) ((EL s).map ee) [s0, s1, s2, .sh x, .none] = some (((EL s).filter (fun e => decide (decE x = some e))).map ee, [s0, s1, s2, .sh x, .none]) := by
  refine loopC_filtI _ (fun e => decide (decE x = some e)) _ fun e he => ?_
  have w := fun ρ => callD_sh (d := d__law_same 8) (rs := [.sh x, .sh (ee e)]) (ρ := ρ) rfl rfl rfl (same_E 5 h e)
  rw [stepF_eq]
  generalize decide (decE x = some e) = b at *
  generalize ee e = E at *
  cases b <;> simp [f__law_is_bare_e2, f__law_is_bare_c1, setS, w, wipeE]
theorem el_count (s : Int × Int) (x : PV) : cmpB .eq (.int (((EL s).filter (fun e => decide (decE x = some e))).length : Nat)) (.int 0) = some (!edgeB s x) := by
  rw [show ((0 : Int)) = ((0 : Nat) : Int) from rfl, len_eqk]
  congr 1
  unfold edgeB
  cases hd : decE x with
  | none => simp
  | some e =>
    simp only
    rw [← decide_not]
    refine decide_eq_decide.mpr ?_
    rw [List.length_eq_zero_iff, List.filter_eq_nil_iff]
    constructor
    · intro h he
      exact absurd (by simp) (h e he)
    · intro h a ha hc
      simp only [Option.some.injEq, decide_eq_true_eq] at hc
      exact h (hc ▸ ha)
theorem el_len {s : Int × Int} (hs : s ∈ sizes) : (EL s).length ≤ 100 := by
  have : (sizes.all fun s => decide ((EL s).length ≤ 100)) = true := by decide +kernel
  exact of_decide_eq_true (List.all_eq_true.mp this s hs)
def Sl2 (s : Slot) (v : PV) : Prop := s = .own v ∨ s = .sh v
theorem item_step {s : Int × Int} (hs : s ∈ sizes) {x : PV} (h : deepN 2 x) (s0 s1 s2 : Slot) (h2 : Sl2 s2 (.lst ((EL s).map ee))) : stepF T__law_is_bare f__law_is_bare_e1 (.name 3) f__law_is_bare_c2 [3] x [s0, s1, s2, .none, .none] = some (if !edgeB s x then some x else none, [s0, s1, .sh (.lst ((EL s).map ee)), .none, .none]) := by
  have hl := one_loop s h s0 s1 (.sh (.lst ((EL s).map ee)))
  have hseq : ∀ l, seqOf (.lst l) = some l := fun _ => rfl
  have b1 := len_lst (((EL s).filter (fun e => decide (decE x = some e))).map ee)
  rw [List.length_map] at b1
  have c1 := el_count s x
  have q1 : (((EL s).filter (fun e => decide (decE x = some e))).map ee).length < 16777216 := by
    have h1 := List.length_filter_le (fun e => decide (decE x = some e)) (EL s)
    have h2 := el_len hs
    rw [List.length_map]; omega
  rw [stepF_eq]
  generalize ((EL s).filter (fun e => decide (decE x = some e))).map ee = FF at *
  generalize (((EL s).filter (fun e => decide (decE x = some e))).length : Int) = LF at *
  generalize edgeB s x = b at *
  generalize (EL s).map ee = EE at *
  cases b <;> rcases h2 with rfl | rfl <;> simp [f__law_is_bare_e1, f__law_is_bare_c2, setS, hseq, noOwn, hl, backE, wipeE, q1, b1, c1, fz]
theorem item_loop {s : Int × Int} (hs : s ∈ sizes) (s0 s1 : Slot) : ∀ (l : List PV), (∀ x ∈ l, deepN 2 x) → ∀ s2 : Slot, Sl2 s2 (.lst ((EL s).map ee)) → ∃ t2, loopC (stepF T__law_is_bare f__law_is_bare_e1 (.name 3) f__law_is_bare_c2 [3]) l [s0, s1, s2, .none, .none] = some (l.filter (fun x => !edgeB s x), [s0, s1, t2, .none, .none])
  | [], _, s2, _ => ⟨s2, rfl⟩
  | x :: l, h, s2, h2 => by
    obtain ⟨t2, ht⟩ := item_loop hs s0 s1 l (fun y hy => h y (List.mem_cons_of_mem _ hy)) (.sh (.lst ((EL s).map ee))) (.inr rfl)
    refine ⟨t2, ?_⟩
    rw [loopC_cons, item_step hs (h x List.mem_cons_self) s0 s1 s2 h2]
    simp only [ht, List.filter_cons]
    cases edgeB s x <;> rfl

theorem eqvL_ee : ∀ L M : List Ed, eqvL (L.map ee) (M.map ee) = decide (L = M)
  | [], [] => rfl
  | [], _ :: _ => rfl
  | _ :: _, [] => rfl
  | x :: L, y :: M => by
    have h : eqvL ((x :: L).map ee) ((y :: M).map ee) = (eqv (ee x) (ee y) && eqvL (L.map ee) (M.map ee)) := rfl
    rw [h, eqv_ee, eqvL_ee L M]
    by_cases h1 : x = y <;> by_cases h2 : L = M <;> simp [h1, h2]
theorem eq_lsts (L M : List Ed) : cmpB .eq (.lst (L.map ee)) (.lst (M.map ee)) = some (decide (L = M)) := by
  have h1 : plain (.lst (L.map ee)) = true := plain_lst Me L
  have h2 : plain (.lst (M.map ee)) = true := plain_lst Me M
  have e : (if (plain (.lst (L.map ee)) && plain (.lst (M.map ee))) = true then some (eqv (.lst (L.map ee)) (.lst (M.map ee))) else if rpEq (.lst (L.map ee)) (.lst (M.map ee)) then some true else none) = some (decide (L = M)) := by
    rw [if_pos (by rw [h1, h2]; rfl)]
    have h3 : eqv (.lst (L.map ee)) (.lst (M.map ee)) = eqvL (L.map ee) (M.map ee) := rfl
    rw [h3, eqvL_ee]
  exact e
theorem law_bare {s : Int × Int} (hs : s ∈ sizes) {v : PV} (h : deepN 3 v) (hl : ∀ l, v = .tup l → l.length ≤ 1000) : d__law_is_bare.f [sz s, v] = some ⟨false, .bl (bareB s v), .non⟩ := by
  have b0 := isi1 (deep_noB h)
  have ce := edges_ok hs
  have hpe : pureL (.lst ((EL s).map ee)) = true := by
    show ((EL s).map ee).all pureV = true
    rw [List.all_eq_true]; intro y hy; obtain ⟨z, _, rfl⟩ := List.mem_map.mp hy; rfl
  by_cases ht : isTu v = true
  · obtain ⟨l, rfl⟩ := tup_of ht
    rw [ht] at b0
    have hx := h.2 l rfl
    have hl := hl l rfl
    have hseq : seqOf (.tup l) = some l := rfl
    obtain ⟨t2, l1⟩ := item_loop hs (.sh (sz s)) (.sh (.tup l)) l hx (.own (.lst ((EL s).map ee))) (.inl rfl)
    have b3 := len_lst (l.filter fun x => !edgeB s x)
    have c2 := gt_zero (l.filter fun x => !edgeB s x).length
    have q1 : (l.filter fun x => !edgeB s x).length < 16777216 := by
      have := List.length_filter_le (fun x => !edgeB s x) l
      omega
    rw [filt_all] at c2
    rw [df__law_is_bare]
    cases ha : l.all (edgeB s) with
    | false =>
      have e : bareB s (.tup l) = false := by unfold bareB; simp only; rw [ha]; rfl
      rw [e]
      rw [ha] at c2
      generalize (l.filter fun x => !edgeB s x) = FF at *
      generalize (FF.length : Int) = LF at *
      generalize PV.tup l = PP at *
      generalize (EL s).map ee = EE at *
      generalize sz s = S at *
      simp [runT, f__law_is_bare, startE, callD, ce, hpe, setS, b0, hseq, noOwn, wipeE, l1, backE, q1, b3, c2, retE, outE]
    | true =>
      obtain ⟨L, rfl⟩ := edges_of_all ha
      have e : bareB s (.tup (L.map ee)) = ascB L := by unfold bareB; simp only; rw [ha, dec_map]; rfl
      rw [e, ← asc_eq]
      rw [ha] at c2
      rw [List.length_map] at hl
      have bl : bi1 .list [.tup (L.map ee)] = some (.own (.lst (L.map ee))) := rfl
      have cs : cset true (.tup (L.map ee)) = some (.own (.lst ((SS Me L).map ee))) := cset_M Me L (by omega)
      have cq := eq_lsts L (SS Me L)
      generalize ((L.map ee).filter fun x => !edgeB s x) = FF at *
      generalize (FF.length : Int) = LF at *
      generalize decide (L = SS Me L) = b at *
      generalize (SS Me L).map ee = SL at *
      generalize PV.tup (L.map ee) = PP at *
      generalize L.map ee = LL at *
      generalize (EL s).map ee = EE at *
      generalize sz s = S at *
      simp [runT, f__law_is_bare, startE, callD, ce, hpe, setS, b0, hseq, noOwn, wipeE, l1, backE, q1, b3, c2, bl, cs, cq, retE, outE]
  · rw [Bool.eq_false_iff.mpr ht] at b0
    have e : bareB s v = false := by cases v <;> first | rfl | exact absurd rfl ht
    rw [e, df__law_is_bare]
    generalize (EL s).map ee = EE at *
    generalize sz s = S at *
    simp [runT, f__law_is_bare, startE, callD, ce, hpe, setS, b0, retE, outE]

/-! ### patterns -/
def pairB (v : PV) : Bool := match v with
  | .tup l => decide (l.length = 2)
  | _ => false
def pp (q : PV × PV) : PV := .tup [q.1, q.2]
def amB (v : PV) : Bool := match v with
  | .str t => decide (t = [109]) || decide (t = [118])
  | _ => false
theorem pairs_of_all : ∀ {l : List PV}, l.all pairB = true → ∃ Q : List (PV × PV), l = Q.map pp
  | [], _ => ⟨[], rfl⟩
  | x :: l, h => by
    rw [List.all_cons, Bool.and_eq_true] at h
    obtain ⟨Q, rfl⟩ := pairs_of_all h.2
    have h1 := h.1
    cases x with
    | tup m =>
      have h1 : m.length = 2 := of_decide_eq_true h1
      match m, h1 with
      | [a, b], _ => exact ⟨(a, b) :: Q, rfl⟩
    | _ => cases h1
def patB (s : Int × Int) (v : PV) : Bool := match v with
  | .tup l => l.all pairB && ((l.all fun x => match x with | .tup [_, y] => amB y | _ => false) && bareB s (.tup (l.map fun x => match x with | .tup [x, _] => x | _ => .non)))
  | _ => false
theorem patB_pp (s : Int × Int) (Q : List (PV × PV)) : patB s (.tup (Q.map pp)) = ((Q.all fun q => amB q.2) && bareB s (.tup (Q.map fun q => q.1))) := by
  unfold patB
  simp only
  have h1 : (Q.map pp).all pairB = true := by
    rw [List.all_eq_true]; intro y hy; obtain ⟨z, _, rfl⟩ := List.mem_map.mp hy; rfl
  rw [h1, Bool.true_and, List.all_map, List.map_map]
  rfl
theorem patB_no {s : Int × Int} {l : List PV} (h : l.all pairB = false) : patB s (.tup l) = false := by
  unfold patB; simp only; rw [h]; rfl
def KV : PV := .tup [.str [109], .str [118]]
theorem am_in (t : List Nat) : cmpB .inn (.str t) KV = some (decide (t = [109]) || decide (t = [118])) := by
  have e : cmpB .inn (.str t) KV = some (memV (.str t) [.str [109], .str [118]]) := rfl
  rw [e]
  have e2 : memV (.str t) [.str [109], .str [118]] = (decide ([109] = t) || (decide ([118] = t) || false)) := rfl
  rw [e2, Bool.or_false]
  congr 2 <;> exact decide_eq_decide.mpr eq_comm
theorem am_nin (t : List Nat) : cmpB .nin (.str t) KV = some (!(decide (t = [109]) || decide (t = [118]))) := by
  have e : cmpB .nin (.str t) KV = some (!memV (.str t) [.str [109], .str [118]]) := rfl
  rw [e]
  have e2 : memV (.str t) [.str [109], .str [118]] = (decide ([109] = t) || (decide ([118] = t) || false)) := rfl
  rw [e2, Bool.or_false]
  congr 3 <;> exact decide_eq_decide.mpr eq_comm
def isStr : PV → Bool
  | .str _ => true
  | _ => false
theorem isi3 {v : PV} (h : noB v) : bi1 (.isi [3]) [v] = some (.sh (.bl (isStr v))) := by
  cases v <;> first | rfl | exact absurd h id
theorem among_ok {v : PV} (h : noB v) : d_is_among.f [v, KV] = some ⟨false, .bl (amB v), .non⟩ := by
  have b0 := isi3 h
  rw [df_is_among]
  cases hs : isStr v with
  | false =>
    have e : amB v = false := by cases v <;> first | rfl | (cases hs; done)
    rw [hs] at b0
    rw [e]
    generalize KV = K at *
    simp [runT, f_is_among, startE, b0, retE, outE]
  | true =>
    cases v <;> first | (cases hs; done) | skip
    case str t =>
      have ci := am_in t
      rw [hs] at b0
      show _ = (some ⟨false, .bl (decide (t = [109]) || decide (t = [118])), .non⟩ : Option Ret)
      generalize (decide (t = [109]) || decide (t = [118])) = b at *
      generalize KV = K at *
      generalize PV.str t = T at *
      simp [runT, f_is_among, startE, b0, ci, retE, outE]
theorem bare_of_ok {Q : List (PV × PV)} (hl : Q.length ≤ 10000) : d_bare_of.f [.tup (Q.map pp)] = some ⟨false, .tup (Q.map fun q => q.1), .non⟩ := by
  have hseq : seqOf (.tup (Q.map pp)) = some (Q.map pp) := rfl
  have l1 : loopC (stepF T_bare_of f_bare_of_e1 (.tup [(.name 1), (.name 2)]) .nil [1, 2]) (Q.map pp) [.sh (.tup (Q.map pp)), .none, .none] = some (Q.map (fun q => q.1), [.sh (.tup (Q.map pp)), .none, .none]) := by
    refine loopC_mapI _ _ fun q hq => ?_
    have e : pp q = .tup [q.1, q.2] := rfl
    rw [stepF_eq, e]
    generalize PV.tup (Q.map pp) = PP at *
    generalize q.1 = x at *
    generalize q.2 = y at *
    simp [f_bare_of_e1, setS, wipeE]
  have q1 : (Q.map fun q => q.1).length < 16777216 := by rw [List.length_map]; omega
  have bt : bi1 .tuple [.lst (Q.map fun q => q.1)] = some (.sh (.tup (Q.map fun q => q.1))) := rfl
  rw [df_bare_of]
  generalize PV.tup (Q.map fun q => q.1) = RR at *
  generalize (Q.map fun q => q.1) = LL at *
  generalize Q.map pp = MM at *
  generalize PV.tup MM = PP at *
  simp [runT, f_bare_of, startE, hseq, noOwn, wipeE, l1, backE, q1, bt, retE, outE]
theorem pair_val {v : PV} (h : noB v) (T : Tab) (ρ : Env) (hs : slotAt ρ 2 = .sh v) : ev T f_is_pattern_e2 ρ = some (.sh (.bl (pairB v)), ρ) := by
  have b0 := isi1 h
  unfold f_is_pattern_e2
  by_cases ht : isTu v = true
  · obtain ⟨l, rfl⟩ := tup_of ht
    rw [ht] at b0
    have b1 := len_tup l
    have c1 : cmpB .eq (.int (l.length : Nat)) (.int 2) = some (decide (l.length = 2)) := len_eqk _ 2
    show _ = some (Py.R.sh (.bl (decide (l.length = 2))), ρ)
    generalize decide (l.length = 2) = b at *
    generalize (l.length : Int) = L at *
    generalize PV.tup l = PP at *
    simp [hs, b0, b1, c1]
  · rw [Bool.eq_false_iff.mpr ht] at b0
    have e : pairB v = false := by cases v <;> first | rfl | exact absurd rfl ht
    rw [e]
    simp [hs, b0]
theorem pattern_any {s : Int × Int} (hs : s ∈ sizes) {v : PV} (h : deepN 4 v) (hl : ∀ l, v = .tup l → l.length ≤ 1000) : d_is_pattern.f [sz s, v] = some ⟨false, .bl (patB s v), .non⟩ := by
  have b0 := isi1 (deep_noB h)
  by_cases ht : isTu v = true
  · obtain ⟨l, rfl⟩ := tup_of ht
    rw [ht] at b0
    have hx := h.2 l rfl
    have hl := hl l rfl
    have hseq : seqOf (.tup l) = some l := rfl
    have l1 : loopC (stepF T_is_pattern f_is_pattern_e2 (.name 2) .nil [2]) l [.sh (sz s), .sh (.tup l), .none] = some (l.map (fun x => PV.bl (pairB x)), [.sh (sz s), .sh (.tup l), .none]) := by
      refine loopC_map _ fun x hx' => ?_
      have w := pair_val (deep_noB (hx x hx')) T_is_pattern [.sh (sz s), .sh (.tup l), .sh x] rfl
      rw [stepF_eq]
      generalize sz s = S at *
      generalize PV.tup l = PP at *
      generalize pairB x = b at *
      simp [setS, w, wipeE]
    have hall := all_bls pairB l
    have q1 : (l.map fun x => PV.bl (pairB x)).length < 16777216 := by rw [List.length_map]; omega
    rw [df_is_pattern]
    cases ha : l.all pairB with
    | false =>
      rw [patB_no ha]
      rw [ha] at hall
      generalize (l.map fun x => PV.bl (pairB x)) = BB at *
      generalize PV.tup l = PP at *
      generalize sz s = S at *
      simp [runT, f_is_pattern, startE, b0, hseq, noOwn, wipeE, l1, backE, q1, hall, retE, outE]
    | true =>
      obtain ⟨Q, rfl⟩ := pairs_of_all ha
      rw [patB_pp]
      rw [ha] at hall
      rw [List.length_map] at hl
      have hq : ∀ q ∈ Q, deepN 2 q.1 ∧ noB q.2 := fun q hq => by
        have h3 := hx (pp q) (List.mem_map.mpr ⟨q, hq, rfl⟩)
        have h4 := h3.2 [q.1, q.2] rfl
        exact ⟨h4 q.1 (by simp), deep_noB (h4 q.2 (by simp))⟩
      have hg : T_is_pattern.glob 0 = some KV := rfl
      have l2 : loopC (stepF T_is_pattern f_is_pattern_e1 (.name 2) .nil [2]) (Q.map pp) [.sh (sz s), .sh (.tup (Q.map pp)), .none] = some (Q.map (fun q => PV.bl (amB q.2)), [.sh (sz s), .sh (.tup (Q.map pp)), .none]) := by
        refine loopC_mapI _ _ fun q hqq => ?_
        have w := fun ρ => callD_sh (d := d_is_among) (rs := [.sh q.2, .sh KV]) (ρ := ρ) rfl rfl rfl (among_ok (hq q hqq).2)
        have i1 : ix2 (pp q) (.int 1) = some (.sh q.2) := rfl
        rw [stepF_eq]
        generalize sz s = S at *
        generalize PV.tup (Q.map pp) = PP at *
        generalize amB q.2 = b at *
        generalize q.2 = y at *
        generalize pp q = P at *
        generalize KV = K at *
        simp [f_is_pattern_e1, setS, i1, hg, w, wipeE]
      have hall2 := all_bls (fun q : PV × PV => amB q.2) Q
      have q2 : (Q.map fun q => PV.bl (amB q.2)).length < 16777216 := by rw [List.length_map]; omega
      have cb := fun ρ => callD_sh (d := d_bare_of) (rs := [.sh (.tup (Q.map pp))]) (ρ := ρ) rfl rfl rfl (bare_of_ok (Q := Q) (by omega))
      have hd : deepN 3 (.tup (Q.map fun q => q.1)) := ⟨trivial, fun m e x hm => by
        obtain rfl := PV.tup.inj e
        obtain ⟨q, hqq, rfl⟩ := List.mem_map.mp hm
        exact (hq q hqq).1⟩
      have cc := fun ρ => callD_sh (d := d_is_bare) (rs := [.sh (sz s), .sh (.tup (Q.map fun q => q.1))]) (ρ := ρ) rfl rfl rfl (bare_any hs hd (fun m e => by
        obtain rfl := PV.tup.inj e
        rw [List.length_map]; omega))
      generalize bareB s (.tup (Q.map fun q => q.1)) = b2 at *
      generalize (Q.all fun q => amB q.2) = b1 at *
      generalize PV.tup (Q.map fun q => q.1) = BT at *
      generalize (Q.map fun q => PV.bl (amB q.2)) = B2 at *
      generalize ((Q.map pp).map fun x => PV.bl (pairB x)) = BB at *
      generalize Q.map pp = MM at *
      generalize PV.tup MM = PP at *
      generalize sz s = S at *
      cases b1 <;> simp [runT, f_is_pattern, startE, b0, hseq, noOwn, wipeE, l1, l2, backE, q1, q2, hall, hall2, cb, cc, retE, outE]
  · rw [Bool.eq_false_iff.mpr ht] at b0
    have e : patB s v = false := by cases v <;> first | rfl | exact absurd rfl ht
    rw [e, df_is_pattern]
    generalize sz s = S at *
    simp [runT, f_is_pattern, startE, b0, retE, outE]

/-! ### one turn of the law -/
abbrev E14 (s0 s1 s2 s3 s4 s5 s6 s7 s8 s9 s10 s11 s12 s13 : Slot) : Env := [s0, s1, s2, s3, s4, s5, s6, s7, s8, s9, s10, s11, s12, s13]
section
variable (s0 s1 s2 s3 s4 s5 s6 s7 s8 s9 s10 s11 s12 : Slot)
theorem c2_loop {l : List PV} (h : ∀ x ∈ l, noB x) : loopC (stepF T_law f_law_e5 (.name 13) f_law_c2 [13]) l (E14 s0 s1 s2 s3 s4 s5 s6 s7 s8 s9 s10 s11 s12 .none) = some (l.filter (fun x => !pairB x), E14 s0 s1 s2 s3 s4 s5 s6 s7 s8 s9 s10 s11 s12 .none) := by
  have := loopC_filtI (step := stepF T_law f_law_e5 (.name 13) f_law_c2 [13]) (ρ := E14 s0 s1 s2 s3 s4 s5 s6 s7 s8 s9 s10 s11 s12 .none) (fun x => x) (fun x => !pairB x) (fun x => x) (xs := l) (fun v hv => by
    have b0 := isi1 (h v hv)
    rw [stepF_eq]
    by_cases ht : isTu v = true
    · obtain ⟨m, rfl⟩ := tup_of ht
      rw [ht] at b0
      have b1 := len_tup m
      have c1 : cmpB .ne (.int (m.length : Nat)) (.int 2) = some (!decide (m.length = 2)) := len_nek _ 2
      have e : pairB (.tup m) = decide (m.length = 2) := rfl
      rw [e]
      generalize decide (m.length = 2) = b at *
      generalize (m.length : Int) = L at *
      generalize PV.tup m = P at *
      cases b <;> simp [f_law_e5, f_law_c2, setS, b0, b1, c1, wipeE]
    · rw [Bool.eq_false_iff.mpr ht] at b0
      have e : pairB v = false := by cases v <;> first | rfl | exact absurd rfl ht
      rw [e]
      simp [f_law_e5, f_law_c2, setS, b0, wipeE])
  rw [List.map_id'] at this
  rw [this, List.map_id']
theorem c3_loop {Q : List (PV × PV)} (h : ∀ q ∈ Q, noB q.2) : loopC (stepF T_law f_law_e7 (.name 13) f_law_c3 [13]) (Q.map pp) (E14 s0 s1 s2 s3 s4 s5 s6 s7 s8 s9 s10 s11 s12 .none) = some ((Q.filter (fun q => !amB q.2)).map pp, E14 s0 s1 s2 s3 s4 s5 s6 s7 s8 s9 s10 s11 s12 .none) := by
  refine loopC_filtI _ (fun q : PV × PV => !amB q.2) _ fun q hq => ?_
  have hn := h q hq
  have b0 := isi3 hn
  have i1 : ix2 (pp q) (.int 1) = some (.sh q.2) := rfl
  rw [stepF_eq]
  generalize q.2 = y at *
  generalize pp q = P at *
  cases hs : isStr y with
  | false =>
    have e : amB y = false := by cases y <;> first | rfl | (cases hs; done)
    rw [hs] at b0
    rw [e]
    simp [f_law_e7, f_law_c3, setS, i1, b0, wipeE]
  | true =>
    cases y <;> first | (cases hs; done) | skip
    case str t =>
      have ci := am_nin t
      have e : amB (.str t) = (decide (t = [109]) || decide (t = [118])) := rfl
      rw [hs] at b0
      rw [e]
      unfold KV at ci
      generalize (decide (t = [109]) || decide (t = [118])) = b at *
      generalize PV.str t = T at *
      cases b <;> simp [f_law_e7, f_law_c3, setS, i1, b0, ci, wipeE]
theorem e6_loop (Q : List (PV × PV)) : loopC (stepF T_law f_law_e6 (.name 13) .nil [13]) (Q.map pp) (E14 s0 s1 s2 s3 s4 s5 s6 s7 s8 s9 s10 s11 s12 .none) = some (Q.map (fun q => q.1), E14 s0 s1 s2 s3 s4 s5 s6 s7 s8 s9 s10 s11 s12 .none) := by
  refine loopC_mapI _ _ fun q hq => ?_
  have i1 : ix2 (pp q) (.int 0) = some (.sh q.1) := rfl
  rw [stepF_eq]
  generalize q.1 = y at *
  generalize pp q = P at *
  simp [f_law_e6, setS, i1, wipeE]
end
section
variable (s0 s1 s3 s4 s5 s6 s7 s12 : Slot)
theorem turn_ok {s : Int × Int} (hs : s ∈ sizes) {v : PV} (h : deepN 4 v) (hl : ∀ l, v = .tup l → l.length ≤ 1000) (r1 : rpr1 v = some (.sh (.set [.non, v]))) (r2 : cmpB .ne (.set [.non, v]) (.set [.non, v]) = some false) (s9 s10 s11 : Slot) : ∃ t11, exs T_law fuel f_law_l1 (E14 s0 s1 (.sh (sz s)) s3 s4 s5 s6 s7 (.sh v) s9 s10 s11 s12 .none) = some (.nx (E14 s0 s1 (.sh (sz s)) s3 s4 s5 s6 s7 (.sh v) (.own (.lst [.bl (bareB s v), .bl (patB s v)])) (.sh (.set [.non, v])) t11 s12 .none)) := by
  have h3 : deepN 3 v := by
    refine ⟨deep_noB h, fun l e x hx => ?_⟩
    have g := h.2 l e x hx
    exact ⟨g.1, fun m em y hy => ⟨(g.2 m em y hy).1, fun k ek z hz => deep_noB ((g.2 m em y hy).2 k ek z hz)⟩⟩
  have f1 := fun ρ => callD_sh (d := d__law_is_bare) (rs := [.sh (sz s), .sh v]) (ρ := ρ) rfl rfl rfl (law_bare hs h3 hl)
  have f2 := fun ρ => callD_sh (d := d_is_bare) (rs := [.sh (sz s), .sh v]) (ρ := ρ) rfl rfl rfl (bare_any hs h3 (fun l e => Nat.le_trans (hl l e) (by decide)))
  have f3 := fun ρ => callD_sh (d := d_is_pattern) (rs := [.sh (sz s), .sh v]) (ρ := ρ) rfl rfl rfl (pattern_any hs h hl)
  have b0 := isi1 (deep_noB h)
  have sm := same8 (v := .lst [.bl (bareB s v), .bl (patB s v)]) rfl
  have hsame : ∀ a b : Slot, callD (d__law_same 8) [.sh (.lst [.bl (bareB s v), .bl (patB s v)]), .slot 9] (E14 s0 s1 (.sh (sz s)) s3 s4 s5 s6 s7 (.sh v) (.own (.lst [.bl (bareB s v), .bl (patB s v)])) a b s12 .none) = some (.sh (.bl true), E14 s0 s1 (.sh (sz s)) s3 s4 s5 s6 s7 (.sh v) (.own (.lst [.bl (bareB s v), .bl (patB s v)])) a b s12 .none) := fun a b => by
    generalize sz s = S at *
    simp [callD, sm]
  by_cases ht : isTu v = true
  · obtain ⟨l, rfl⟩ := tup_of ht
    rw [ht] at b0
    have hx := h.2 l rfl
    have hl := hl l rfl
    have hseq : seqOf (.tup l) = some l := rfl
    have b3 := len_lst (l.filter fun x => !pairB x)
    have c2 := eq_zero pairB l
    have q1 : (l.filter fun x => !pairB x).length < 16777216 := by
      have := List.length_filter_le (fun x => !pairB x) l
      omega
    have l1 := c2_loop s0 s1 (.sh (sz s)) s3 s4 s5 s6 s7 (.sh (.tup l)) (.own (.lst [.bl (bareB s (.tup l)), .bl false])) s10 s11 s12 (l := l) (fun x hx' => deep_noB (hx x hx'))
    cases ha : l.all pairB with
    | false =>
      refine ⟨s11, ?_⟩
      rw [patB_no ha] at *
      rw [ha] at c2
      generalize (l.filter fun x => !pairB x) = FF at *
      generalize (FF.length : Int) = LF at *
      generalize bareB s (.tup l) = b1 at *
      generalize PV.set [.non, .tup l] = K at *
      generalize PV.tup l = PP at *
      generalize sz s = S at *
      simp [f_law_l1, f1, f2, f3, b0, hseq, noOwn, wipeE, l1, backE, q1, b3, c2, setS, r1, r2, hsame]
    | true =>
      obtain ⟨Q, rfl⟩ := pairs_of_all ha
      refine ⟨.sh (.bl (Q.all fun q => amB q.2)), ?_⟩
      rw [ha] at c2
      rw [List.length_map] at hl
      have hq : ∀ q ∈ Q, deepN 2 q.1 ∧ noB q.2 := fun q hq => by
        have h3 := hx (pp q) (List.mem_map.mpr ⟨q, hq, rfl⟩)
        have h4 := h3.2 [q.1, q.2] rfl
        exact ⟨h4 q.1 (by simp), deep_noB (h4 q.2 (by simp))⟩
      have l2 := c3_loop s0 s1 (.sh (sz s)) s3 s4 s5 s6 s7 (.sh (.tup (Q.map pp))) (.own (.lst [.bl (bareB s (.tup (Q.map pp))), .bl false])) s10 s11 s12 (Q := Q) (fun q hqq => (hq q hqq).2)
      have b4 := len_lst ((Q.filter fun q => !amB q.2).map pp)
      rw [List.length_map] at b4
      have c4 := eq_zero (fun q : PV × PV => amB q.2) Q
      have q2 : ((Q.filter fun q => !amB q.2).map pp).length < 16777216 := by
        have := List.length_filter_le (fun q : PV × PV => !amB q.2) Q
        rw [List.length_map]; omega
      have l3 := e6_loop s0 s1 (.sh (sz s)) s3 s4 s5 s6 s7 (.sh (.tup (Q.map pp))) (.own (.lst [.bl (bareB s (.tup (Q.map pp))), .bl false])) s10 (.sh (.bl (Q.all fun q => amB q.2))) s12 Q
      have q3 : (Q.map fun q => q.1).length < 16777216 := by rw [List.length_map]; omega
      have bt : bi1 .tuple [.lst (Q.map fun q => q.1)] = some (.sh (.tup (Q.map fun q => q.1))) := rfl
      have hd : deepN 3 (.tup (Q.map fun q => q.1)) := ⟨trivial, fun m e x hm => by
        obtain rfl := PV.tup.inj e
        obtain ⟨q, hqq, rfl⟩ := List.mem_map.mp hm
        exact (hq q hqq).1⟩
      have cc := fun ρ => callD_sh (d := d__law_is_bare) (rs := [.sh (sz s), .sh (.tup (Q.map fun q => q.1))]) (ρ := ρ) rfl rfl rfl (law_bare hs hd (fun m e => by
        obtain rfl := PV.tup.inj e
        rw [List.length_map]; omega))
      rw [patB_pp] at *
      generalize bareB s (.tup (Q.map fun q => q.1)) = b2 at *
      generalize (Q.all fun q => amB q.2) = bg at *
      generalize PV.tup (Q.map fun q => q.1) = BT at *
      generalize (Q.map fun q => q.1) = BL at *
      generalize (Q.filter fun q => !amB q.2).map pp = F4 at *
      generalize ((Q.filter fun q => !amB q.2).length : Int) = L4 at *
      generalize ((Q.map pp).filter fun x => !pairB x) = FF at *
      generalize (FF.length : Int) = LF at *
      generalize bareB s (.tup (Q.map pp)) = b1 at *
      generalize PV.set [.non, .tup (Q.map pp)] = K at *
      generalize Q.map pp = MM at *
      generalize PV.tup MM = PP at *
      generalize sz s = S at *
      have ix1 : Py.ixN 2 1 = some 1 := rfl
      cases bg <;> simp only [Bool.false_and, Bool.true_and] at f3 hsame <;> simp [f_law_l1, f1, f2, f3, b0, hseq, noOwn, wipeE, l1, l2, l3, backE, q1, q2, q3, b3, b4, c2, c4, setS, bt, cc, fSet, ix1, r1, r2, hsame]
  · rw [Bool.eq_false_iff.mpr ht] at b0
    have e2 : patB s v = false := by cases v <;> first | rfl | exact absurd rfl ht
    refine ⟨s11, ?_⟩
    generalize patB s v = pb at *
    subst e2
    generalize bareB s v = b1 at *
    generalize PV.set [.non, v] = K at *
    generalize sz s = S at *
    simp [f_law_l1, f1, f2, f3, b0, setS, r1, r2, hsame]
end

/-! ### the law's start -/
theorem size_ok {p : PV} (hp : Pool p) : ∃ (s : Int × Int) (p' : PV), s ∈ sizes ∧ Pool p' ∧ d__law_size.f [p, .int 4] = some ⟨false, sz s, p'⟩ := by
  obtain ⟨w, p1, g1, g2, g3⟩ := draw_nat T__law_size (kd := 16) (i := 0) rfl (ρ := [.own p, .sh (.int 4), .sh (.tup ([((1 : Int), (1 : Int)), (1, 2), (2, 1), (1, 3), (3, 1), (2, 2), (1, 4), (4, 1), (2, 2), (1, 4), (2, 3), (3, 2), (3, 3), (1, 6), (6, 1), (2, 4)].map sz)), .none]) (e := .ite (.cmp .lt (.var 1) (.con (.int 5))) (.con (.int 10)) (.con (.int 16))) (m := 10) rfl rfl hp (by decide) (by decide)
  simp only [List.set_cons_zero] at g3
  have hw : w = 0 ∨ w = 1 ∨ w = 2 ∨ w = 3 ∨ w = 4 ∨ w = 5 ∨ w = 6 ∨ w = 7 ∨ w = 8 ∨ w = 9 := by omega
  obtain ⟨s, hs, hix, hm⟩ : ∃ s : Int × Int, s ∈ sizes ∧ ix2 (.tup ([((1 : Int), (1 : Int)), (1, 2), (2, 1), (1, 3), (3, 1), (2, 2), (1, 4), (4, 1), (2, 2), (1, 4), (2, 3), (3, 2), (3, 3), (1, 6), (6, 1), (2, 4)].map sz)) (.int (w : Int)) = some (.sh (sz s)) ∧ (s.1 * s.2 ≤ 4 ∧ bin2 .mul (.int s.1) (.int s.2) = some (.sh (.int (s.1 * s.2)))) := by
    rcases hw with (rfl | rfl | rfl | rfl | rfl | rfl | rfl | rfl | rfl | rfl)
    · exact ⟨(1, 1), by decide, rfl, by decide, rfl⟩
    · exact ⟨(1, 2), by decide, rfl, by decide, rfl⟩
    · exact ⟨(2, 1), by decide, rfl, by decide, rfl⟩
    · exact ⟨(1, 3), by decide, rfl, by decide, rfl⟩
    · exact ⟨(3, 1), by decide, rfl, by decide, rfl⟩
    · exact ⟨(2, 2), by decide, rfl, by decide, rfl⟩
    · exact ⟨(1, 4), by decide, rfl, by decide, rfl⟩
    · exact ⟨(4, 1), by decide, rfl, by decide, rfl⟩
    · exact ⟨(2, 2), by decide, rfl, by decide, rfl⟩
    · exact ⟨(1, 4), by decide, rfl, by decide, rfl⟩
  refine ⟨s, p1, hs, g1, ?_⟩
  have j0 : ix2 (sz s) (.int 0) = some (.sh (.int s.1)) := rfl
  have j1 : ix2 (sz s) (.int 1) = some (.sh (.int s.2)) := rfl
  have c1 : cmpB .gt (.int (s.1 * s.2)) (.int 4) = some false := by
    show some (decide ((4 : Int) < s.1 * s.2)) = _
    rw [decide_eq_false (by have := hm.1; omega)]
  have c2 : cmpB .gt (.int 4) (.int 20) = some false := rfl
  obtain ⟨_, hm⟩ := hm
  rw [df__law_size]
  have st : ∃ n, fuel = n + 1 := ⟨fuel - 1, by have := lt_fuel (n := 0) (by decide); omega⟩
  obtain ⟨n, hn⟩ := st
  have hsm : ([((1 : Int), (1 : Int)), (1, 2), (2, 1), (1, 3), (3, 1), (2, 2), (1, 4), (4, 1), (2, 2), (1, 4), (2, 3), (3, 2), (3, 3), (1, 6), (6, 1), (2, 4)].map sz) = [.tup [.int 1, .int 1], .tup [.int 1, .int 2], .tup [.int 2, .int 1], .tup [.int 1, .int 3], .tup [.int 3, .int 1], .tup [.int 2, .int 2], .tup [.int 1, .int 4], .tup [.int 4, .int 1], .tup [.int 2, .int 2], .tup [.int 1, .int 4], .tup [.int 2, .int 3], .tup [.int 3, .int 2], .tup [.int 3, .int 3], .tup [.int 1, .int 6], .tup [.int 6, .int 1], .tup [.int 2, .int 4]] := rfl
  rw [hsm] at g3 hix
  generalize sz s = S at *
  generalize s.1 * s.2 = M at *
  generalize s.1 = A at *
  generalize s.2 = B at *
  generalize (w : Int) = wi at *
  have hwl : ∀ ρ : Env, slotAt ρ 3 = .sh S → slotAt ρ 1 = .sh (.int 4) → loopW (tstF T__law_size f__law_size_w1) (exs T__law_size fuel f__law_size_l1) fuel ρ = some (.nx ρ) := fun ρ h3 h1 => by
    have ht : tstF T__law_size f__law_size_w1 ρ = some (false, ρ) := by
      show tstR (ev T__law_size f__law_size_w1 ρ) = _
      unfold f__law_size_w1
      simp [h3, h1, j0, j1, hm, c1]
    rw [hn, loopW, ht]
  have hwl' := hwl [.own p1, .sh (.int 4), .sh (.tup [.tup [.int 1, .int 1], .tup [.int 1, .int 2], .tup [.int 2, .int 1], .tup [.int 1, .int 3], .tup [.int 3, .int 1], .tup [.int 2, .int 2], .tup [.int 1, .int 4], .tup [.int 4, .int 1], .tup [.int 2, .int 2], .tup [.int 1, .int 4], .tup [.int 2, .int 3], .tup [.int 3, .int 2], .tup [.int 3, .int 3], .tup [.int 1, .int 6], .tup [.int 6, .int 1], .tup [.int 2, .int 4]]), .sh S] rfl rfl
  simp [runT, f__law_size, startE, setS, -ev_fn, g3, hix, hwl', c2, retE, outE]

section
variable (s0 s2 s3 s5 s6 s7 s8 s9 s10 s11 s12 s13 : Slot)
theorem bare_comp : ∀ (L : List Ed) (p : PV), Pool p → ∃ (B : List Ed) (p' : PV), (∀ e ∈ B, e ∈ L) ∧ B.length ≤ L.length ∧ Pool p' ∧ loopC (stepF T_law f_law_e1 (.name 4) f_law_c1 [4]) (L.map ee) (E14 s0 (.own p) s2 s3 .none s5 s6 s7 s8 s9 s10 s11 s12 s13) = some (B.map ee, E14 s0 (.own p') s2 s3 .none s5 s6 s7 s8 s9 s10 s11 s12 s13)
  | [], p, hp => ⟨[], p, fun e he => he, Nat.le_refl _, hp, rfl⟩
  | e :: L, p, hp => by
    obtain ⟨w, p1, g1, g2, g3⟩ := draw_nat T_law (kd := 16) (i := 1) rfl (ρ := E14 s0 (.own p) s2 s3 (.sh (ee e)) s5 s6 s7 s8 s9 s10 s11 s12 s13) (e := .con (.int 2)) (m := 2) rfl rfl hp (by decide) (by decide)
    change _ = some (Py.R.sh (.int (w : Nat)), E14 s0 (.own p1) s2 s3 (.sh (ee e)) s5 s6 s7 s8 s9 s10 s11 s12 s13) at g3
    obtain ⟨B, p', h1, h2, h3, h4⟩ := bare_comp L p1 g1
    have hw : w = 0 ∨ w = 1 := by omega
    rcases hw with rfl | rfl
    · refine ⟨e :: B, p', fun x hx => ?_, by simp; omega, h3, ?_⟩
      · rcases List.mem_cons.mp hx with rfl | hx
        · exact List.mem_cons_self
        · exact List.mem_cons_of_mem _ (h1 x hx)
      · have c0 : cmpB .eq (.int ((0 : Nat) : Int)) (.int 0) = some true := rfl
        have hst : stepF T_law f_law_e1 (.name 4) f_law_c1 [4] (ee e) (E14 s0 (.own p) s2 s3 .none s5 s6 s7 s8 s9 s10 s11 s12 s13) = some (some (ee e), E14 s0 (.own p1) s2 s3 .none s5 s6 s7 s8 s9 s10 s11 s12 s13) := by
          rw [stepF_eq]
          generalize ((0 : Nat) : Int) = z at *
          generalize ee e = x at *
          simp [f_law_e1, f_law_c1, setS, -ev_fn, g3, c0, wipeE]
        rw [List.map_cons, loopC_cons, hst]
        simp only [h4]
        rfl
    · refine ⟨B, p', fun x hx => List.mem_cons_of_mem _ (h1 x hx), by simp; omega, h3, ?_⟩
      have c0 : cmpB .eq (.int ((1 : Nat) : Int)) (.int 0) = some false := rfl
      have hst : stepF T_law f_law_e1 (.name 4) f_law_c1 [4] (ee e) (E14 s0 (.own p) s2 s3 .none s5 s6 s7 s8 s9 s10 s11 s12 s13) = some (none, E14 s0 (.own p1) s2 s3 .none s5 s6 s7 s8 s9 s10 s11 s12 s13) := by
        rw [stepF_eq]
        generalize ((1 : Nat) : Int) = z at *
        generalize ee e = x at *
        simp [f_law_e1, f_law_c1, setS, -ev_fn, g3, c0, wipeE]
      rw [List.map_cons, loopC_cons, hst]
      simp only [h4]
def lv (q : Ed × Nat) : PV := .tup [ee q.1, .str [q.2]]
theorem pat_comp : ∀ (L : List Ed) (p : PV), Pool p → ∃ (Q : List (Ed × Nat)) (p' : PV), Q.map Prod.fst = L ∧ Pool p' ∧ loopC (stepF T_law f_law_e2 (.name 4) .nil [4]) (L.map ee) (E14 s0 (.own p) s2 s3 .none s5 s6 s7 s8 s9 s10 s11 s12 s13) = some (Q.map lv, E14 s0 (.own p') s2 s3 .none s5 s6 s7 s8 s9 s10 s11 s12 s13)
  | [], p, hp => ⟨[], p, rfl, hp, rfl⟩
  | e :: L, p, hp => by
    obtain ⟨w, p1, g1, g2, g3⟩ := draw_nat T_law (kd := 16) (i := 1) rfl (ρ := E14 s0 (.own p) s2 s3 (.sh (ee e)) s5 s6 s7 s8 s9 s10 s11 s12 s13) (e := .con (.int 2)) (m := 2) rfl rfl hp (by decide) (by decide)
    change _ = some (Py.R.sh (.int (w : Nat)), E14 s0 (.own p1) s2 s3 (.sh (ee e)) s5 s6 s7 s8 s9 s10 s11 s12 s13) at g3
    obtain ⟨Q, p', h1, h3, h4⟩ := pat_comp L p1 g1
    obtain ⟨c, hc⟩ : ∃ c : Nat, ix2 (.tup [.str [109], .str [118]]) (.int (w : Nat)) = some (.sh (.str [c])) := by
      have hw : w = 0 ∨ w = 1 := by omega
      rcases hw with rfl | rfl
      · exact ⟨109, rfl⟩
      · exact ⟨118, rfl⟩
    refine ⟨(e, c) :: Q, p', by rw [List.map_cons, h1], h3, ?_⟩
    have hst : stepF T_law f_law_e2 (.name 4) .nil [4] (ee e) (E14 s0 (.own p) s2 s3 .none s5 s6 s7 s8 s9 s10 s11 s12 s13) = some (some (lv (e, c)), E14 s0 (.own p1) s2 s3 .none s5 s6 s7 s8 s9 s10 s11 s12 s13) := by
      rw [stepF_eq]
      show _ = some (some (PV.tup [ee e, .str [c]]), _)
      generalize PV.str [c] = y at *
      generalize (w : Int) = z at *
      generalize ee e = x at *
      simp [f_law_e2, setS, -ev_fn, g3, hc, wipeE]
    rw [List.map_cons, loopC_cons, hst]
    simp only [h4]
    rfl
end
theorem okV_tt (n : Nat) (z : T3) : okV (n + 1) (tt z) = true := by cases n <;> rfl
theorem okV_ee (n : Nat) (e : Ed) : okV (n + 2) (ee e) = true := by
  have h : (decide ((2 : Nat) ≤ 16777216) && (okV (n + 1) (tt e.1) && (okV (n + 1) (tt e.2) && true))) = true := by
    rw [okV_tt, okV_tt]; rfl
  exact h
section
variable (s0 s6 s7 s8 s9 s10 s11 s12 s13 : Slot)
theorem s3_ok {s : Int × Int} (hs : s ∈ sizes) {p : PV} (hp : Pool p) (s3 s5 : Slot) : ∃ (B : List Ed) (p' : PV), (∀ e ∈ B, e ∈ EL s) ∧ B.length ≤ (EL s).length ∧ Pool p' ∧ ex T_law fuel f_law_s3 (E14 s0 (.own p) (.sh (sz s)) s3 .none s5 s6 s7 s8 s9 s10 s11 s12 s13) = some (.nx (E14 s0 (.own p') (.sh (sz s)) (.sh (.tup (B.map ee))) .none s5 s6 s7 s8 s9 s10 s11 s12 s13)) := by
  obtain ⟨B, p', h1, h2, h3, h4⟩ := bare_comp s0 (.sh (sz s)) s3 s5 s6 s7 s8 s9 s10 s11 s12 s13 (EL s) p hp
  refine ⟨B, p', h1, h2, h3, ?_⟩
  have ce := edges_ok hs
  have hpe : pureL (.lst ((EL s).map ee)) = true := by
    show ((EL s).map ee).all pureV = true
    rw [List.all_eq_true]; intro y hy; obtain ⟨z, _, rfl⟩ := List.mem_map.mp hy; rfl
  have hseq : ∀ l, seqOf (.lst l) = some l := fun _ => rfl
  have bt : bi1 .tuple [.lst (B.map ee)] = some (.sh (.tup (B.map ee))) := rfl
  have q1 : (B.map ee).length < 16777216 := by
    have := el_len hs
    rw [List.length_map]; omega
  have cb : ∀ ρ : Env, callD d__law_edges [.sh (sz s)] ρ = some (.own (.lst ((EL s).map ee)), ρ) := fun ρ => by
    have := callD_sh (d := d__law_edges) (rs := [.sh (sz s)]) (ρ := ρ) rfl rfl rfl ce
    exact this
  generalize PV.tup (B.map ee) = BT at *
  generalize B.map ee = BL at *
  generalize (EL s).map ee = EE at *
  generalize sz s = S at *
  simp [f_law_s3, cb, hseq, noOwn, wipeE, h4, backE, q1, bt, setS]
theorem s4_ok {B : List Ed} (hl : B.length ≤ 1000) {p : PV} (hp : Pool p) (s2 s5 : Slot) : ∃ (Q : List (Ed × Nat)) (p' : PV), Q.map Prod.fst = B ∧ Pool p' ∧ ex T_law fuel f_law_s4 (E14 s0 (.own p) s2 (.sh (.tup (B.map ee))) .none s5 s6 s7 s8 s9 s10 s11 s12 s13) = some (.nx (E14 s0 (.own p') s2 (.sh (.tup (B.map ee))) .none (.sh (.tup (Q.map lv))) s6 s7 s8 s9 s10 s11 s12 s13)) := by
  obtain ⟨Q, p', h1, h3, h4⟩ := pat_comp s0 s2 (.sh (.tup (B.map ee))) s5 s6 s7 s8 s9 s10 s11 s12 s13 B p hp
  refine ⟨Q, p', h1, h3, ?_⟩
  have hseq : ∀ l, seqOf (.tup l) = some l := fun _ => rfl
  have bt : bi1 .tuple [.lst (Q.map lv)] = some (.sh (.tup (Q.map lv))) := rfl
  have q1 : (Q.map lv).length < 16777216 := by
    have : Q.length = B.length := by rw [← h1, List.length_map]
    rw [List.length_map]; omega
  generalize PV.tup (Q.map lv) = QT at *
  generalize Q.map lv = QL at *
  generalize B.map ee = BL at *
  simp [f_law_s4, hseq, noOwn, wipeE, h4, backE, q1, bt, setS]
theorem s5_ok {B : List Ed} {Q : List (Ed × Nat)} (hl : B.length ≤ 1000) (hq : Q.map Prod.fst = B) (s1 s2 s4 : Slot) : ex T_law fuel f_law_s5 (E14 s0 s1 s2 (.sh (.tup (B.map ee))) s4 (.sh (.tup (Q.map lv))) s6 s7 s8 s9 s10 s11 s12 s13) = some (.nx (E14 s0 s1 s2 (.sh (.tup (B.map ee))) s4 (.sh (.tup (Q.map lv))) s6 s7 s8 s9 s10 s11 s12 s13)) := by
  have hQ : Q.length = B.length := by rw [← hq, List.length_map]
  have hb := bare_of_ok (Q := Q.map fun q => (ee q.1, PV.str [q.2])) (by rw [List.length_map]; omega)
  rw [List.map_map, List.map_map] at hb
  have e1 : Q.map (pp ∘ fun q => (ee q.1, PV.str [q.2])) = Q.map lv := rfl
  have e2 : Q.map ((fun q : PV × PV => q.1) ∘ fun q => (ee q.1, PV.str [q.2])) = B.map ee := by
    rw [← hq, List.map_map]; rfl
  rw [e1, e2] at hb
  have c1 := fun ρ => callD_sh (d := d_bare_of) (rs := [.sh (.tup (Q.map lv))]) (ρ := ρ) rfl rfl rfl hb
  have ok : okV 6 (.tup (B.map ee)) = true := by
    have h : (decide ((B.map ee).length ≤ 16777216) && (B.map ee).all (okV 5)) = true := by
      rw [Bool.and_eq_true, decide_eq_true_eq, List.all_eq_true]
      refine ⟨by rw [List.length_map]; omega, fun y hy => ?_⟩
      obtain ⟨z, _, rfl⟩ := List.mem_map.mp hy
      exact okV_ee 3 z
    exact h
  have c2 := fun ρ => callD_sh (d := d__law_same 8) (rs := [.sh (.tup (B.map ee)), .sh (.tup (B.map ee))]) (ρ := ρ) rfl rfl rfl (same8 ok)
  generalize PV.tup (B.map ee) = BT at *
  generalize PV.tup (Q.map lv) = QT at *
  simp [f_law_s5, c1, c2]
theorem s6_ok {s : Int × Int} (hs : s ∈ sizes) (s1 s3 s4 s5 : Slot) : ex T_law fuel f_law_s6 (E14 s0 s1 (.sh (sz s)) s3 s4 s5 s6 s7 s8 s9 s10 s11 s12 s13) = some (.nx (E14 s0 s1 (.sh (sz s)) s3 (.sh (ee (at2 (EL s) 0))) s5 s6 s7 s8 s9 s10 s11 s12 s13)) := by
  have ce := edges_ok hs
  have cb : ∀ ρ : Env, callD d__law_edges [.sh (sz s)] ρ = some (.own (.lst ((EL s).map ee)), ρ) := fun ρ => by
    have := callD_sh (d := d__law_edges) (rs := [.sh (sz s)]) (ρ := ρ) rfl rfl rfl ce
    exact this
  have hl : 0 < (EL s).length := by
    have : (sizes.all fun s => decide (0 < (EL s).length)) = true := by decide +kernel
    exact of_decide_eq_true (List.all_eq_true.mp this s hs)
  have i0 : ix2 (.lst ((EL s).map ee)) (.int 0) = some (.sh (ee (at2 (EL s) 0))) := ix_ees (EL s) (k := 0) hl
  generalize ee (at2 (EL s) 0) = x at *
  generalize (EL s).map ee = EE at *
  generalize sz s = S at *
  simp [f_law_s6, cb, i0, setS]
theorem s7_ok (s : Int × Int) (s1 s3 s4 s5 : Slot) : ex T_law fuel f_law_s7 (E14 s0 s1 (.sh (sz s)) s3 s4 s5 s6 s7 s8 s9 s10 s11 s12 s13) = some (.nx (E14 s0 s1 (.sh (sz s)) s3 s4 s5 (.sh (ee ((0, 0, 2), (s.1, 0, 0)))) s7 s8 s9 s10 s11 s12 s13)) := by
  have j0 : ix2 (sz s) (.int 0) = some (.sh (.int s.1)) := rfl
  show _ = some (Out.nx (E14 s0 s1 (.sh (sz s)) s3 s4 s5 (.sh (.tup [.tup [.int 0, .int 0, .int 2], .tup [.int s.1, .int 0, .int 0]])) s7 s8 s9 s10 s11 s12 s13))
  generalize sz s = S at *
  generalize s.1 = a at *
  simp [f_law_s7, j0, setS]
end

/-! ### repr of fine values -/
theorem plain_fine {K M : Nat} : ∀ (n j : Nat) (v : PV), fineV n K M v = true → plainD (n + j) v = true
  | 0, j, v, h => by
    have := fine_noScr h
    cases v <;> first | (cases j <;> rfl) | exact absurd this id | (cases h; done)
  | n + 1, j, v, h => by
    have hx := fine_noScr h
    rw [show n + 1 + j = (n + j) + 1 by omega]
    cases v with
    | tup l =>
      obtain ⟨_, h2⟩ := fine_tup.mp h
      show l.all (plainD (n + j)) = true
      rw [List.all_eq_true]
      exact fun x hx => plain_fine n j x (h2 x hx)
    | lst l =>
      obtain ⟨_, h2⟩ := fine_lst.mp h
      show l.all (plainD (n + j)) = true
      rw [List.all_eq_true]
      exact fun x hx => plain_fine n j x (h2 x hx)
    | _ => first | rfl | exact absurd hx id
theorem smL_all : ∀ l : List PV, (∀ x ∈ l, smI x = true) → smL l = true
  | [], _ => by simp [smL]
  | x :: l, h => by
    rw [smL, h x List.mem_cons_self, smL_all l fun y hy => h y (List.mem_cons_of_mem _ hy)]; rfl
theorem sm_fine {K M : Nat} (hM : M ≤ 1000) : ∀ (n : Nat) (v : PV), fineV n K M v = true → smI v = true
  | 0, v, h => by
    have := fine_noScr h
    cases v with
    | int i => have := fine_int.mp h; simp only [smI, decide_eq_true_eq]; omega
    | _ => first | (simp [smI]; done) | exact absurd this id | (cases h; done)
  | n + 1, v, h => by
    have hx := fine_noScr h
    cases v with
    | int i => have := fine_int.mp h; simp only [smI, decide_eq_true_eq]; omega
    | tup l =>
      obtain ⟨_, h2⟩ := fine_tup.mp h
      rw [smI]
      exact smL_all l fun x hx => sm_fine hM n x (h2 x hx)
    | lst l =>
      obtain ⟨_, h2⟩ := fine_lst.mp h
      rw [smI]
      exact smL_all l fun x hx => sm_fine hM n x (h2 x hx)
    | _ => first | (simp [smI]; done) | exact absurd hx id
theorem wgtL_le (W : Nat) : ∀ l : List PV, (∀ x ∈ l, wgtV x ≤ W) → wgtL l ≤ l.length * (W + 1)
  | [], _ => by simp [wgtL]
  | x :: l, h => by
    have h1 := h x List.mem_cons_self
    have h2 := wgtL_le W l fun y hy => h y (List.mem_cons_of_mem _ hy)
    rw [wgtL, List.length_cons, Nat.add_mul, Nat.one_mul]
    omega
theorem sameL_self : ∀ l : List PV, (∀ x ∈ l, sameV x x = true) → sameL l l = true
  | [], _ => by simp [sameL]
  | x :: l, h => by
    rw [sameL]
    rw [h x List.mem_cons_self, sameL_self l fun y hy => h y (List.mem_cons_of_mem _ hy)]; rfl
theorem same_fine {K M : Nat} : ∀ (n : Nat) (v : PV), fineV n K M v = true → sameV v v = true
  | 0, v, h => by
    have hx := fine_noScr h
    cases v with
    | tup l => cases h
    | lst l => cases h
    | _ => first | (simp [sameV]; done) | exact absurd hx id
  | n + 1, v, h => by
    have hx := fine_noScr h
    cases v with
    | tup l =>
      obtain ⟨_, h2⟩ := fine_tup.mp h
      rw [sameV]
      exact sameL_self l fun x hx => same_fine n x (h2 x hx)
    | lst l =>
      obtain ⟨_, h2⟩ := fine_lst.mp h
      rw [sameV]
      exact sameL_self l fun x hx => same_fine n x (h2 x hx)
    | _ => first | (simp [sameV]; done) | exact absurd hx id
theorem repr_ok {n K : Nat} {v : PV} (hn : n ≤ 20) (h : fineV n K 200 v = true) (hw : wgtV v ≤ 1000000) : rpr1 v = some (.sh (.set [.non, v])) ∧ cmpB .ne (.set [.non, v]) (.set [.non, v]) = some false := by
  have h1 : plain v = true := by
    have := plain_fine n (20 - n) v h
    rw [show n + (20 - n) = 20 by omega] at this
    exact this
  have h2 := sm_fine (by decide) n v h
  have h4 := same_fine n v h
  have h5 : rpOk v = true := by
    unfold rpOk
    rw [h1, h2, decide_eq_true hw]; rfl
  refine ⟨by unfold rpr1; rw [if_pos h5], ?_⟩
  have e : cmpB .ne (.set [.non, v]) (.set [.non, v]) = (if sameV v v = true then some false else none) := rfl
  rw [e, if_pos h4]
/-! ### booled, listed -/
def leafB (v : PV) : PV := match v with
  | .int i => if i = 0 then .bl false else if i = 1 then .bl true else .int i
  | v => v
theorem booled_leaf (m : Nat) {v : PV} (h : noB v) (ht : isTu v = false) : (d__law_booled (m + 1)).f [v] = some ⟨false, leafB v, .non⟩ := by
  have b0 : bi1 (.isi [1]) [v] = some (.sh (.bl false)) := by
    cases v <;> first | rfl | exact absurd h id | (cases ht; done)
  have w := fun ρ => callD_sh (d := d__law_is_integer) (rs := [.sh v]) (ρ := ρ) rfl rfl rfl (is_integer_ok v h)
  rw [df__law_booled]
  by_cases hi : isI v = true
  · rw [hi] at w
    cases v with
    | int i =>
      have c1 : cmpB .le (.int 0) (.int i) = some (decide (0 ≤ i)) := rfl
      have c2 : cmpB .lt (.int i) (.int 2) = some (decide (i < 2)) := rfl
      unfold leafB
      simp only
      by_cases e0 : i = 0
      · subst e0
        simp [runT, f__law_booled, startE, b0, w, c1, c2, ix2, atV, Py.ixN, retE, outE]
      · rw [if_neg e0]
        by_cases e1 : i = 1
        · subst e1
          simp [runT, f__law_booled, startE, b0, w, c1, c2, ix2, atV, Py.ixN, retE, outE]
        · rw [if_neg e1]
          by_cases e2 : 0 ≤ i
          · rw [decide_eq_true e2] at c1
            rw [decide_eq_false (by omega)] at c2
            generalize PV.int i = I at *
            simp [runT, f__law_booled, startE, b0, w, c1, c2, retE, outE]
          · rw [decide_eq_false e2] at c1
            generalize PV.int i = I at *
            simp [runT, f__law_booled, startE, b0, w, c1, retE, outE]
    | _ => cases hi
  · rw [Bool.eq_false_iff.mpr hi] at w
    have e : leafB v = v := by cases v <;> first | rfl | exact absurd rfl hi
    rw [e]
    simp [runT, f__law_booled, startE, b0, w, retE, outE]
theorem booled_tup (m : Nat) (l : List PV) (g : PV → PV) (hl : l.length ≤ 1000) (h : ∀ x ∈ l, (d__law_booled m).f [x] = some ⟨false, g x, .non⟩) : (d__law_booled (m + 1)).f [.tup l] = some ⟨false, .tup (l.map g), .non⟩ := by
  have b0 : bi1 (.isi [1]) [.tup l] = some (.sh (.bl true)) := rfl
  have hseq : seqOf (.tup l) = some l := rfl
  have l1 : loopC (stepF (T__law_booled m) f__law_booled_e1 (.name 1) .nil [1]) l [.sh (.tup l), .none] = some (l.map g, [.sh (.tup l), .none]) := by
    refine loopC_map _ fun x hx => ?_
    have w := fun ρ => callD_sh (d := d__law_booled m) (rs := [.sh x]) (ρ := ρ) (by cases m <;> rfl) rfl rfl (h x hx)
    rw [stepF_eq]
    generalize PV.tup l = PP at *
    generalize g x = y at *
    simp [f__law_booled_e1, setS, w, wipeE]
  have q1 : (l.map g).length < 16777216 := by rw [List.length_map]; omega
  have bt : bi1 .tuple [.lst (l.map g)] = some (.sh (.tup (l.map g))) := rfl
  rw [df__law_booled]
  generalize PV.tup (l.map g) = RR at *
  generalize l.map g = LL at *
  generalize PV.tup l = PP at *
  simp [runT, f__law_booled, startE, b0, hseq, noOwn, wipeE, l1, backE, q1, bt, retE, outE]
def bT (z : T3) : PV := .tup [leafB (.int z.1), leafB (.int z.2.1), leafB (.int z.2.2)]
def bE (e : Ed) : PV := .tup [bT e.1, bT e.2]
theorem booled_T (m : Nat) (z : T3) : (d__law_booled (m + 2)).f [tt z] = some ⟨false, bT z, .non⟩ := by
  have := booled_tup (m + 1) [.int z.1, .int z.2.1, .int z.2.2] leafB (by show 3 ≤ 1000; decide) (fun x hx => by
    simp only [List.mem_cons, List.not_mem_nil, or_false] at hx
    rcases hx with (rfl | rfl | rfl) <;> exact booled_leaf m trivial rfl)
  exact this
theorem booled_2 (m : Nat) {x y a b : PV} (hx : (d__law_booled m).f [x] = some ⟨false, a, .non⟩) (hy : (d__law_booled m).f [y] = some ⟨false, b, .non⟩) : (d__law_booled (m + 1)).f [.tup [x, y]] = some ⟨false, .tup [a, b], .non⟩ := by
  have b0 : bi1 (.isi [1]) [.tup [x, y]] = some (.sh (.bl true)) := rfl
  have hseq : seqOf (.tup [x, y]) = some [x, y] := rfl
  have wx := fun ρ => callD_sh (d := d__law_booled m) (rs := [.sh x]) (ρ := ρ) (by cases m <;> rfl) rfl rfl hx
  have wy := fun ρ => callD_sh (d := d__law_booled m) (rs := [.sh y]) (ρ := ρ) (by cases m <;> rfl) rfl rfl hy
  have l1 : loopC (stepF (T__law_booled m) f__law_booled_e1 (.name 1) .nil [1]) [x, y] [.sh (.tup [x, y]), .none] = some ([a, b], [.sh (.tup [x, y]), .none]) := by
    generalize PV.tup [x, y] = P at *
    simp [loopC_cons, loopC_nil, stepF_eq, f__law_booled_e1, setS, wx, wy, wipeE]
  have bt : bi1 .tuple [.lst [a, b]] = some (.sh (.tup [a, b])) := rfl
  rw [df__law_booled]
  generalize PV.tup [x, y] = P at *
  generalize PV.tup [a, b] = R at *
  generalize ([x, y] : List PV) = XY at *
  have q1 : ([a, b] : List PV).length < 16777216 := by show 2 < 16777216; decide
  generalize ([a, b] : List PV) = AB at *
  simp [runT, f__law_booled, startE, b0, hseq, noOwn, wipeE, l1, backE, q1, bt, retE, outE]
theorem booled_E (m : Nat) (e : Ed) : (d__law_booled (m + 3)).f [ee e] = some ⟨false, bE e, .non⟩ := booled_2 (m + 2) (booled_T m e.1) (booled_T m e.2)
def bL (q : Ed × Nat) : PV := .tup [bE q.1, .str [q.2]]
theorem booled_L (m : Nat) (q : Ed × Nat) : (d__law_booled (m + 4)).f [lv q] = some ⟨false, bL q, .non⟩ := booled_2 (m + 3) (booled_E m q.1) (booled_leaf (m + 2) trivial rfl)
theorem booled_map {α : Type} (m : Nat) (f g : α → PV) (L : List α) (hl : L.length ≤ 1000) (h : ∀ x ∈ L, (d__law_booled m).f [f x] = some ⟨false, g x, .non⟩) : (d__law_booled (m + 1)).f [.tup (L.map f)] = some ⟨false, .tup (L.map g), .non⟩ := by
  have b0 : bi1 (.isi [1]) [.tup (L.map f)] = some (.sh (.bl true)) := rfl
  have hseq : seqOf (.tup (L.map f)) = some (L.map f) := rfl
  have l1 : loopC (stepF (T__law_booled m) f__law_booled_e1 (.name 1) .nil [1]) (L.map f) [.sh (.tup (L.map f)), .none] = some (L.map g, [.sh (.tup (L.map f)), .none]) := by
    refine loopC_mapI _ _ fun x hx => ?_
    have w := fun ρ => callD_sh (d := d__law_booled m) (rs := [.sh (f x)]) (ρ := ρ) (by cases m <;> rfl) rfl rfl (h x hx)
    rw [stepF_eq]
    generalize PV.tup (L.map f) = PP at *
    generalize g x = y at *
    generalize f x = z at *
    simp [f__law_booled_e1, setS, w, wipeE]
  have q1 : (L.map g).length < 16777216 := by rw [List.length_map]; omega
  have bt : bi1 .tuple [.lst (L.map g)] = some (.sh (.tup (L.map g))) := rfl
  rw [df__law_booled]
  generalize PV.tup (L.map g) = RR at *
  generalize L.map g = LL at *
  generalize PV.tup (L.map f) = PP at *
  generalize L.map f = MM at *
  simp [runT, f__law_booled, startE, b0, hseq, noOwn, wipeE, l1, backE, q1, bt, retE, outE]
theorem listed_0 (m : Nat) (l : List PV) : (d__law_listed (m + 1)).f [.tup l, .int 0] = some ⟨true, .lst l, .non⟩ := by
  have b0 : bi1 (.isi [1]) [.tup l] = some (.sh (.bl true)) := rfl
  have b1 : bi1 .list [.tup l] = some (.own (.lst l)) := rfl
  rw [df__law_listed]
  generalize PV.lst l = Q at *
  generalize PV.tup l = PP at *
  simp [runT, f__law_listed, startE, b0, b1, retE, outE]
theorem listed_map {α : Type} (m : Nat) (k : Int) (hk : 0 ≤ k) (f g : α → PV) (w : Bool) (L : List α) (hl : L.length ≤ 1000) (h : ∀ x ∈ L, (d__law_listed m).f [f x, .int k] = some ⟨w, g x, .non⟩) : (d__law_listed (m + 1)).f [.tup (L.map f), .int (k + 1)] = some ⟨false, .tup (L.map g), .non⟩ := by
  have b0 : bi1 (.isi [1]) [.tup (L.map f)] = some (.sh (.bl true)) := rfl
  have hseq : seqOf (.tup (L.map f)) = some (L.map f) := rfl
  have r1 : bin2 .sub (.int (k + 1)) (.int 1) = some (.sh (.int k)) := by
    show some (Res.sh (.int (k + 1 - 1))) = _
    rw [show k + 1 - 1 = k by omega]
  have l1 : loopC (stepF (T__law_listed m) f__law_listed_e1 (.name 2) .nil [2]) (L.map f) [.sh (.tup (L.map f)), .sh (.int (k + 1)), .none] = some (L.map g, [.sh (.tup (L.map f)), .sh (.int (k + 1)), .none]) := by
    refine loopC_mapI _ _ fun x hx => ?_
    have c := fun ρ => callD_sh (d := d__law_listed m) (rs := [.sh (f x), .sh (.int k)]) (ρ := ρ) (by cases m <;> rfl) rfl rfl (h x hx)
    rw [stepF_eq]
    generalize PV.tup (L.map f) = PP at *
    generalize g x = y at *
    generalize f x = z at *
    generalize k + 1 = k1 at *
    cases w <;> simp [f__law_listed_e1, setS, r1, c, wipeE, fz]
  have q1 : (L.map g).length < 16777216 := by rw [List.length_map]; omega
  have bt : bi1 .tuple [.lst (L.map g)] = some (.sh (.tup (L.map g))) := rfl
  have c0 : cmpB .eq (.int (k + 1)) (.int 0) = some false := by
    show some (decide (k + 1 = 0)) = _
    rw [decide_eq_false (by omega)]
  rw [df__law_listed]
  generalize PV.tup (L.map g) = RR at *
  generalize L.map g = LL at *
  generalize PV.tup (L.map f) = PP at *
  generalize L.map f = MM at *
  generalize k + 1 = k1 at *
  simp [runT, f__law_listed, startE, b0, hseq, noOwn, wipeE, l1, backE, q1, bt, c0, retE, outE]

/-! ### the tried values are fine and light -/
def TV (v : PV) : Prop := fineV 5 32 100 v = true ∧ wgtV v ≤ 100000
def itemOk (v : PV) : Prop := fineV 4 32 100 v = true ∧ wgtV v ≤ 500
theorem tv_tup {l : List PV} (hl : l.length ≤ 32) (h : ∀ x ∈ l, itemOk x) : TV (.tup l) := by
  refine ⟨fine_tup.mpr ⟨hl, fun x hx => (h x hx).1⟩, ?_⟩
  rw [wgtV]
  have := wgtL_le 500 l fun x hx => (h x hx).2
  have h2 : l.length * (500 + 1) ≤ 32 * 501 := Nat.mul_le_mul_right _ hl
  omega
theorem tv_lst {l : List PV} (hl : l.length ≤ 32) (h : ∀ x ∈ l, itemOk x) : TV (.lst l) := by
  refine ⟨fine_lst.mpr ⟨hl, fun x hx => (h x hx).1⟩, ?_⟩
  rw [wgtV]
  have := wgtL_le 500 l fun x hx => (h x hx).2
  have h2 : l.length * (500 + 1) ≤ 32 * 501 := Nat.mul_le_mul_right _ hl
  omega
/-- a part: fine to a depth, light -/
def ok3 (n W : Nat) (v : PV) : Prop := fineV n 32 100 v = true ∧ wgtV v ≤ W
theorem ok_two {n W1 W2 : Nat} {x y : PV} (hx : ok3 n W1 x) (hy : ok3 n W2 y) : ok3 (n + 1) (W1 + W2 + 2) (.tup [x, y]) := by
  refine ⟨fine_tup.mpr ⟨by show 2 ≤ 32; decide, fun z hz => ?_⟩, ?_⟩
  · simp only [List.mem_cons, List.not_mem_nil, or_false] at hz
    rcases hz with (rfl | rfl)
    · exact hx.1
    · exact hy.1
  · have := hx.2
    have := hy.2
    simp only [wgtV, wgtL]; omega
theorem ok_twoL {n W1 W2 : Nat} {x y : PV} (hx : ok3 n W1 x) (hy : ok3 n W2 y) : ok3 (n + 1) (W1 + W2 + 2) (.lst [x, y]) := by
  refine ⟨fine_lst.mpr ⟨by show 2 ≤ 32; decide, fun z hz => ?_⟩, ?_⟩
  · simp only [List.mem_cons, List.not_mem_nil, or_false] at hz
    rcases hz with (rfl | rfl)
    · exact hx.1
    · exact hy.1
  · have := hx.2
    have := hy.2
    simp only [wgtV, wgtL]; omega
theorem ok_up {n m W V : Nat} {v : PV} (h : ok3 n W v) (hn : n ≤ m) (hW : W ≤ V) : ok3 m V v := ⟨fine_mono _ _ _ _ _ _ v h.1 hn (Nat.le_refl _) (Nat.le_refl _), Nat.le_trans h.2 hW⟩
theorem ok_str (c : Nat) : ok3 0 1 (.str [c]) := ⟨fine_str.mpr (by show 1 ≤ 32; decide), by simp [wgtV]⟩
theorem ok_non : ok3 0 0 .non := ⟨rfl, by simp [wgtV]⟩
def smZ (z : T3) : Prop := z.1.natAbs ≤ 100 ∧ z.2.1.natAbs ≤ 100 ∧ z.2.2.natAbs ≤ 100
def smE (e : Ed) : Prop := smZ e.1 ∧ smZ e.2
theorem ok_three {n : Nat} {x y z : PV} (hx : ok3 n 64 x) (hy : ok3 n 64 y) (hz : ok3 n 64 z) : ok3 (n + 1) 195 (.tup [x, y, z]) := by
  refine ⟨fine_tup.mpr ⟨by show 3 ≤ 32; decide, fun w hw => ?_⟩, ?_⟩
  · simp only [List.mem_cons, List.not_mem_nil, or_false] at hw
    rcases hw with (rfl | rfl | rfl)
    · exact hx.1
    · exact hy.1
    · exact hz.1
  · have := hx.2
    have := hy.2
    have := hz.2
    simp only [wgtV, wgtL]; omega
theorem ok_threeL {n : Nat} {x y z : PV} (hx : ok3 n 64 x) (hy : ok3 n 64 y) (hz : ok3 n 64 z) : ok3 (n + 1) 195 (.lst [x, y, z]) := by
  refine ⟨fine_lst.mpr ⟨by show 3 ≤ 32; decide, fun w hw => ?_⟩, ?_⟩
  · simp only [List.mem_cons, List.not_mem_nil, or_false] at hw
    rcases hw with (rfl | rfl | rfl)
    · exact hx.1
    · exact hy.1
    · exact hz.1
  · have := hx.2
    have := hy.2
    have := hz.2
    simp only [wgtV, wgtL]; omega
theorem ok_int {i : Int} (h : i.natAbs ≤ 100) : ok3 0 64 (.int i) := ⟨fine_int.mpr h, by simp [wgtV]⟩
theorem ok_leaf {i : Int} (h : i.natAbs ≤ 100) : ok3 0 64 (leafB (.int i)) := by
  unfold leafB
  simp only
  by_cases e0 : i = 0
  · rw [if_pos e0]; exact ⟨rfl, by simp [wgtV]⟩
  · rw [if_neg e0]
    by_cases e1 : i = 1
    · rw [if_pos e1]; exact ⟨rfl, by simp [wgtV]⟩
    · rw [if_neg e1]; exact ok_int h
theorem ok_tt {z : T3} (h : smZ z) : ok3 1 195 (tt z) := ok_three (ok_int h.1) (ok_int h.2.1) (ok_int h.2.2)
theorem ok_bT {z : T3} (h : smZ z) : ok3 1 195 (bT z) := ok_three (ok_leaf h.1) (ok_leaf h.2.1) (ok_leaf h.2.2)
def lT (z : T3) : PV := .lst [.int z.1, .int z.2.1, .int z.2.2]
theorem ok_lT {z : T3} (h : smZ z) : ok3 1 195 (lT z) := ok_threeL (ok_int h.1) (ok_int h.2.1) (ok_int h.2.2)
theorem ok_ee {e : Ed} (h : smE e) : ok3 2 392 (ee e) := ok_two (ok_tt h.1) (ok_tt h.2)
theorem ok_bE {e : Ed} (h : smE e) : ok3 2 392 (bE e) := ok_two (ok_bT h.1) (ok_bT h.2)
def lE (e : Ed) : PV := .lst [tt e.1, tt e.2]
def l2E (e : Ed) : PV := .tup [lT e.1, lT e.2]
theorem ok_lE {e : Ed} (h : smE e) : ok3 2 392 (lE e) := ok_twoL (ok_tt h.1) (ok_tt h.2)
theorem ok_l2E {e : Ed} (h : smE e) : ok3 2 392 (l2E e) := ok_two (ok_lT h.1) (ok_lT h.2)
theorem ok_rev {e : Ed} (h : smE e) : ok3 2 392 (.tup [tt e.2, tt e.1]) := ok_two (ok_tt h.2) (ok_tt h.1)
def lL (q : Ed × Nat) : PV := .lst [ee q.1, .str [q.2]]
theorem ok_lv {q : Ed × Nat} (h : smE q.1) : ok3 3 395 (lv q) := ok_two (ok_ee h) (ok_up (ok_str q.2) (by decide) (Nat.le_refl _))
theorem ok_bL {q : Ed × Nat} (h : smE q.1) : ok3 3 395 (bL q) := ok_two (ok_bE h) (ok_up (ok_str q.2) (by decide) (Nat.le_refl _))
theorem ok_lL {q : Ed × Nat} (h : smE q.1) : ok3 3 395 (lL q) := ok_twoL (ok_ee h) (ok_up (ok_str q.2) (by decide) (Nat.le_refl _))
theorem item {n W : Nat} {v : PV} (h : ok3 n W v) (hn : n ≤ 4) (hW : W ≤ 500) : itemOk v := ok_up h hn hW
theorem cut_mem {l : List PV} {a b : Option Int} {x : PV} (h : x ∈ cutL l a b) : x ∈ l := by
  unfold cutL at h
  exact List.mem_of_mem_drop (List.mem_of_mem_take h)
theorem cut_last (l : List PV) : cutL l (some (-1)) none = l.drop (l.length - 1) := by
  have e1 : cutAt l.length 0 (some (-1 : Int)) = if (-1 : Int) < 0 then ((-1 : Int) + l.length).toNat else min (-1 : Int).toNat l.length := rfl
  rw [if_pos (by omega)] at e1
  unfold cutL
  rw [e1]
  show (l.drop ((-1 : Int) + l.length).toNat).take (l.length - ((-1 : Int) + l.length).toNat) = _
  rw [show ((-1 : Int) + l.length).toNat = l.length - 1 by omega, List.take_of_length_le (by rw [List.length_drop]; omega)]
theorem tvl {l : List PV} (hl : l.length ≤ 30) (h : ∀ x ∈ l, itemOk x) : TV (.tup l) ∧ TV (.lst l) ∧ TV (.tup l.reverse) ∧ TV (.tup (l ++ l.drop (l.length - 1))) ∧ ∀ x, itemOk x → TV (.tup (l ++ [x])) := by
  refine ⟨tv_tup (by omega) h, tv_lst (by omega) h, tv_tup (by rw [List.length_reverse]; omega) fun x hx => h x (List.mem_reverse.mp hx), tv_tup (by rw [List.length_append, List.length_drop]; omega) fun x hx => ?_, fun y hy => tv_tup (by rw [List.length_append]; show _ + 1 ≤ _; omega) fun x hx => ?_⟩
  · rcases List.mem_append.mp hx with hx | hx
    · exact h x hx
    · exact h x (List.mem_of_mem_drop hx)
  · rcases List.mem_append.mp hx with hx | hx
    · exact h x hx
    · rw [List.mem_singleton.mp hx]; exact hy
theorem el_sm {s : Int × Int} (hs : s ∈ sizes) : (∀ e ∈ EL s, smE e) ∧ (EL s).length ≤ 30 ∧ s.1.natAbs ≤ 100 := by
  have h : (sizes.all fun s => ((EL s).all fun e => (decide (e.1.1.natAbs ≤ 100) && (decide (e.1.2.1.natAbs ≤ 100) && decide (e.1.2.2.natAbs ≤ 100))) && (decide (e.2.1.natAbs ≤ 100) && (decide (e.2.2.1.natAbs ≤ 100) && decide (e.2.2.2.natAbs ≤ 100)))) && (decide ((EL s).length ≤ 30) && decide (s.1.natAbs ≤ 100))) = true := by decide +kernel
  have g := List.all_eq_true.mp h s hs
  simp only [Bool.and_eq_true, decide_eq_true_eq, List.all_eq_true] at g
  exact ⟨g.1, g.2.1, g.2.2⟩
def tr8 (B : List Ed) (e0 od : Ed) : List PV := [.tup (B.map ee), .lst (B.map ee), .tup (B.map bE), .tup (B.map lE), .tup (B.map l2E), .tup (B.map ee).reverse, .tup (B.map ee ++ (B.map ee).drop ((B.map ee).length - 1)), .tup (B.map ee ++ [ee od]), .tup [.tup [tt e0.2, tt e0.1]], .tup []]
def tr9 (B : List Ed) : List PV := [.non, .tup [.str [109]], .tup (B.map ee ++ [.non])]
def tr10 (Q : List (Ed × Nat)) (e0 : Ed) : List PV := [.tup (Q.map lv), .lst (Q.map lv), .tup (Q.map bL), .tup (Q.map lL), .tup (Q.map lv).reverse, .tup (Q.map lv ++ (Q.map lv).drop ((Q.map lv).length - 1)), .tup [.tup [ee e0, .str [120]]], .tup [.tup [ee e0, .non]]]
def tr11 (e0 od : Ed) : List PV := [.tup [.tup [ee e0, .str [109], .int 0]], .tup [.tup [ee e0]], .tup [.tup [.tup [tt e0.2, tt e0.1], .str [109]]], .tup [.tup [ee e0, .str [109]], .tup [ee e0, .str [118]]], .tup [.tup [ee od, .str [118]]]]
theorem one_ok {x : PV} (h : itemOk x) : TV (.tup [x]) := tv_tup (by show 1 ≤ 32; decide) fun y hy => by rw [List.mem_singleton.mp hy]; exact h
theorem tr_ok {s : Int × Int} (hs : s ∈ sizes) {B : List Ed} (hB : ∀ e ∈ B, e ∈ EL s) (hl : B.length ≤ (EL s).length) {Q : List (Ed × Nat)} (hQ : Q.map Prod.fst = B) {e0 od : Ed} (h0 : smE e0) (ho : smE od) : ∀ v ∈ tr8 B e0 od ++ tr9 B ++ tr10 Q e0 ++ tr11 e0 od, TV v := by
  obtain ⟨k1, k2, _⟩ := el_sm hs
  have hb : ∀ e ∈ B, smE e := fun e he => k1 e (hB e he)
  have hq : ∀ q ∈ Q, smE q.1 := fun q hq => hb q.1 (by rw [← hQ]; exact List.mem_map.mpr ⟨q, hq, rfl⟩)
  have hQl : Q.length = B.length := by rw [← hQ, List.length_map]
  have mk : ∀ {α : Type} (L : List α) (f : α → PV), (∀ x ∈ L, itemOk (f x)) → ∀ y ∈ L.map f, itemOk y := fun L f h y hy => by
    obtain ⟨z, hz, rfl⟩ := List.mem_map.mp hy
    exact h z hz
  have iB := mk B ee fun e he => item (ok_ee (hb e he)) (by decide) (by decide)
  have iQ := mk Q lv fun q hqq => item (ok_lv (hq q hqq)) (by decide) (by decide)
  obtain ⟨a1, a2, a3, a4, a5⟩ := tvl (l := B.map ee) (by rw [List.length_map]; omega) iB
  obtain ⟨c1, c2, c3, c4, c5⟩ := tvl (l := Q.map lv) (by rw [List.length_map]; omega) iQ
  have lB : ∀ (f : Ed → PV), (B.map f).length ≤ 32 := fun f => by rw [List.length_map]; omega
  have lQ : ∀ (f : Ed × Nat → PV), (Q.map f).length ≤ 32 := fun f => by rw [List.length_map]; omega
  have ok0 := ok_ee h0
  intro v hv
  simp only [tr8, tr9, tr10, tr11, List.cons_append, List.nil_append, List.mem_cons, List.not_mem_nil, or_false] at hv
  rcases hv with (rfl | rfl | rfl | rfl | rfl | rfl | rfl | rfl | rfl | rfl | rfl | rfl | rfl | rfl | rfl | rfl | rfl | rfl | rfl | rfl | rfl | rfl | rfl | rfl | rfl | rfl)
  · exact a1
  · exact a2
  · exact tv_tup (lB _) (mk B bE fun e he => item (ok_bE (hb e he)) (by decide) (by decide))
  · exact tv_tup (lB _) (mk B lE fun e he => item (ok_lE (hb e he)) (by decide) (by decide))
  · exact tv_tup (lB _) (mk B l2E fun e he => item (ok_l2E (hb e he)) (by decide) (by decide))
  · exact a3
  · exact a4
  · exact a5 _ (item (ok_ee ho) (by decide) (by decide))
  · exact one_ok (item (ok_rev h0) (by decide) (by decide))
  · exact tv_tup (by show 0 ≤ 32; decide) fun x hx => by simp at hx
  · exact ⟨rfl, by simp [wgtV]⟩
  · exact one_ok (item (ok_str 109) (by decide) (by decide))
  · exact a5 _ (item ok_non (by decide) (by decide))
  · exact c1
  · exact c2
  · exact tv_tup (lQ _) (mk Q bL fun q hqq => item (ok_bL (hq q hqq)) (by decide) (by decide))
  · exact tv_tup (lQ _) (mk Q lL fun q hqq => item (ok_lL (hq q hqq)) (by decide) (by decide))
  · exact c3
  · exact c4
  · exact one_ok (item (ok_two ok0 (ok_up (ok_str 120) (by decide) (Nat.le_refl _))) (by decide) (by decide))
  · exact one_ok (item (ok_two ok0 (ok_up ok_non (by decide) (Nat.le_refl _))) (by decide) (by decide))
  · refine one_ok ⟨fine_tup.mpr ⟨by show 3 ≤ 32; decide, fun w hw => ?_⟩, ?_⟩
    · simp only [List.mem_cons, List.not_mem_nil, or_false] at hw
      rcases hw with (rfl | rfl | rfl)
      · exact (ok_up ok0 (show 2 ≤ 3 by decide) (Nat.le_refl _)).1
      · exact (ok_up (ok_str 109) (show 0 ≤ 3 by decide) (Nat.le_refl _)).1
      · exact rfl
    · have := ok0.2
      simp only [wgtV, wgtL] at this ⊢
      simp only [List.length_cons, List.length_nil]
      omega
  · refine one_ok ⟨fine_tup.mpr ⟨by show 1 ≤ 32; decide, fun w hw => ?_⟩, ?_⟩
    · rw [List.mem_singleton.mp hw]
      exact (ok_up ok0 (show 2 ≤ 3 by decide) (Nat.le_refl _)).1
    · have := ok0.2
      rw [wgtV, wgtL_one]; omega
  · exact one_ok (item (ok_two (ok_rev h0) (ok_up (ok_str 109) (by decide) (Nat.le_refl _))) (by decide) (by decide))
  · refine tv_tup (by show 2 ≤ 32; decide) fun x hx => ?_
    simp only [List.mem_cons, List.not_mem_nil, or_false] at hx
    rcases hx with (rfl | rfl) <;> exact item (ok_two ok0 (ok_up (ok_str _) (by decide) (Nat.le_refl _))) (by decide) (by decide)
  · exact one_ok (item (ok_two (ok_ee ho) (ok_up (ok_str 118) (by decide) (Nat.le_refl _))) (by decide) (by decide))

section
variable (s0 s1 s2 s8 s9 s10 s11 s12 s13 : Slot)
theorem s8_ok {B : List Ed} (hl : B.length ≤ 30) (e0 od : Ed) (s5 s7 : Slot) : ex T_law fuel f_law_s8 (E14 s0 s1 s2 (.sh (.tup (B.map ee))) (.sh (ee e0)) s5 (.sh (ee od)) s7 s8 s9 s10 s11 s12 s13) = some (.nx (E14 s0 s1 s2 (.sh (.tup (B.map ee))) (.sh (ee e0)) s5 (.sh (ee od)) (.own (.lst (tr8 B e0 od))) s8 s9 s10 s11 s12 s13)) := by
  have b1 : bi1 .list [.tup (B.map ee)] = some (.own (.lst (B.map ee))) := rfl
  have b2 := fun ρ => callD_sh (d := d__law_booled 8) (rs := [.sh (.tup (B.map ee))]) (ρ := ρ) rfl rfl rfl (booled_map 7 ee bE B (by omega) fun e _ => booled_E 4 e)
  have b3 := fun ρ => callD_sh (d := d__law_listed 8) (rs := [.sh (.tup (B.map ee)), .sh (.int 1)]) (ρ := ρ) rfl rfl rfl (listed_map 7 0 (by decide) ee lE true B (by omega) fun e _ => listed_0 6 [tt e.1, tt e.2])
  have b4 := fun ρ => callD_sh (d := d__law_listed 8) (rs := [.sh (.tup (B.map ee)), .sh (.int 2)]) (ρ := ρ) rfl rfl rfl (listed_map 7 1 (by decide) ee l2E false B (by omega) fun e _ => listed_map 6 0 (by decide) tt lT true [e.1, e.2] (by show 2 ≤ 1000; decide) fun z _ => listed_0 5 [.int z.1, .int z.2.1, .int z.2.2])
  have b5 : rev1 (.tup (B.map ee)) = some (.sh (.tup (B.map ee).reverse)) := rfl
  have b6 : sl3 (.tup (B.map ee)) (some (-1)) none = some (.sh (.tup ((B.map ee).drop ((B.map ee).length - 1)))) := by
    show some (Res.sh (.tup (cutL (B.map ee) (some (-1)) none))) = _
    rw [cut_last]
  have b7 := add_tup (B.map ee) ((B.map ee).drop ((B.map ee).length - 1)) (by rw [List.length_drop, List.length_map]; omega)
  have b8 := add_tup (B.map ee) [ee od] (by rw [List.length_map]; show _ + 1 ≤ _; omega)
  have b9 : rev1 (ee e0) = some (.sh (.tup [tt e0.2, tt e0.1])) := rfl
  unfold tr8
  generalize (B.map ee).drop ((B.map ee).length - 1) = DL at *
  generalize B.map ee ++ DL = AL at *
  generalize B.map ee ++ [ee od] = OL at *
  generalize (B.map ee).reverse = RL at *
  generalize B.map bE = L3 at *
  generalize B.map lE = L4 at *
  generalize B.map l2E = L5 at *
  generalize B.map ee = BL at *
  generalize PV.tup [tt e0.2, tt e0.1] = R0 at *
  generalize ee od = od' at *
  generalize ee e0 = e0' at *
  simp [f_law_s8, b1, b2, b3, b4, b5, b6, b7, b8, b9, isAbs, setS]
theorem s9_ok {B : List Ed} (hl : B.length ≤ 30) (T : List PV) (hT : T.length ≤ 1000) (s4 s5 s6 : Slot) : ex T_law fuel f_law_s9 (E14 s0 s1 s2 (.sh (.tup (B.map ee))) s4 s5 s6 (.own (.lst T)) s8 s9 s10 s11 s12 s13) = some (.nx (E14 s0 s1 s2 (.sh (.tup (B.map ee))) s4 s5 s6 (.own (.lst (T ++ tr9 B))) s8 s9 s10 s11 s12 s13)) := by
  have b8 := add_tup (B.map ee) [.non] (by rw [List.length_map]; show _ + 1 ≤ _; omega)
  have ha := add_lst T (tr9 B) (by show _ + 3 ≤ _; omega)
  have e : tr9 B = [.non, .tup [.str [109]], .tup (B.map ee ++ [.non])] := rfl
  generalize T ++ tr9 B = T2 at *
  rw [e] at ha
  generalize B.map ee ++ [.non] = NL at *
  generalize B.map ee = BL at *
  simp [f_law_s9, b8, ha, setS]
theorem s10_ok {Q : List (Ed × Nat)} (hl : Q.length ≤ 30) (e0 : Ed) (T : List PV) (hT : T.length ≤ 1000) (s3 s6 : Slot) : ex T_law fuel f_law_s10 (E14 s0 s1 s2 s3 (.sh (ee e0)) (.sh (.tup (Q.map lv))) s6 (.own (.lst T)) s8 s9 s10 s11 s12 s13) = some (.nx (E14 s0 s1 s2 s3 (.sh (ee e0)) (.sh (.tup (Q.map lv))) s6 (.own (.lst (T ++ tr10 Q e0))) s8 s9 s10 s11 s12 s13)) := by
  have b1 : bi1 .list [.tup (Q.map lv)] = some (.own (.lst (Q.map lv))) := rfl
  have b2 := fun ρ => callD_sh (d := d__law_booled 8) (rs := [.sh (.tup (Q.map lv))]) (ρ := ρ) rfl rfl rfl (booled_map 7 lv bL Q (by omega) fun e _ => booled_L 3 e)
  have b3 := fun ρ => callD_sh (d := d__law_listed 8) (rs := [.sh (.tup (Q.map lv)), .sh (.int 1)]) (ρ := ρ) rfl rfl rfl (listed_map 7 0 (by decide) lv lL true Q (by omega) fun q _ => listed_0 6 [ee q.1, .str [q.2]])
  have b5 : rev1 (.tup (Q.map lv)) = some (.sh (.tup (Q.map lv).reverse)) := rfl
  have b6 : sl3 (.tup (Q.map lv)) (some (-1)) none = some (.sh (.tup ((Q.map lv).drop ((Q.map lv).length - 1)))) := by
    show some (Res.sh (.tup (cutL (Q.map lv) (some (-1)) none))) = _
    rw [cut_last]
  have b7 := add_tup (Q.map lv) ((Q.map lv).drop ((Q.map lv).length - 1)) (by rw [List.length_drop, List.length_map]; omega)
  have ha := add_lst T (tr10 Q e0) (by show _ + 8 ≤ _; omega)
  generalize hT2 : T ++ tr10 Q e0 = T2 at *
  unfold tr10 at ha
  clear hT2
  generalize (Q.map lv).drop ((Q.map lv).length - 1) = DL at *
  generalize Q.map lv ++ DL = AL at *
  generalize (Q.map lv).reverse = RL at *
  generalize Q.map bL = L3 at *
  generalize Q.map lL = L4 at *
  generalize Q.map lv = BL at *
  generalize ee e0 = e0' at *
  simp [f_law_s10, b1, b2, b3, b5, b6, b7, ha, isAbs, setS]
theorem s11_ok (e0 od : Ed) (T : List PV) (hT : T.length ≤ 1000) (s3 s5 : Slot) : ex T_law fuel f_law_s11 (E14 s0 s1 s2 s3 (.sh (ee e0)) s5 (.sh (ee od)) (.own (.lst T)) s8 s9 s10 s11 s12 s13) = some (.nx (E14 s0 s1 s2 s3 (.sh (ee e0)) s5 (.sh (ee od)) (.own (.lst (T ++ tr11 e0 od))) s8 s9 s10 s11 s12 s13)) := by
  have b9 : rev1 (ee e0) = some (.sh (.tup [tt e0.2, tt e0.1])) := rfl
  have ha := add_lst T (tr11 e0 od) (by show _ + 5 ≤ _; omega)
  generalize hT2 : T ++ tr11 e0 od = T2 at *
  unfold tr11 at ha
  clear hT2
  generalize PV.tup [tt e0.2, tt e0.1] = R0 at *
  generalize ee od = od' at *
  generalize ee e0 = e0' at *
  simp [f_law_s11, b9, ha, setS]
end
/-! ### the loop -/
def Gv (v : PV) : Prop := fineV 6 34 200 v = true ∧ wgtV v ≤ 500000
theorem tv_gv {v : PV} (h : TV v) : Gv v := ⟨fine_mono _ _ _ _ _ _ v h.1 (by decide) (by decide) (by decide), Nat.le_trans h.2 (by decide)⟩
theorem deep_down : ∀ (n : Nat) (v : PV), deepN (n + 1) v → deepN n v
  | 0, _, h => h.1
  | n + 1, v, h => ⟨h.1, fun l e x hx => deep_down n x (h.2 l e x hx)⟩
section
variable (s0 s2 s4 s6 s7 s8 s9 s10 s11 s13 : Slot)
theorem bent_c3 {V : PV} (hV : TV V) (s5 : Slot) : ∀ (xs : List PV) (p : PV), Pool p → ∃ (ys : List PV) (p' : PV), (∀ y ∈ ys, Gv y) ∧ ys.length = xs.length ∧ Pool p' ∧ loopC (stepF T_law f_law_e3 (.name 12) .nil [12]) xs (E14 s0 (.own p) s2 (.sh V) s4 s5 s6 s7 s8 s9 s10 s11 .none s13) = some (ys, E14 s0 (.own p') s2 (.sh V) s4 s5 s6 s7 s8 s9 s10 s11 .none s13)
  | [], p, hp => ⟨[], p, fun y hy => by simp at hy, rfl, hp, rfl⟩
  | x :: xs, p, hp => by
    obtain ⟨w, r, q, hq, hr, hw, hb⟩ := bent_ok 32 100 (by decide) 5 7 V p hV.1 (by decide) hp
    obtain ⟨ys, p', h1, h2, h3, h4⟩ := bent_c3 hV s5 xs q hq
    have c : callD (d__law_bent 8) [.slot 1, .sh V] (E14 s0 (.own p) s2 (.sh V) s4 s5 s6 s7 s8 s9 s10 s11 (.sh x) s13) = some (if w then .own r else .sh r, E14 s0 (.own q) s2 (.sh V) s4 s5 s6 s7 s8 s9 s10 s11 (.sh x) s13) := callD_io rfl rfl rfl rfl hb
    refine ⟨r :: ys, p', fun y hy => ?_, by simp [h2], h3, ?_⟩
    · rcases List.mem_cons.mp hy with rfl | hy
      · exact ⟨fine_mono _ _ _ _ _ _ _ hr (Nat.le_refl _) (by decide) (by decide), by have := hV.2; omega⟩
      · exact h1 y hy
    · have hst : stepF T_law f_law_e3 (.name 12) .nil [12] x (E14 s0 (.own p) s2 (.sh V) s4 s5 s6 s7 s8 s9 s10 s11 .none s13) = some (some r, E14 s0 (.own q) s2 (.sh V) s4 s5 s6 s7 s8 s9 s10 s11 .none s13) := by
        rw [stepF_eq]
        cases w <;> simp [f_law_e3, setS, c, fz, wipeE]
      rw [loopC_cons, hst]
      simp only [h4]
theorem bent_c4 {V : PV} (hV : TV V) (s3 : Slot) : ∀ (xs : List PV) (p : PV), Pool p → ∃ (ys : List PV) (p' : PV), (∀ y ∈ ys, Gv y) ∧ ys.length = xs.length ∧ Pool p' ∧ loopC (stepF T_law f_law_e4 (.name 12) .nil [12]) xs (E14 s0 (.own p) s2 s3 s4 (.sh V) s6 s7 s8 s9 s10 s11 .none s13) = some (ys, E14 s0 (.own p') s2 s3 s4 (.sh V) s6 s7 s8 s9 s10 s11 .none s13)
  | [], p, hp => ⟨[], p, fun y hy => by simp at hy, rfl, hp, rfl⟩
  | x :: xs, p, hp => by
    obtain ⟨w, r, q, hq, hr, hw, hb⟩ := bent_ok 32 100 (by decide) 5 7 V p hV.1 (by decide) hp
    obtain ⟨ys, p', h1, h2, h3, h4⟩ := bent_c4 hV s3 xs q hq
    have c : callD (d__law_bent 8) [.slot 1, .sh V] (E14 s0 (.own p) s2 s3 s4 (.sh V) s6 s7 s8 s9 s10 s11 (.sh x) s13) = some (if w then .own r else .sh r, E14 s0 (.own q) s2 s3 s4 (.sh V) s6 s7 s8 s9 s10 s11 (.sh x) s13) := callD_io rfl rfl rfl rfl hb
    refine ⟨r :: ys, p', fun y hy => ?_, by simp [h2], h3, ?_⟩
    · rcases List.mem_cons.mp hy with rfl | hy
      · exact ⟨fine_mono _ _ _ _ _ _ _ hr (Nat.le_refl _) (by decide) (by decide), by have := hV.2; omega⟩
      · exact h1 y hy
    · have hst : stepF T_law f_law_e4 (.name 12) .nil [12] x (E14 s0 (.own p) s2 s3 s4 (.sh V) s6 s7 s8 s9 s10 s11 .none s13) = some (some r, E14 s0 (.own q) s2 s3 s4 (.sh V) s6 s7 s8 s9 s10 s11 .none s13) := by
        rw [stepF_eq]
        cases w <;> simp [f_law_e4, setS, c, fz, wipeE]
      rw [loopC_cons, hst]
      simp only [h4]
end

section
variable (s0 s4 s6 : Slot)
theorem s12_ok {s : Int × Int} (hs : s ∈ sizes) {T : List PV} (hT : ∀ v ∈ T, TV v) (hTl : T.length ≤ 1000) {V3 V5 : PV} (h3 : TV V3) (h5 : TV V5) {p : PV} (hp : Pool p) : ∃ ρ, ex T_law fuel f_law_s12 (E14 s0 (.own p) (.sh (sz s)) (.sh V3) s4 (.sh V5) s6 (.own (.lst T)) .none .none .none .none .none .none) = some (.nx ρ) := by
  obtain ⟨y3, p1, a1, a2, a3, a4⟩ := bent_c3 s0 (.sh (sz s)) s4 s6 (.own (.lst T)) .none .none .none .none .none h3 (.sh V5) (rangeL 0 5) p hp
  obtain ⟨y5, p2, b1, b2, b3, b4⟩ := bent_c4 s0 (.sh (sz s)) s4 s6 (.own (.lst T)) .none .none .none .none .none h5 (.sh V3) (rangeL 0 5) p1 a3
  have hall : ∀ v ∈ T ++ y3 ++ y5, Gv v := fun v hv => by
    rcases List.mem_append.mp hv with hv | hv
    · rcases List.mem_append.mp hv with hv | hv
      · exact tv_gv (hT v hv)
      · exact a1 v hv
    · exact b1 v hv
  obtain ⟨ρ', hl, t8, t9, t10, t11, rfl⟩ := loopF_map (asg := asgF T_law (.name 8)) (body := exs T_law fuel f_law_l1) (fun t ρ => ∃ t8 t9 t10 t11, ρ = E14 s0 (.own p2) (.sh (sz s)) (.sh V3) s4 (.sh V5) s6 (.own (.lst T)) t8 t9 t10 t11 .none .none) id (T ++ y3 ++ y5) (E14 s0 (.own p2) (.sh (sz s)) (.sh V3) s4 (.sh V5) s6 (.own (.lst T)) .none .none .none .none .none .none) ⟨.none, .none, .none, .none, rfl⟩ (by
    intro t ht ρ hρ
    obtain ⟨t8, t9, t10, t11, rfl⟩ := hρ
    have hg := hall _ (List.getElem_mem ht)
    obtain ⟨r1, r2⟩ := repr_ok (n := 6) (K := 34) (by decide) hg.1 (Nat.le_trans hg.2 (by decide))
    obtain ⟨u11, hb⟩ := turn_ok s0 (.own p2) (.sh V3) s4 (.sh V5) s6 (.own (.lst T)) .none hs (deep_down 4 _ (deep_down 5 _ (fine_deep 6 _ hg.1))) (fun l e => by
      have h6 := hg.1
      rw [e] at h6
      exact Nat.le_trans (fine_tup.mp h6).1 (by decide)) r1 r2 t9 t10 t11
    exact ⟨_, _, rfl, hb, _, _, _, u11, rfl⟩)
  rw [List.map_id] at hl
  refine ⟨E14 s0 (.own p2) (.sh (sz s)) (.sh V3) s4 (.sh V5) s6 (.own (.lst T)) t8 t9 t10 t11 .none .none, ?_⟩
  · have hr : rng1 [.int 5] = some (rangeL 0 5) := rfl
    have q1 : y3.length < 16777216 := by
      rw [a2]; show (5 : Nat) < 16777216; decide
    have q2 : y5.length < 16777216 := by
      rw [b2]; show (5 : Nat) < 16777216; decide
    have e3 : y3.length = 5 := a2
    have e5 : y5.length = 5 := b2
    have d1 := add_lst T y3 (by omega)
    have d2 := add_lst (T ++ y3) y5 (by rw [List.length_append]; omega)
    have hseq : ∀ l, seqOf (.lst l) = some l := fun _ => rfl
    generalize T ++ y3 ++ y5 = VV at *
    generalize T ++ y3 = VY at *
    generalize rangeL 0 5 = XS at *
    generalize sz s = S at *
    simp [f_law_s12, -ev_fn, hr, noOwn, wipeE, a4, b4, backE, q1, q2, d1, d2, hseq, hl]
end
theorem law_true : ∀ ns : List Int, ns.length ≤ 63 → ∃ out, d_law.f [.scr ns] = some ⟨false, .bl true, out⟩ := by
  intro ns _
  obtain ⟨p, hp, g1⟩ := pool_ok ns
  have c1 := fun ρ => callD_sh (d := d__law_pool) (rs := [.sh (.scr ns)]) (ρ := ρ) rfl rfl rfl g1
  have e1 : ex T_law fuel f_law_s1 (E14 (.sh (.scr ns)) .none .none .none .none .none .none .none .none .none .none .none .none .none) = some (.nx (E14 (.sh (.scr ns)) (.own p) .none .none .none .none .none .none .none .none .none .none .none .none)) := by
    generalize PV.scr ns = S at *
    simp [f_law_s1, c1, setS]
  obtain ⟨s, p1, hs, hp1, g2⟩ := size_ok hp
  have c2 : callD d__law_size [.slot 1, .sh (.int 4)] (E14 (.sh (.scr ns)) (.own p) .none .none .none .none .none .none .none .none .none .none .none .none) = some (.sh (sz s), E14 (.sh (.scr ns)) (.own p1) .none .none .none .none .none .none .none .none .none .none .none .none) := callD_io rfl rfl rfl rfl g2
  have e2 : ex T_law fuel f_law_s2 (E14 (.sh (.scr ns)) (.own p) .none .none .none .none .none .none .none .none .none .none .none .none) = some (.nx (E14 (.sh (.scr ns)) (.own p1) (.sh (sz s)) .none .none .none .none .none .none .none .none .none .none .none)) := by
    generalize PV.scr ns = S at *
    generalize sz s = Z at *
    simp [f_law_s2, c2, setS]
  obtain ⟨k1, k2, k3⟩ := el_sm hs
  obtain ⟨B, p2, hB, hBl, hp2, e3⟩ := s3_ok (.sh (.scr ns)) .none .none .none .none .none .none .none .none hs hp1 .none .none
  obtain ⟨Q, p3, hQ, hp3, e4⟩ := s4_ok (.sh (.scr ns)) .none .none .none .none .none .none .none .none (B := B) (by omega) hp2 (.sh (sz s)) .none
  have hQl : Q.length = B.length := by rw [← hQ, List.length_map]
  have e5 := s5_ok (.sh (.scr ns)) .none .none .none .none .none .none .none .none (B := B) (Q := Q) (by omega) hQ (.own p3) (.sh (sz s)) .none
  have e6 := s6_ok (.sh (.scr ns)) .none .none .none .none .none .none .none .none hs (.own p3) (.sh (.tup (B.map ee))) .none (.sh (.tup (Q.map lv)))
  have e7 := s7_ok (.sh (.scr ns)) .none .none .none .none .none .none .none .none s (.own p3) (.sh (.tup (B.map ee))) (.sh (ee (at2 (EL s) 0))) (.sh (.tup (Q.map lv)))
  have h0 : smE (at2 (EL s) 0) := by
    have hl : 0 < (EL s).length := by
      have : (sizes.all fun s => decide (0 < (EL s).length)) = true := by decide +kernel
      exact of_decide_eq_true (List.all_eq_true.mp this s hs)
    refine k1 _ ?_
    unfold at2
    rw [List.getD_eq_getElem?_getD, List.getElem?_eq_getElem hl]
    exact List.getElem_mem hl
  have z0 : (0 : Int).natAbs ≤ 100 := by decide
  have z2 : (2 : Int).natAbs ≤ 100 := by decide
  have ho : smE ((0, 0, 2), (s.1, 0, 0)) := ⟨⟨z0, z0, z2⟩, ⟨k3, z0, z0⟩⟩
  generalize at2 (EL s) 0 = e0 at *
  generalize (((0, 0, 2), (s.1, 0, 0)) : Ed) = od at *
  have e8 := s8_ok (.sh (.scr ns)) (.own p3) (.sh (sz s)) .none .none .none .none .none .none (B := B) (by omega) e0 od (.sh (.tup (Q.map lv))) .none
  have e9 := s9_ok (.sh (.scr ns)) (.own p3) (.sh (sz s)) .none .none .none .none .none .none (B := B) (by omega) (tr8 B e0 od) (by show 10 ≤ 1000; decide) (.sh (ee e0)) (.sh (.tup (Q.map lv))) (.sh (ee od))
  have e10 := s10_ok (.sh (.scr ns)) (.own p3) (.sh (sz s)) .none .none .none .none .none .none (Q := Q) (by omega) e0 (tr8 B e0 od ++ tr9 B) (by show 13 ≤ 1000; decide) (.sh (.tup (B.map ee))) (.sh (ee od))
  have e11 := s11_ok (.sh (.scr ns)) (.own p3) (.sh (sz s)) .none .none .none .none .none .none e0 od (tr8 B e0 od ++ tr9 B ++ tr10 Q e0) (by show 21 ≤ 1000; decide) (.sh (.tup (B.map ee))) (.sh (.tup (Q.map lv)))
  have ht := tr_ok hs hB hBl hQ h0 ho
  have hV3 : TV (.tup (B.map ee)) := ht _ (by simp [tr8])
  have hV5 : TV (.tup (Q.map lv)) := ht _ (by simp [tr8, tr9, tr10])
  obtain ⟨ρ, e12⟩ := s12_ok (.sh (.scr ns)) (.sh (ee e0)) (.sh (ee od)) hs ht (by show 26 ≤ 1000; decide) hV3 hV5 hp3
  have e13 : ex T_law fuel f_law_s13 ρ = some (.ret (.sh (.bl true)) ρ) := by
    simp [f_law_s13]
  have main : ∃ o, exs T_law fuel f_law.body (E14 (.sh (.scr ns)) .none .none .none .none .none .none .none .none .none .none .none .none .none) = some o ∧ ∃ ρ, o = .ret (.sh (.bl true)) ρ := by
    unfold f_law
    exact goes e1 (goes e2 (goes e3 (goes e4 (goes e5 (goes e6 (goes e7 (goes e8 (goes e9 (goes e10 (goes e11 (goes e12 (ret_now e13 ⟨_, rfl⟩))))))))))))
  obtain ⟨o, hm, ρ, rfl⟩ := main
  refine ⟨.non, ?_⟩
  rw [df_law]
  have st : startE f_law [.scr ns] = E14 (.sh (.scr ns)) .none .none .none .none .none .none .none .none .none .none .none .none .none := rfl
  unfold runT
  rw [st, hm]
  rfl

end Py.K03
namespace Py.K03
open PySem PySem.Spec PyProof.Rows L2
/-! ### the text (printed) -/
abbrev pw : Program := PySem.Challenge.pw_paperworlds_k03_patterns_told
def top (i : Nat) : Stmt := pw.main.body.getD i (.Pass ⟨0, 0, 0, 0⟩)
theorem c_is_whole : chkD globs [] ["value"] ["value"] (defScope (top 1)) (defBody (top 1)) f_is_whole = true := by decide +kernel
theorem c_is_among : chkD globs ["is_whole"] ["value", "words"] ["value", "words"] (defScope (top 2)) (defBody (top 2)) f_is_among = true := by decide +kernel
theorem c_is_ascending : chkD globs ["is_whole", "is_among"] ["items", "k"] ["items"] (defScope (top 3)) (defBody (top 3)) f_is_ascending = true := by decide +kernel
theorem c_is_tile : chkD globs ["is_whole", "is_among", "is_ascending"] ["value", "item"] ["value"] (defScope (top 5)) (defBody (top 5)) f_is_tile = true := by decide +kernel
theorem c_beyond : chkD globs ["is_whole", "is_among", "is_ascending", "is_tile"] ["tile", "row", "column", "k", "step"] ["tile"] (defScope (top 6)) (defBody (top 6)) f_beyond = true := by decide +kernel
theorem c_neighbours : chkD globs ["is_whole", "is_among", "is_ascending", "is_tile", "beyond"] ["tile", "row", "column", "k"] ["tile"] (defScope (top 7)) (defBody (top 7)) f_neighbours = true := by decide +kernel
theorem c_is_on : chkD globs ["is_whole", "is_among", "is_ascending", "is_tile", "beyond", "neighbours"] ["size", "tile"] ["size", "tile"] (defScope (top 8)) (defBody (top 8)) f_is_on = true := by decide +kernel
theorem c_is_plane_edge : chkD globs ["is_whole", "is_among", "is_ascending", "is_tile", "beyond", "neighbours", "is_on"] ["value"] ["value"] (defScope (top 9)) (defBody (top 9)) f_is_plane_edge = true := by decide +kernel
theorem c_is_edge : chkD globs ["is_whole", "is_among", "is_ascending", "is_tile", "beyond", "neighbours", "is_on", "is_plane_edge"] ["size", "value"] ["size", "value"] (defScope (top 10)) (defBody (top 10)) f_is_edge = true := by decide +kernel
theorem c_is_bare : chkD globs ["is_whole", "is_among", "is_ascending", "is_tile", "beyond", "neighbours", "is_on", "is_plane_edge", "is_edge"] ["size", "value", "edge"] ["size", "value"] (defScope (top 13)) (defBody (top 13)) f_is_bare = true := by decide +kernel
theorem c_bare_of : chkD globs ["is_whole", "is_among", "is_ascending", "is_tile", "beyond", "neighbours", "is_on", "is_plane_edge", "is_edge", "is_bare"] ["pattern", "edge", "_"] ["pattern"] (defScope (top 15)) (defBody (top 15)) f_bare_of = true := by decide +kernel
theorem c_is_pattern : chkD globs ["is_whole", "is_among", "is_ascending", "is_tile", "beyond", "neighbours", "is_on", "is_plane_edge", "is_edge", "is_bare", "bare_of"] ["size", "value", "pair"] ["size", "value"] (defScope (top 14)) (defBody (top 14)) f_is_pattern = true := by decide +kernel
theorem c__law_same : chkD globs ["is_whole", "is_among", "is_ascending", "is_tile", "beyond", "neighbours", "is_on", "is_plane_edge", "is_edge", "is_bare", "bare_of", "is_pattern", "_law_same"] ["actual", "due", "k"] ["actual", "due"] (defScope (top 17)) (defBody (top 17)) f__law_same = true := by decide +kernel
theorem c__law_is_integer : chkD globs ["is_whole", "is_among", "is_ascending", "is_tile", "beyond", "neighbours", "is_on", "is_plane_edge", "is_edge", "is_bare", "bare_of", "is_pattern", "_law_same"] ["actual"] ["actual"] (defScope (top 18)) (defBody (top 18)) f__law_is_integer = true := by decide +kernel
theorem c__law_pool : chkD globs ["is_whole", "is_among", "is_ascending", "is_tile", "beyond", "neighbours", "is_on", "is_plane_edge", "is_edge", "is_bare", "bare_of", "is_pattern", "_law_same", "_law_is_integer"] ["script", "salt", "cell"] ["script"] (defScope (top 19)) (defBody (top 19)) f__law_pool = true := by decide +kernel
theorem c__law_spread : chkD globs ["is_whole", "is_among", "is_ascending", "is_tile", "beyond", "neighbours", "is_on", "is_plane_edge", "is_edge", "is_bare", "bare_of", "is_pattern", "_law_same", "_law_is_integer", "_law_pool"] ["cell", "mixed", "total", "k"] ["cell"] (defScope (top 20)) (defBody (top 20)) f__law_spread = true := by decide +kernel
theorem c__law_draw : chkD globs ["is_whole", "is_among", "is_ascending", "is_tile", "beyond", "neighbours", "is_on", "is_plane_edge", "is_edge", "is_bare", "bare_of", "is_pattern", "_law_same", "_law_is_integer", "_law_pool", "_law_spread"] ["pool", "many", "cell", "mixed", "value"] ["pool", "many"] (defScope (top 21)) (defBody (top 21)) f__law_draw = true := by decide +kernel
theorem c__law_bent : chkD globs ["is_whole", "is_among", "is_ascending", "is_tile", "beyond", "neighbours", "is_on", "is_plane_edge", "is_edge", "is_bare", "bare_of", "is_pattern", "_law_same", "_law_is_integer", "_law_pool", "_law_spread", "_law_draw", "_law_bent"] ["pool", "value", "at", "turn", "other", "items"] ["pool", "value"] (defScope (top 22)) (defBody (top 22)) f__law_bent = true := by decide +kernel
theorem c__law_booled : chkD globs ["is_whole", "is_among", "is_ascending", "is_tile", "beyond", "neighbours", "is_on", "is_plane_edge", "is_edge", "is_bare", "bare_of", "is_pattern", "_law_same", "_law_is_integer", "_law_pool", "_law_spread", "_law_draw", "_law_bent", "_law_booled"] ["value", "part"] ["value"] (defScope (top 23)) (defBody (top 23)) f__law_booled = true := by decide +kernel
theorem c__law_listed : chkD globs ["is_whole", "is_among", "is_ascending", "is_tile", "beyond", "neighbours", "is_on", "is_plane_edge", "is_edge", "is_bare", "bare_of", "is_pattern", "_law_same", "_law_is_integer", "_law_pool", "_law_spread", "_law_draw", "_law_bent", "_law_booled", "_law_listed"] ["value", "deep", "part"] ["value", "deep"] (defScope (top 24)) (defBody (top 24)) f__law_listed = true := by decide +kernel
theorem c__law_size : chkD globs ["is_whole", "is_among", "is_ascending", "is_tile", "beyond", "neighbours", "is_on", "is_plane_edge", "is_edge", "is_bare", "bare_of", "is_pattern", "_law_same", "_law_is_integer", "_law_pool", "_law_spread", "_law_draw", "_law_bent", "_law_booled", "_law_listed"] ["pool", "most", "small", "size"] ["pool", "most"] (defScope (top 25)) (defBody (top 25)) f__law_size = true := by decide +kernel
theorem c__law_triangles : chkD globs ["is_whole", "is_among", "is_ascending", "is_tile", "beyond", "neighbours", "is_on", "is_plane_edge", "is_edge", "is_bare", "bare_of", "is_pattern", "_law_same", "_law_is_integer", "_law_pool", "_law_spread", "_law_draw", "_law_bent", "_law_booled", "_law_listed", "_law_size"] ["size", "found", "row", "column", "k"] ["size"] (defScope (top 26)) (defBody (top 26)) f__law_triangles = true := by decide +kernel
theorem c__law_here : chkD globs ["is_whole", "is_among", "is_ascending", "is_tile", "beyond", "neighbours", "is_on", "is_plane_edge", "is_edge", "is_bare", "bare_of", "is_pattern", "_law_same", "_law_is_integer", "_law_pool", "_law_spread", "_law_draw", "_law_bent", "_law_booled", "_law_listed", "_law_size", "_law_triangles"] ["size", "tile"] ["size", "tile"] (defScope (top 27)) (defBody (top 27)) f__law_here = true := by decide +kernel
theorem c__law_edges : chkD globs ["is_whole", "is_among", "is_ascending", "is_tile", "beyond", "neighbours", "is_on", "is_plane_edge", "is_edge", "is_bare", "bare_of", "is_pattern", "_law_same", "_law_is_integer", "_law_pool", "_law_spread", "_law_draw", "_law_bent", "_law_booled", "_law_listed", "_law_size", "_law_triangles", "_law_here"] ["size", "found", "tile", "beside", "row", "column", "k", "other"] ["size"] (defScope (top 28)) (defBody (top 28)) f__law_edges = true := by decide +kernel
theorem c__law_is_bare : chkD globs ["is_whole", "is_among", "is_ascending", "is_tile", "beyond", "neighbours", "is_on", "is_plane_edge", "is_edge", "is_bare", "bare_of", "is_pattern", "_law_same", "_law_is_integer", "_law_pool", "_law_spread", "_law_draw", "_law_bent", "_law_booled", "_law_listed", "_law_size", "_law_triangles", "_law_here", "_law_edges"] ["size", "value", "edges", "item", "one"] ["size", "value"] (defScope (top 29)) (defBody (top 29)) f__law_is_bare = true := by decide +kernel
theorem c_law : chkD globs ["is_whole", "is_among", "is_ascending", "is_tile", "beyond", "neighbours", "is_on", "is_plane_edge", "is_edge", "is_bare", "bare_of", "is_pattern", "_law_same", "_law_is_integer", "_law_pool", "_law_spread", "_law_draw", "_law_bent", "_law_booled", "_law_listed", "_law_size", "_law_triangles", "_law_here", "_law_edges", "_law_is_bare"] ["script", "pool", "size", "bare", "edge", "pattern", "odd", "tried", "value", "due", "kept", "good", "k", "pair"] ["script"] (defScope (top 30)) (defBody (top 30)) f_law = true := by decide +kernel
abbrev FnP (K : PySem.W.Frag) (x : Str) (st : Stmt) (f : Addr) (fd : FuncData) : Prop := FunD K x x (defArgs st) (defBody st) (defScope st) [] [] f fd
def fn : List He.DefD := [⟨("is_whole", none), "is_whole", "is_whole", defArgs (top 1), defBody (top 1), defScope (top 1), [], []⟩, ⟨("is_among", none), "is_among", "is_among", defArgs (top 2), defBody (top 2), defScope (top 2), [], []⟩, ⟨("is_ascending", none), "is_ascending", "is_ascending", defArgs (top 3), defBody (top 3), defScope (top 3), [], []⟩, ⟨("is_tile", none), "is_tile", "is_tile", defArgs (top 5), defBody (top 5), defScope (top 5), [], []⟩, ⟨("beyond", none), "beyond", "beyond", defArgs (top 6), defBody (top 6), defScope (top 6), [], []⟩, ⟨("neighbours", none), "neighbours", "neighbours", defArgs (top 7), defBody (top 7), defScope (top 7), [], []⟩, ⟨("is_on", none), "is_on", "is_on", defArgs (top 8), defBody (top 8), defScope (top 8), [], []⟩, ⟨("is_plane_edge", none), "is_plane_edge", "is_plane_edge", defArgs (top 9), defBody (top 9), defScope (top 9), [], []⟩, ⟨("is_edge", none), "is_edge", "is_edge", defArgs (top 10), defBody (top 10), defScope (top 10), [], []⟩, ⟨("is_bare", none), "is_bare", "is_bare", defArgs (top 13), defBody (top 13), defScope (top 13), [], []⟩, ⟨("bare_of", none), "bare_of", "bare_of", defArgs (top 15), defBody (top 15), defScope (top 15), [], []⟩, ⟨("is_pattern", none), "is_pattern", "is_pattern", defArgs (top 14), defBody (top 14), defScope (top 14), [], []⟩, ⟨("_law_same", none), "_law_same", "_law_same", defArgs (top 17), defBody (top 17), defScope (top 17), [], []⟩, ⟨("_law_is_integer", none), "_law_is_integer", "_law_is_integer", defArgs (top 18), defBody (top 18), defScope (top 18), [], []⟩, ⟨("_law_pool", none), "_law_pool", "_law_pool", defArgs (top 19), defBody (top 19), defScope (top 19), [], []⟩, ⟨("_law_spread", none), "_law_spread", "_law_spread", defArgs (top 20), defBody (top 20), defScope (top 20), [], []⟩, ⟨("_law_draw", none), "_law_draw", "_law_draw", defArgs (top 21), defBody (top 21), defScope (top 21), [], []⟩, ⟨("_law_bent", none), "_law_bent", "_law_bent", defArgs (top 22), defBody (top 22), defScope (top 22), [], []⟩, ⟨("_law_booled", none), "_law_booled", "_law_booled", defArgs (top 23), defBody (top 23), defScope (top 23), [], []⟩, ⟨("_law_listed", none), "_law_listed", "_law_listed", defArgs (top 24), defBody (top 24), defScope (top 24), [], []⟩, ⟨("_law_size", none), "_law_size", "_law_size", defArgs (top 25), defBody (top 25), defScope (top 25), [], []⟩, ⟨("_law_triangles", none), "_law_triangles", "_law_triangles", defArgs (top 26), defBody (top 26), defScope (top 26), [], []⟩, ⟨("_law_here", none), "_law_here", "_law_here", defArgs (top 27), defBody (top 27), defScope (top 27), [], []⟩, ⟨("_law_edges", none), "_law_edges", "_law_edges", defArgs (top 28), defBody (top 28), defScope (top 28), [], []⟩, ⟨("_law_is_bare", none), "_law_is_bare", "_law_is_bare", defArgs (top 29), defBody (top 29), defScope (top 29), [], []⟩, ⟨("law", none), "law", "law", defArgs (top 30), defBody (top 30), defScope (top 30), [], []⟩]
def fa : List He.Fa := [.glo "is_whole", .glo "is_among", .glo "is_ascending", .glo "is_tile", .glo "beyond", .glo "neighbours", .glo "is_on", .glo "is_plane_edge", .glo "is_edge", .glo "is_bare", .glo "bare_of", .glo "is_pattern", .glo "_law_same", .glo "_law_is_integer", .glo "_law_pool", .glo "_law_spread", .glo "_law_draw", .glo "_law_bent", .glo "_law_booled", .glo "_law_listed", .glo "_law_size", .glo "_law_triangles", .glo "_law_here", .glo "_law_edges", .glo "_law_is_bare", .glo "law", .free "len", .free "abs", .free "int", .free "str", .free "min", .free "max", .free "sum", .free "sorted", .free "tuple", .free "list", .free "all", .free "any", .free "bool", .free "isinstance", .free "range", .free "zip", .free "set", .free "dict", .free "repr"]
abbrev R : PySem.W.OpenRow := PySem.W.OpenLaw.row PySem.Challenge.rw_paperworlds_k03_patterns_told
def tups : List (Str × PV) := [("KINDS", .tup [.str [109], .str [118]])]
def tbs : List He.Tab := []
abbrev hk : PySem.W.Hook := He.hookX 4 fa fn tbs [] (exAll tups)
def ob (s : PySem.W.SharedT) : He.AlX := He.obsX 4 fa fn tbs [] (exAll tups) (HandSHeadRun.getT s)
theorem ob_eq (s : PySem.W.SharedT) : ob s = hk.obs s.abs := He.obsX_eq (HandSHeadRun.getT_eq s)
def loose : List Str := ["is_whole", "is_among", "is_ascending", "is_tile", "beyond", "neighbours", "is_on", "is_plane_edge", "is_edge", "KINDS", "is_bare", "is_pattern", "bare_of", "_law_same", "_law_is_integer", "_law_pool", "_law_spread", "_law_draw", "_law_bent", "_law_booled", "_law_listed", "_law_size", "_law_triangles", "_law_here", "_law_edges", "_law_is_bare"]
theorem run (w : World) : HandSHeadRun.RunEq R (PySem.W.view R.prog [30]) hk ob 4000 loose w := by
  intro os
  kernel_rfl
section
variable {P : Program} {w : World} {K : PySem.W.Frag} {mg : Str → Option Value} {base h : Heap}
theorem tell (X : K.In h) (G : h.Ns mainGlobals mg) (c : He.SaysD fa fn K) (hx : exAll tups K = true) (ht : He.SaysT fa fn tbs w K) : Tell (K, w) mg glob globs := by
  refine ⟨fun x hx => ?_, fun g v hv => ?_⟩
  · have hx : x ∈ bltNames := hx
    simp only [bltNames, List.mem_cons, List.not_mem_nil, or_false] at hx
    rcases hx with rfl | rfl | rfl | rfl | rfl | rfl | rfl | rfl | rfl | rfl | rfl | rfl | rfl | rfl | rfl | rfl | rfl | rfl | rfl
    · exact He.free_ok X G (c.fact 26 (f := .free "len") rfl)
    · exact He.free_ok X G (c.fact 27 (f := .free "abs") rfl)
    · exact He.free_ok X G (c.fact 28 (f := .free "int") rfl)
    · exact He.free_ok X G (c.fact 29 (f := .free "str") rfl)
    · exact He.free_ok X G (c.fact 30 (f := .free "min") rfl)
    · exact He.free_ok X G (c.fact 31 (f := .free "max") rfl)
    · exact He.free_ok X G (c.fact 32 (f := .free "sum") rfl)
    · exact He.free_ok X G (c.fact 33 (f := .free "sorted") rfl)
    · exact He.free_ok X G (c.fact 34 (f := .free "tuple") rfl)
    · exact He.free_ok X G (c.fact 35 (f := .free "list") rfl)
    · exact He.free_ok X G (c.fact 36 (f := .free "all") rfl)
    · exact He.free_ok X G (c.fact 37 (f := .free "any") rfl)
    · exact He.free_ok X G (c.fact 38 (f := .free "bool") rfl)
    · exact He.free_ok X G (c.fact 39 (f := .free "isinstance") rfl)
    · exact He.free_ok X G (c.fact 40 (f := .free "range") rfl)
    · exact He.free_ok X G (c.fact 41 (f := .free "zip") rfl)
    · exact He.free_ok X G (c.fact 42 (f := .free "set") rfl)
    · exact He.free_ok X G (c.fact 43 (f := .free "dict") rfl)
    · exact He.free_ok X G (c.fact 44 (f := .free "repr") rfl)
  · have hg : g < 1 := by
      by_cases hg : g < 1
      · exact hg
      · exfalso; unfold glob at hv; rw [List.getElem?_eq_none (by simp; omega)] at hv; cases hv
    match g, hg, hv with
    | 0, _, hv =>
      obtain rfl := Option.some.inj hv
      obtain ⟨u, y, h1, h2, h3⟩ := exOne_ok (w := w) X G (exAll_ok hx (i := 0) rfl)
      exact ⟨"KINDS", u, y, rfl, h1, h2, h3⟩
theorem defs_ok (X : K.In h) (G : h.Ns mainGlobals mg) (c : He.SaysD fa fn K) (hx : exAll tups K = true) (ht : He.SaysT fa fn tbs w K) {f : Addr} (hfa : mg ("law" : Str) = some (.ref f)) :
    ∃ fd : FuncData, (∀ (s : Shared) (v : Value), BindsTo s fd ⟨[v], []⟩ [("script", v)]) ∧ ∀ base : Heap, K.In base → base.Ns mainGlobals mg → FnG P w K mg base 54 f fd ["script"] (spD (K, w) 1 d_law) := by
  have T := tell (w := w) X G c hx ht
  obtain ⟨fd0, F0⟩ := c.def_ 0 rfl
  have g0 := He.glo_ok X G (c.fact 0 (f := .glo "is_whole") rfl)
  have b0 : Binds K fd0 ["value"] [] := FunD.bindsN F0 fun _ _ _ _ _ _ us hl => match us, hl with | [_], _ => rfl
  obtain ⟨fd1, F1⟩ := c.def_ 1 rfl
  have g1 := He.glo_ok X G (c.fact 1 (f := .glo "is_among") rfl)
  have b1 : Binds K fd1 ["value", "words"] [] := FunD.bindsN F1 fun _ _ _ _ _ _ us hl => match us, hl with | [_, _], _ => rfl
  obtain ⟨fd2, F2⟩ := c.def_ 2 rfl
  have g2 := He.glo_ok X G (c.fact 2 (f := .glo "is_ascending") rfl)
  have b2 : Binds K fd2 ["items"] [] := FunD.bindsN F2 fun _ _ _ _ _ _ us hl => match us, hl with | [_], _ => rfl
  obtain ⟨fd3, F3⟩ := c.def_ 3 rfl
  have g3 := He.glo_ok X G (c.fact 3 (f := .glo "is_tile") rfl)
  have b3 : Binds K fd3 ["value"] [] := FunD.bindsN F3 fun _ _ _ _ _ _ us hl => match us, hl with | [_], _ => rfl
  obtain ⟨fd4, F4⟩ := c.def_ 4 rfl
  have g4 := He.glo_ok X G (c.fact 4 (f := .glo "beyond") rfl)
  have b4 : Binds K fd4 ["tile"] [] := FunD.bindsN F4 fun _ _ _ _ _ _ us hl => match us, hl with | [_], _ => rfl
  obtain ⟨fd5, F5⟩ := c.def_ 5 rfl
  have g5 := He.glo_ok X G (c.fact 5 (f := .glo "neighbours") rfl)
  have b5 : Binds K fd5 ["tile"] [] := FunD.bindsN F5 fun _ _ _ _ _ _ us hl => match us, hl with | [_], _ => rfl
  obtain ⟨fd6, F6⟩ := c.def_ 6 rfl
  have g6 := He.glo_ok X G (c.fact 6 (f := .glo "is_on") rfl)
  have b6 : Binds K fd6 ["size", "tile"] [] := FunD.bindsN F6 fun _ _ _ _ _ _ us hl => match us, hl with | [_, _], _ => rfl
  obtain ⟨fd7, F7⟩ := c.def_ 7 rfl
  have g7 := He.glo_ok X G (c.fact 7 (f := .glo "is_plane_edge") rfl)
  have b7 : Binds K fd7 ["value"] [] := FunD.bindsN F7 fun _ _ _ _ _ _ us hl => match us, hl with | [_], _ => rfl
  obtain ⟨fd8, F8⟩ := c.def_ 8 rfl
  have g8 := He.glo_ok X G (c.fact 8 (f := .glo "is_edge") rfl)
  have b8 : Binds K fd8 ["size", "value"] [] := FunD.bindsN F8 fun _ _ _ _ _ _ us hl => match us, hl with | [_, _], _ => rfl
  obtain ⟨fd9, F9⟩ := c.def_ 9 rfl
  have g9 := He.glo_ok X G (c.fact 9 (f := .glo "is_bare") rfl)
  have b9 : Binds K fd9 ["size", "value"] [] := FunD.bindsN F9 fun _ _ _ _ _ _ us hl => match us, hl with | [_, _], _ => rfl
  obtain ⟨fd10, F10⟩ := c.def_ 10 rfl
  have g10 := He.glo_ok X G (c.fact 10 (f := .glo "bare_of") rfl)
  have b10 : Binds K fd10 ["pattern"] [] := FunD.bindsN F10 fun _ _ _ _ _ _ us hl => match us, hl with | [_], _ => rfl
  obtain ⟨fd11, F11⟩ := c.def_ 11 rfl
  have g11 := He.glo_ok X G (c.fact 11 (f := .glo "is_pattern") rfl)
  have b11 : Binds K fd11 ["size", "value"] [] := FunD.bindsN F11 fun _ _ _ _ _ _ us hl => match us, hl with | [_, _], _ => rfl
  obtain ⟨fd12, F12⟩ := c.def_ 12 rfl
  have g12 := He.glo_ok X G (c.fact 12 (f := .glo "_law_same") rfl)
  have b12 : Binds K fd12 ["actual", "due"] [] := FunD.bindsN F12 fun _ _ _ _ _ _ us hl => match us, hl with | [_, _], _ => rfl
  obtain ⟨fd13, F13⟩ := c.def_ 13 rfl
  have g13 := He.glo_ok X G (c.fact 13 (f := .glo "_law_is_integer") rfl)
  have b13 : Binds K fd13 ["actual"] [] := FunD.bindsN F13 fun _ _ _ _ _ _ us hl => match us, hl with | [_], _ => rfl
  obtain ⟨fd14, F14⟩ := c.def_ 14 rfl
  have g14 := He.glo_ok X G (c.fact 14 (f := .glo "_law_pool") rfl)
  have b14 : Binds K fd14 ["script"] [] := FunD.bindsN F14 fun _ _ _ _ _ _ us hl => match us, hl with | [_], _ => rfl
  obtain ⟨fd15, F15⟩ := c.def_ 15 rfl
  have g15 := He.glo_ok X G (c.fact 15 (f := .glo "_law_spread") rfl)
  have b15 : Binds K fd15 ["cell"] [] := FunD.bindsN F15 fun _ _ _ _ _ _ us hl => match us, hl with | [_], _ => rfl
  obtain ⟨fd16, F16⟩ := c.def_ 16 rfl
  have g16 := He.glo_ok X G (c.fact 16 (f := .glo "_law_draw") rfl)
  have b16 : Binds K fd16 ["pool", "many"] [] := FunD.bindsN F16 fun _ _ _ _ _ _ us hl => match us, hl with | [_, _], _ => rfl
  obtain ⟨fd17, F17⟩ := c.def_ 17 rfl
  have g17 := He.glo_ok X G (c.fact 17 (f := .glo "_law_bent") rfl)
  have b17 : Binds K fd17 ["pool", "value"] [] := FunD.bindsN F17 fun _ _ _ _ _ _ us hl => match us, hl with | [_, _], _ => rfl
  obtain ⟨fd18, F18⟩ := c.def_ 18 rfl
  have g18 := He.glo_ok X G (c.fact 18 (f := .glo "_law_booled") rfl)
  have b18 : Binds K fd18 ["value"] [] := FunD.bindsN F18 fun _ _ _ _ _ _ us hl => match us, hl with | [_], _ => rfl
  obtain ⟨fd19, F19⟩ := c.def_ 19 rfl
  have g19 := He.glo_ok X G (c.fact 19 (f := .glo "_law_listed") rfl)
  have b19 : Binds K fd19 ["value", "deep"] [] := FunD.bindsN F19 fun _ _ _ _ _ _ us hl => match us, hl with | [_, _], _ => rfl
  obtain ⟨fd20, F20⟩ := c.def_ 20 rfl
  have g20 := He.glo_ok X G (c.fact 20 (f := .glo "_law_size") rfl)
  have b20 : Binds K fd20 ["pool", "most"] [] := FunD.bindsN F20 fun _ _ _ _ _ _ us hl => match us, hl with | [_, _], _ => rfl
  obtain ⟨fd21, F21⟩ := c.def_ 21 rfl
  have g21 := He.glo_ok X G (c.fact 21 (f := .glo "_law_triangles") rfl)
  have b21 : Binds K fd21 ["size"] [] := FunD.bindsN F21 fun _ _ _ _ _ _ us hl => match us, hl with | [_], _ => rfl
  obtain ⟨fd22, F22⟩ := c.def_ 22 rfl
  have g22 := He.glo_ok X G (c.fact 22 (f := .glo "_law_here") rfl)
  have b22 : Binds K fd22 ["size", "tile"] [] := FunD.bindsN F22 fun _ _ _ _ _ _ us hl => match us, hl with | [_, _], _ => rfl
  obtain ⟨fd23, F23⟩ := c.def_ 23 rfl
  have g23 := He.glo_ok X G (c.fact 23 (f := .glo "_law_edges") rfl)
  have b23 : Binds K fd23 ["size"] [] := FunD.bindsN F23 fun _ _ _ _ _ _ us hl => match us, hl with | [_], _ => rfl
  obtain ⟨fd24, F24⟩ := c.def_ 24 rfl
  have g24 := He.glo_ok X G (c.fact 24 (f := .glo "_law_is_bare") rfl)
  have b24 : Binds K fd24 ["size", "value"] [] := FunD.bindsN F24 fun _ _ _ _ _ _ us hl => match us, hl with | [_, _], _ => rfl
  obtain ⟨fd25, F25⟩ := c.def_ 25 rfl
  have g25 := He.glo_ok X G (c.fact 25 (f := .glo "law") rfl)
  have e := hfa.symm.trans g25
  cases e
  have bl := FunD.bindsA (ps := ["script"]) F25 fun _ _ _ _ _ _ us hl => match us, hl with | [_], _ => rfl
  refine ⟨fd25, fun s v => bl s [v] rfl, fun base _ _ => ?_⟩
  have A0 : AllOk P w K mg base 0 [] [] := AllOk.nil
  have A1 : AllOk P w K mg base 1 ["is_whole"] [d_is_whole] := AllOk.snoc (k := 0) (d := d_is_whole) (x := "is_whole") rfl A0 ⟨_, fd0, _, g0, F0.kp, b0, run_ok (n := fuel) F0 T A0 c_is_whole⟩
  have A2 : AllOk P w K mg base 2 ["is_whole", "is_among"] [d_is_whole, d_is_among] := AllOk.snoc (k := 1) (d := d_is_among) (x := "is_among") rfl A1 ⟨_, fd1, _, g1, F1.kp, b1, run_ok (n := fuel) F1 T A1 c_is_among⟩
  have A3 : AllOk P w K mg base 3 ["is_whole", "is_among", "is_ascending"] [d_is_whole, d_is_among, d_is_ascending] := AllOk.snoc (k := 2) (d := d_is_ascending) (x := "is_ascending") rfl A2 ⟨_, fd2, _, g2, F2.kp, b2, run_ok (n := fuel) F2 T A2 c_is_ascending⟩
  have A4 : AllOk P w K mg base 4 ["is_whole", "is_among", "is_ascending", "is_tile"] [d_is_whole, d_is_among, d_is_ascending, d_is_tile] := AllOk.snoc (k := 3) (d := d_is_tile) (x := "is_tile") rfl A3 ⟨_, fd3, _, g3, F3.kp, b3, run_ok (n := fuel) F3 T A3 c_is_tile⟩
  have A5 : AllOk P w K mg base 5 ["is_whole", "is_among", "is_ascending", "is_tile", "beyond"] [d_is_whole, d_is_among, d_is_ascending, d_is_tile, d_beyond] := AllOk.snoc (k := 4) (d := d_beyond) (x := "beyond") rfl A4 ⟨_, fd4, _, g4, F4.kp, b4, run_ok (n := fuel) F4 T A4 c_beyond⟩
  have A6 : AllOk P w K mg base 6 ["is_whole", "is_among", "is_ascending", "is_tile", "beyond", "neighbours"] [d_is_whole, d_is_among, d_is_ascending, d_is_tile, d_beyond, d_neighbours] := AllOk.snoc (k := 5) (d := d_neighbours) (x := "neighbours") rfl A5 ⟨_, fd5, _, g5, F5.kp, b5, run_ok (n := fuel) F5 T A5 c_neighbours⟩
  have A7 : AllOk P w K mg base 7 ["is_whole", "is_among", "is_ascending", "is_tile", "beyond", "neighbours", "is_on"] [d_is_whole, d_is_among, d_is_ascending, d_is_tile, d_beyond, d_neighbours, d_is_on] := AllOk.snoc (k := 6) (d := d_is_on) (x := "is_on") rfl A6 ⟨_, fd6, _, g6, F6.kp, b6, run_ok (n := fuel) F6 T A6 c_is_on⟩
  have A8 : AllOk P w K mg base 8 ["is_whole", "is_among", "is_ascending", "is_tile", "beyond", "neighbours", "is_on", "is_plane_edge"] [d_is_whole, d_is_among, d_is_ascending, d_is_tile, d_beyond, d_neighbours, d_is_on, d_is_plane_edge] := AllOk.snoc (k := 7) (d := d_is_plane_edge) (x := "is_plane_edge") rfl A7 ⟨_, fd7, _, g7, F7.kp, b7, run_ok (n := fuel) F7 T A7 c_is_plane_edge⟩
  have A9 : AllOk P w K mg base 9 ["is_whole", "is_among", "is_ascending", "is_tile", "beyond", "neighbours", "is_on", "is_plane_edge", "is_edge"] [d_is_whole, d_is_among, d_is_ascending, d_is_tile, d_beyond, d_neighbours, d_is_on, d_is_plane_edge, d_is_edge] := AllOk.snoc (k := 8) (d := d_is_edge) (x := "is_edge") rfl A8 ⟨_, fd8, _, g8, F8.kp, b8, run_ok (n := fuel) F8 T A8 c_is_edge⟩
  have A10 : AllOk P w K mg base 10 ["is_whole", "is_among", "is_ascending", "is_tile", "beyond", "neighbours", "is_on", "is_plane_edge", "is_edge", "is_bare"] [d_is_whole, d_is_among, d_is_ascending, d_is_tile, d_beyond, d_neighbours, d_is_on, d_is_plane_edge, d_is_edge, d_is_bare] := AllOk.snoc (k := 9) (d := d_is_bare) (x := "is_bare") rfl A9 ⟨_, fd9, _, g9, F9.kp, b9, run_ok (n := fuel) F9 T A9 c_is_bare⟩
  have A11 : AllOk P w K mg base 11 ["is_whole", "is_among", "is_ascending", "is_tile", "beyond", "neighbours", "is_on", "is_plane_edge", "is_edge", "is_bare", "bare_of"] [d_is_whole, d_is_among, d_is_ascending, d_is_tile, d_beyond, d_neighbours, d_is_on, d_is_plane_edge, d_is_edge, d_is_bare, d_bare_of] := AllOk.snoc (k := 10) (d := d_bare_of) (x := "bare_of") rfl A10 ⟨_, fd10, _, g10, F10.kp, b10, run_ok (n := fuel) F10 T A10 c_bare_of⟩
  have A12 : AllOk P w K mg base 12 ["is_whole", "is_among", "is_ascending", "is_tile", "beyond", "neighbours", "is_on", "is_plane_edge", "is_edge", "is_bare", "bare_of", "is_pattern"] [d_is_whole, d_is_among, d_is_ascending, d_is_tile, d_beyond, d_neighbours, d_is_on, d_is_plane_edge, d_is_edge, d_is_bare, d_bare_of, d_is_pattern] := AllOk.snoc (k := 11) (d := d_is_pattern) (x := "is_pattern") rfl A11 ⟨_, fd11, _, g11, F11.kp, b11, run_ok (n := fuel) F11 T A11 c_is_pattern⟩
  have R12 := rec_ok (d := d__law_same) (ds := [d_is_whole, d_is_among, d_is_ascending, d_is_tile, d_beyond, d_neighbours, d_is_on, d_is_plane_edge, d_is_edge, d_is_bare, d_bare_of, d_is_pattern]) (n := fuel) (fd := f__law_same) (fun m => rfl) rfl F12 T A12 rfl c__law_same g12 b12 8
  have A13 : AllOk P w K mg base 20 ["is_whole", "is_among", "is_ascending", "is_tile", "beyond", "neighbours", "is_on", "is_plane_edge", "is_edge", "is_bare", "bare_of", "is_pattern", "_law_same"] [d_is_whole, d_is_among, d_is_ascending, d_is_tile, d_beyond, d_neighbours, d_is_on, d_is_plane_edge, d_is_edge, d_is_bare, d_bare_of, d_is_pattern, d__law_same 8] := AllOk.snocs (j := 12) (k := 19) A12 rfl (by decide) R12
  have A14 : AllOk P w K mg base 21 ["is_whole", "is_among", "is_ascending", "is_tile", "beyond", "neighbours", "is_on", "is_plane_edge", "is_edge", "is_bare", "bare_of", "is_pattern", "_law_same", "_law_is_integer"] [d_is_whole, d_is_among, d_is_ascending, d_is_tile, d_beyond, d_neighbours, d_is_on, d_is_plane_edge, d_is_edge, d_is_bare, d_bare_of, d_is_pattern, d__law_same 8, d__law_is_integer] := AllOk.snoc (k := 20) (d := d__law_is_integer) (x := "_law_is_integer") rfl A13 ⟨_, fd13, _, g13, F13.kp, b13, run_ok (n := fuel) F13 T A13 c__law_is_integer⟩
  have A15 : AllOk P w K mg base 22 ["is_whole", "is_among", "is_ascending", "is_tile", "beyond", "neighbours", "is_on", "is_plane_edge", "is_edge", "is_bare", "bare_of", "is_pattern", "_law_same", "_law_is_integer", "_law_pool"] [d_is_whole, d_is_among, d_is_ascending, d_is_tile, d_beyond, d_neighbours, d_is_on, d_is_plane_edge, d_is_edge, d_is_bare, d_bare_of, d_is_pattern, d__law_same 8, d__law_is_integer, d__law_pool] := AllOk.snoc (k := 21) (d := d__law_pool) (x := "_law_pool") rfl A14 ⟨_, fd14, _, g14, F14.kp, b14, run_ok (n := fuel) F14 T A14 c__law_pool⟩
  have A16 : AllOk P w K mg base 23 ["is_whole", "is_among", "is_ascending", "is_tile", "beyond", "neighbours", "is_on", "is_plane_edge", "is_edge", "is_bare", "bare_of", "is_pattern", "_law_same", "_law_is_integer", "_law_pool", "_law_spread"] [d_is_whole, d_is_among, d_is_ascending, d_is_tile, d_beyond, d_neighbours, d_is_on, d_is_plane_edge, d_is_edge, d_is_bare, d_bare_of, d_is_pattern, d__law_same 8, d__law_is_integer, d__law_pool, d__law_spread] := AllOk.snoc (k := 22) (d := d__law_spread) (x := "_law_spread") rfl A15 ⟨_, fd15, _, g15, F15.kp, b15, run_ok (n := fuel) F15 T A15 c__law_spread⟩
  have A17 : AllOk P w K mg base 24 ["is_whole", "is_among", "is_ascending", "is_tile", "beyond", "neighbours", "is_on", "is_plane_edge", "is_edge", "is_bare", "bare_of", "is_pattern", "_law_same", "_law_is_integer", "_law_pool", "_law_spread", "_law_draw"] [d_is_whole, d_is_among, d_is_ascending, d_is_tile, d_beyond, d_neighbours, d_is_on, d_is_plane_edge, d_is_edge, d_is_bare, d_bare_of, d_is_pattern, d__law_same 8, d__law_is_integer, d__law_pool, d__law_spread, d__law_draw] := AllOk.snoc (k := 23) (d := d__law_draw) (x := "_law_draw") rfl A16 ⟨_, fd16, _, g16, F16.kp, b16, run_ok (n := fuel) F16 T A16 c__law_draw⟩
  have R17 := rec_ok (d := d__law_bent) (ds := [d_is_whole, d_is_among, d_is_ascending, d_is_tile, d_beyond, d_neighbours, d_is_on, d_is_plane_edge, d_is_edge, d_is_bare, d_bare_of, d_is_pattern, d__law_same 8, d__law_is_integer, d__law_pool, d__law_spread, d__law_draw]) (n := fuel) (fd := f__law_bent) (fun m => rfl) rfl F17 T A17 rfl c__law_bent g17 b17 8
  have A18 : AllOk P w K mg base 32 ["is_whole", "is_among", "is_ascending", "is_tile", "beyond", "neighbours", "is_on", "is_plane_edge", "is_edge", "is_bare", "bare_of", "is_pattern", "_law_same", "_law_is_integer", "_law_pool", "_law_spread", "_law_draw", "_law_bent"] [d_is_whole, d_is_among, d_is_ascending, d_is_tile, d_beyond, d_neighbours, d_is_on, d_is_plane_edge, d_is_edge, d_is_bare, d_bare_of, d_is_pattern, d__law_same 8, d__law_is_integer, d__law_pool, d__law_spread, d__law_draw, d__law_bent 8] := AllOk.snocs (j := 24) (k := 31) A17 rfl (by decide) R17
  have R18 := rec_ok (d := d__law_booled) (ds := [d_is_whole, d_is_among, d_is_ascending, d_is_tile, d_beyond, d_neighbours, d_is_on, d_is_plane_edge, d_is_edge, d_is_bare, d_bare_of, d_is_pattern, d__law_same 8, d__law_is_integer, d__law_pool, d__law_spread, d__law_draw, d__law_bent 8]) (n := fuel) (fd := f__law_booled) (fun m => rfl) rfl F18 T A18 rfl c__law_booled g18 b18 8
  have A19 : AllOk P w K mg base 40 ["is_whole", "is_among", "is_ascending", "is_tile", "beyond", "neighbours", "is_on", "is_plane_edge", "is_edge", "is_bare", "bare_of", "is_pattern", "_law_same", "_law_is_integer", "_law_pool", "_law_spread", "_law_draw", "_law_bent", "_law_booled"] [d_is_whole, d_is_among, d_is_ascending, d_is_tile, d_beyond, d_neighbours, d_is_on, d_is_plane_edge, d_is_edge, d_is_bare, d_bare_of, d_is_pattern, d__law_same 8, d__law_is_integer, d__law_pool, d__law_spread, d__law_draw, d__law_bent 8, d__law_booled 8] := AllOk.snocs (j := 32) (k := 39) A18 rfl (by decide) R18
  have R19 := rec_ok (d := d__law_listed) (ds := [d_is_whole, d_is_among, d_is_ascending, d_is_tile, d_beyond, d_neighbours, d_is_on, d_is_plane_edge, d_is_edge, d_is_bare, d_bare_of, d_is_pattern, d__law_same 8, d__law_is_integer, d__law_pool, d__law_spread, d__law_draw, d__law_bent 8, d__law_booled 8]) (n := fuel) (fd := f__law_listed) (fun m => rfl) rfl F19 T A19 rfl c__law_listed g19 b19 8
  have A20 : AllOk P w K mg base 48 ["is_whole", "is_among", "is_ascending", "is_tile", "beyond", "neighbours", "is_on", "is_plane_edge", "is_edge", "is_bare", "bare_of", "is_pattern", "_law_same", "_law_is_integer", "_law_pool", "_law_spread", "_law_draw", "_law_bent", "_law_booled", "_law_listed"] [d_is_whole, d_is_among, d_is_ascending, d_is_tile, d_beyond, d_neighbours, d_is_on, d_is_plane_edge, d_is_edge, d_is_bare, d_bare_of, d_is_pattern, d__law_same 8, d__law_is_integer, d__law_pool, d__law_spread, d__law_draw, d__law_bent 8, d__law_booled 8, d__law_listed 8] := AllOk.snocs (j := 40) (k := 47) A19 rfl (by decide) R19
  have A21 : AllOk P w K mg base 49 ["is_whole", "is_among", "is_ascending", "is_tile", "beyond", "neighbours", "is_on", "is_plane_edge", "is_edge", "is_bare", "bare_of", "is_pattern", "_law_same", "_law_is_integer", "_law_pool", "_law_spread", "_law_draw", "_law_bent", "_law_booled", "_law_listed", "_law_size"] [d_is_whole, d_is_among, d_is_ascending, d_is_tile, d_beyond, d_neighbours, d_is_on, d_is_plane_edge, d_is_edge, d_is_bare, d_bare_of, d_is_pattern, d__law_same 8, d__law_is_integer, d__law_pool, d__law_spread, d__law_draw, d__law_bent 8, d__law_booled 8, d__law_listed 8, d__law_size] := AllOk.snoc (k := 48) (d := d__law_size) (x := "_law_size") rfl A20 ⟨_, fd20, _, g20, F20.kp, b20, run_ok (n := fuel) F20 T A20 c__law_size⟩
  have A22 : AllOk P w K mg base 50 ["is_whole", "is_among", "is_ascending", "is_tile", "beyond", "neighbours", "is_on", "is_plane_edge", "is_edge", "is_bare", "bare_of", "is_pattern", "_law_same", "_law_is_integer", "_law_pool", "_law_spread", "_law_draw", "_law_bent", "_law_booled", "_law_listed", "_law_size", "_law_triangles"] [d_is_whole, d_is_among, d_is_ascending, d_is_tile, d_beyond, d_neighbours, d_is_on, d_is_plane_edge, d_is_edge, d_is_bare, d_bare_of, d_is_pattern, d__law_same 8, d__law_is_integer, d__law_pool, d__law_spread, d__law_draw, d__law_bent 8, d__law_booled 8, d__law_listed 8, d__law_size, d__law_triangles] := AllOk.snoc (k := 49) (d := d__law_triangles) (x := "_law_triangles") rfl A21 ⟨_, fd21, _, g21, F21.kp, b21, run_ok (n := fuel) F21 T A21 c__law_triangles⟩
  have A23 : AllOk P w K mg base 51 ["is_whole", "is_among", "is_ascending", "is_tile", "beyond", "neighbours", "is_on", "is_plane_edge", "is_edge", "is_bare", "bare_of", "is_pattern", "_law_same", "_law_is_integer", "_law_pool", "_law_spread", "_law_draw", "_law_bent", "_law_booled", "_law_listed", "_law_size", "_law_triangles", "_law_here"] [d_is_whole, d_is_among, d_is_ascending, d_is_tile, d_beyond, d_neighbours, d_is_on, d_is_plane_edge, d_is_edge, d_is_bare, d_bare_of, d_is_pattern, d__law_same 8, d__law_is_integer, d__law_pool, d__law_spread, d__law_draw, d__law_bent 8, d__law_booled 8, d__law_listed 8, d__law_size, d__law_triangles, d__law_here] := AllOk.snoc (k := 50) (d := d__law_here) (x := "_law_here") rfl A22 ⟨_, fd22, _, g22, F22.kp, b22, run_ok (n := fuel) F22 T A22 c__law_here⟩
  have A24 : AllOk P w K mg base 52 ["is_whole", "is_among", "is_ascending", "is_tile", "beyond", "neighbours", "is_on", "is_plane_edge", "is_edge", "is_bare", "bare_of", "is_pattern", "_law_same", "_law_is_integer", "_law_pool", "_law_spread", "_law_draw", "_law_bent", "_law_booled", "_law_listed", "_law_size", "_law_triangles", "_law_here", "_law_edges"] [d_is_whole, d_is_among, d_is_ascending, d_is_tile, d_beyond, d_neighbours, d_is_on, d_is_plane_edge, d_is_edge, d_is_bare, d_bare_of, d_is_pattern, d__law_same 8, d__law_is_integer, d__law_pool, d__law_spread, d__law_draw, d__law_bent 8, d__law_booled 8, d__law_listed 8, d__law_size, d__law_triangles, d__law_here, d__law_edges] := AllOk.snoc (k := 51) (d := d__law_edges) (x := "_law_edges") rfl A23 ⟨_, fd23, _, g23, F23.kp, b23, run_ok (n := fuel) F23 T A23 c__law_edges⟩
  have A25 : AllOk P w K mg base 53 ["is_whole", "is_among", "is_ascending", "is_tile", "beyond", "neighbours", "is_on", "is_plane_edge", "is_edge", "is_bare", "bare_of", "is_pattern", "_law_same", "_law_is_integer", "_law_pool", "_law_spread", "_law_draw", "_law_bent", "_law_booled", "_law_listed", "_law_size", "_law_triangles", "_law_here", "_law_edges", "_law_is_bare"] [d_is_whole, d_is_among, d_is_ascending, d_is_tile, d_beyond, d_neighbours, d_is_on, d_is_plane_edge, d_is_edge, d_is_bare, d_bare_of, d_is_pattern, d__law_same 8, d__law_is_integer, d__law_pool, d__law_spread, d__law_draw, d__law_bent 8, d__law_booled 8, d__law_listed 8, d__law_size, d__law_triangles, d__law_here, d__law_edges, d__law_is_bare] := AllOk.snoc (k := 52) (d := d__law_is_bare) (x := "_law_is_bare") rfl A24 ⟨_, fd24, _, g24, F24.kp, b24, run_ok (n := fuel) F24 T A24 c__law_is_bare⟩
  exact run_ok (n := fuel) F25 T A25 c_law
end
end Py.K03
theorem PySem.Challenge.cw_paperworlds_k03_patterns_told_holds : PySem.Challenge.rw_paperworlds_k03_patterns_told.Holds := by
  w_on; o_law
  refine HandSHeadRun.head_any (r := PySem.W.OpenLaw.row PySem.Challenge.rw_paperworlds_k03_patterns_told) (q := PySem.W.view (PySem.W.OpenLaw.row PySem.Challenge.rw_paperworlds_k03_patterns_told).prog [30]) (H := Py.K03.hk) (ob := Py.K03.ob) (M := 4000) (loose := Py.K03.loose) (d := HandSHeadRun.topDef (PySem.W.OpenLaw.row PySem.Challenge.rw_paperworlds_k03_patterns_told).prog 30) (kwd := []) Py.K03.ob_eq
    (by kernel_rfl) (fun s => by kernel_rfl) Py.K03.run (by kernel_rfl) (by kernel_rfl) (by kernel_rfl) (by rfl) (by first | assumption | decide +kernel) (by decide +kernel) ⟨rfl, rfl, rfl, rfl, rfl, by decide +kernel⟩ ?hw ?hc
  case hw => w_witness2
  case hc =>
    refine Py.walkG (l := PySem.Challenge.rw_paperworlds_k03_patterns_told) (n := 63) (k := 54) (x := "script") rfl (by decide) (by kernel_rfl) ⟨rfl, by decide, by decide⟩ ?F
    intro w mg fa h Y G hmg0
    obtain ⟨K, KX, c⟩ := Y
    have hmg : mg ("law" : PySem.Str) = some (.ref fa) := by
      have e : (HandSHeadRun.topDef (PySem.W.OpenLaw.row PySem.Challenge.rw_paperworlds_k03_patterns_told).prog 30).name = ("law" : PySem.Str) := by kernel_rfl
      rw [← e]
      exact hmg0
    obtain ⟨fd, hb, hF⟩ := Py.K03.defs_ok (P := (PySem.Challenge.rw_paperworlds_k03_patterns_told).prog) (w := w) KX G c.t.d c.more c.t hmg
    exact ⟨K, fd, Py.spD (K, w) 1 Py.K03.d_law, KX, hb, Py.law_sp rfl rfl Py.K03.law_true, hF⟩

