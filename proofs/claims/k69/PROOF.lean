import PyProof.Rows.All
import PySem.Syntax
import HandS.Nested
import HandS.HeadHook4
import HandS.EndTab
import HandS.HeadEnd
import Wide.All
import OpenK.AllK
import Wide.FinOn
import KE.KStateDown
import Lean
import HandS.Head0
import HandS.Head1
import HandS.Head2
import PySem.Challenge.RW_pledgehall_k69_whole_what_plans_bear
import HandS.ForMost
import HandS.Property
import HandS.Style
import HandS.Conv
import HandS.DictComp
import HandS.SortInts
import HandS.SortKw
import HandS.Wide
import HandS.WideBits
import HandS.CallLocal
import HandS.Defaults
import HandS.TupMul
import HandS.TupAny
import HandS.Strs
import HandS.SetKeys
import HandS.SortRule
import PyProof.TupleOfSeq
import HandS.IsInst
import HandS.Comp
import HandS.Set
import HandS.More
import HandS.Small
import KE.KUnpackStar
import HandS.Zip
import HandS.Walk
import KE.GoesEnum
import HandS.Star
import PyProof.ReprRoads
import HandS.RaiseMore
import PyProof.ReprLen
import PyProof.FitsInt
set_option linter.all false
noncomputable section
section
set_option Elab.async false
set_option linter.all false
/-! EvA: the evaluator. Data D, a small language (E, T, It, St), and what it computes: plain functions, no model in sight. -/
namespace Pv
open PySem

/-! ### data -/
inductive D where
  | non | bl (b : Bool) | int (i : Int) | str (x : Str)
  | tup (xs : List D) | lst (xs : List D) | scr (xs : List D) | dic (kvs : List (D × D))
  | ty (n : String) | fn (i : Nat) | cls (i : Nat) | obj (c : Nat) (fs : List (Str × D)) | ref (l : Nat) | opq
  deriving Inhabited
/-- an object that may change -/
inductive Ob where
  | lst (xs : List D) | dic (kvs : List (D × D)) | ins (c : Nat) (fs : List (Str × D)) | tbl (i : Nat)
def Ob.frz : Ob → D
  | .lst xs => .lst xs
  | .dic kvs => .dic kvs
  | .ins c fs => .obj c fs
  | .tbl _ => .opq
/-- what an expression hands on: data, or a new object that nobody else holds -/
inductive FX where
  | d (x : D) | f (o : Ob)
def FX.frz : FX → D
  | .d x => x
  | .f o => o.frz
/-- the longest list: a number that nobody unfolds -/
theorem LINE_ex : ∃ n : Nat, n = 16777216 := ⟨_, rfl⟩
def LINE : Nat := Classical.choose LINE_ex
theorem LINE_val : LINE = 16777216 := Classical.choose_spec LINE_ex
theorem le_line {k : Nat} (h : k ≤ 100000) : k ≤ LINE := by rw [LINE_val]; omega

/-! ### equality, order -/
mutual
def eqD : D → D → Option Bool
  | .non, .non => some true
  | .bl a, .bl b => some (a == b)
  | .int a, .int b => some (a == b)
  | .str a, .str b => some (a == b)
  | .tup a, .tup b => eqDs a b
  | .lst a, .lst b => eqDs a b
  | .bl _, .int _ | .int _, .bl _ => none
  | .dic _, _ | _, .dic _ | .scr _, _ | _, .scr _ | .ty _, _ | _, .ty _ | .fn _, _ | _, .fn _ | .cls _, _ | _, .cls _ | .obj _ _, _ | _, .obj _ _ | .ref _, _ | _, .ref _ | .opq, _ | _, .opq => none
  | _, _ => some false
def eqDs : List D → List D → Option Bool
  | [], [] => some true
  | a :: as, b :: bs => match eqD a b, eqDs as bs with
    | some x, some y => some (x && y)
    | _, _ => none
  | _, _ => some false
end


def ltC : List Nat → List Nat → Bool
  | [], [] => false
  | [], _ :: _ => true
  | _ :: _, [] => false
  | a :: r, b :: t => decide (a < b) || (a == b && ltC r t)
def ltS (a b : Str) : Bool := ltC a.cps.toList b.cps.toList
mutual
def ltD : D → D → Option Bool
  | .int a, .int b => some (decide (a < b))
  | .str a, .str b => some (ltS a b)
  | .tup a, .tup b => ltDs a b
  | _, _ => none
def ltDs : List D → List D → Option Bool
  | [], [] => some false
  | [], _ :: _ => some true
  | _ :: _, [] => some false
  | a :: as, b :: bs => match eqD a b with
    | some true => ltDs as bs
    | some false => ltD a b
    | none => none
end

mutual
/-- data that may be compared -/
def okD : Nat → D → Bool
  | _, .non | _, .bl _ | _, .int _ => true
  | _, .str x => x.cps.all (· < 0x110000)
  | n + 1, .tup xs => okDs n xs
  | n + 1, .lst xs => okDs n xs
  | _, _ => false
def okDs : Nat → List D → Bool
  | _, [] => true
  | n, x :: xs => okD n x && okDs n xs
end
def scalEq : D → D → Option Bool
  | .int a, .int b => some (a == b)
  | .str a, .str b => some (a == b)
  | .bl a, .bl b => some (a == b)
  | .non, .non => some true
  | _, _ => none
def eqP (x y : D) : Option Bool := match scalEq x y with
  | some b => some b
  | none => if okD 60 x && okD 60 y then eqD x y else none
def ltP : D → D → Option Bool
  | .int a, .int b => some (decide (a < b))
  | .str a, .str b => some (ltS a b)
  | _, _ => none

/-! ### the language -/
inductive O1 where
  | len | sum | max | min | sorted | sortedSet | any | all | abs | int | bool | str | repr | tuple | list | neg | isN | notN | truth | dict
  deriving DecidableEq
inductive O2 where
  | add | sub | mul | fdiv | mod | pow | shr | band | eq | ne | lt | le | gt | ge | isin | notin | idx | is | isnot | min | max | divmod | isinst
  deriving DecidableEq
mutual
inductive E where
  | slot (i : Nat) | slotB (i : Nat) | slotP (i : Nat) | const (x : D)
  | o1 (o : O1) (a : E) | o2 (o : O2) (a b : E) | chain (o o' : O2) (a b c : E)
  | and (a b : E) | or (a b : E) | not (a : E) | ite (c a b : E)
  | tup (es : List E) | lst (es : List E) | tupS (es : List E) (s : E) | tupS1 (s : E) (es : List E)
  | slice (a lo hi : E)
  | call (f : Nat) (as : List A) | callv (i : Nat) (as : List A) | new (c : Nat) (as : List A)
  | attr (a : E) (n : Str)
  | comp (own : List Nat) (t : T) (it : It) (ifs : List E) (x : E)
  | dcomp (own : List Nat) (t : T) (it : It) (ifs : List E) (k v : E)
  | prom (a : E)
  | tupM (es : List E) (s : E) (fs : List E) | callK (f : Nat) (as : List A) (ix : List Nat)
inductive A where
  | e (a : E) | lam (np ns : Nat) (body : E) (caps : List Nat) (t : Nat)
inductive T where
  | slot (i : Nat) | tup (ts : List T) | sub (j : Nat) (i : E) | attr (i : Nat) (n : Str) | star (ts : List T) (k : Nat)
inductive It where
  | seq (a : E) | zip (a b : E) | enum (a : E) | range (as : List E) | items (a : E) | values (a : E)
end
inductive Stm where
  | expr (e : E) | asg (t : T) (e : E) | par (ts : List Nat) (es : List E) | aug (i : Nat) (o : O2) (e : E)
  | ret (e : E) | retS (i : Nat) | retN | ite (c : E) (a b : List Stm) | forr (t : T) (it : It) (b : List Stm) | whil (c : E) (b : List Stm)
  | app (i : Nat) (e : E) | pass | brk | cont | raise (c : Nat) (as : List A) | never
inductive Fl where
  | nx | ret (x : FX) | brk | cont
/-- a def: its parameters, its captured names, its slots (parameters, captured, own names) -/
structure Fn where
  ini : Bool
  np : Nat
  nc : Nat
  ns : Nat
  body : List Stm
inductive AX where
  | d (x : D) | clo (f : Fn) (caps : List D) | own (o : Ob)
/-- a local name -/
inductive Sl where
  | no | val (x : D) | own (o : Ob) | clo (f : Fn) (caps : List D)
structure S where
  ρ : List Sl
  m : List Ob
inductive Out (α : Type) where
  | ok (a : α) (s : S) | exc (c : Nat) (fs : List (Str × D)) (s : S) | err
def Out.bind {α β : Type} : Out α → (α → S → Out β) → Out β
  | .ok a s, f => f a s
  | .exc c fs s, _ => .exc c fs s
  | .err, _ => .err
@[simp] theorem Out.bind_ok {α β : Type} (a : α) (s : S) (f : α → S → Out β) : (Out.ok a s).bind f = f a s := rfl
@[simp] theorem Out.bind_exc {α β : Type} (c fs s) (f : α → S → Out β) : (Out.exc c fs s : Out α).bind f = .exc c fs s := rfl
@[simp] theorem Out.bind_err {α β : Type} (f : α → S → Out β) : (Out.err : Out α).bind f = .err := rfl
def lift {α : Type} (s : S) : Option α → Out α
  | some a => .ok a s
  | none => .err
@[simp] theorem lift_some {α : Type} (s : S) (a : α) : lift s (some a) = .ok a s := rfl
@[simp] theorem lift_none {α : Type} (s : S) : lift s (none : Option α) = .err := rfl
/-- a whole program -/
structure Prog where
  fns : List Fn
  init : Nat → Option Nat
  prop : Nat → Str → Option Nat
structure G where
  P : Prog
  repr : D → Option Str
  call : Nat → List D → List AX → List Ob → Out FX
  make : Nat → List D → List AX → List Ob → Out FX
  clo : Fn → List D → List AX → List Ob → Out FX

/-! ### names -/
def setN : List Sl → Nat → Sl → List Sl
  | [], _, _ => []
  | _ :: r, 0, x => x :: r
  | y :: r, n + 1, x => y :: setN r n x
def getN : List Sl → Nat → Sl
  | [], _ => .no
  | x :: _, 0 => x
  | _ :: r, n + 1 => getN r n
def S.set (s : S) (i : Nat) (x : Sl) : S := ⟨setN s.ρ i x, s.m⟩
/-- read, let go of -/
def rdF (s : S) (i : Nat) : Out FX := match getN s.ρ i with
  | .val x => .ok (.d x) s
  | .own o => .ok (.d o.frz) (s.set i (.val o.frz))
  | _ => .err
/-- read for the moment -/
def rdB (s : S) (i : Nat) : Option D := match getN s.ρ i with
  | .val x => some x
  | .own o => some o.frz
  | _ => none
/-- read, put into the store -/
def rdP (s : S) (i : Nat) : Out FX := match getN s.ρ i with
  | .val x => .ok (.d x) s
  | .own o => .ok (.d (.ref s.m.length)) ⟨setN s.ρ i (.val (.ref s.m.length)), s.m ++ [o]⟩
  | _ => .err
def view (s : S) : D → Option D
  | .ref l => s.m[l]?.map Ob.frz
  | x => some x
def Sl.of : FX → Sl
  | .d x => .val x
  | .f o => .own o

/-! ### what operators yield -/
def truth : D → Option Bool
  | .non => some false
  | .bl b => some b
  | .int i => some (i != 0)
  | .str x => if x.length ≤ LINE then some ((x.length : Int) != 0) else none
  | .tup xs => some (!xs.isEmpty)
  | .lst xs => some (!xs.isEmpty)
  | .scr xs => some (!xs.isEmpty)
  | .dic xs => some (!xs.isEmpty)
  | _ => none
def intsOf : List D → Option (List Int)
  | [] => some []
  | .int i :: r => (intsOf r).map (i :: ·)
  | _ :: _ => none
def blsOf : List D → Option (List Bool)
  | [] => some []
  | .bl b :: r => (blsOf r).map (b :: ·)
  | _ :: _ => none
def strsOf : List D → Option (List Str)
  | [] => some []
  | .str x :: r => (strsOf r).map (x :: ·)
  | _ :: _ => none
def insI (x : Int) : List Int → List Int
  | [] => [x]
  | y :: r => if x ≤ y then x :: y :: r else y :: insI x r
def sortI : List Int → List Int
  | [] => []
  | x :: r => insI x (sortI r)
def pairsOf : List D → Option (List (Int × Int))
  | [] => some []
  | .tup [.int a, .int b] :: r => (pairsOf r).map ((a, b) :: ·)
  | _ :: _ => none
def pairD (p : Int × Int) : D := .tup [.int p.1, .int p.2]
def lexP (p q : Int × Int) : Bool := if p.1 = q.1 then decide (p.2 < q.2) else decide (p.1 < q.1)
def insP (x : Int × Int) : List (Int × Int) → List (Int × Int)
  | [] => [x]
  | y :: r => if lexP y x then y :: insP x r else x :: y :: r
def sortP : List (Int × Int) → List (Int × Int)
  | [] => []
  | x :: r => insP x (sortP r)
def insS (x : Str) : List Str → List Str
  | [] => [x]
  | y :: r => if ltS y x then y :: insS x r else x :: y :: r
def sortS : List Str → List Str
  | [] => []
  | x :: r => insS x (sortS r)
def dedup : List Str → List Str
  | [] => []
  | x :: r => if r.contains x then dedup r else x :: dedup r
def maxI (x : Int) : List Int → Int
  | [] => x
  | y :: r => maxI (if y > x then y else x) r
def minI (x : Int) : List Int → Int
  | [] => x
  | y :: r => minI (if y < x then y else x) r
def seqD : D → Option (List D)
  | .tup xs => some xs
  | .lst xs => some xs
  | .scr xs => some xs
  | .str x => if x.length ≤ LINE then some (x.cps.toList.map fun c => .str ⟨#[c]⟩) else none
  | .dic kvs => some (kvs.map (·.1))
  | _ => none
/-- the place of an index -/
def place (n : Nat) (i : Int) : Option Nat := if 0 ≤ i then (if i < n then some i.toNat else none) else if -(n : Int) ≤ i then some (i + n).toNat else none
/-- a slice's bounds -/
def clip (n : Nat) (i : Int) : Nat := if i < 0 then (i + n).toNat else min i.toNat n
def cut {α : Type} (xs : List α) (lo hi : Option Int) : List α :=
  let a := match lo with | some i => clip xs.length i | none => 0
  let b := match hi with | some i => clip xs.length i | none => xs.length
  (xs.take b).drop a
def bound : D → Option (Option Int)
  | .non => some none
  | .int i => some (some i)
  | _ => none
def sliceD (x lo hi : D) : Option FX := match bound lo, bound hi with
  | some l, some h => match x with
    | .lst xs => some (.f (.lst (cut xs l h)))
    | .scr xs => some (.f (.lst (cut xs l h)))
    | .tup xs => some (.d (.tup (cut xs l h)))
    | .str x => if x.length ≤ LINE then some (.d (.str ⟨(cut x.cps.toList l h).toArray⟩)) else none
    | _ => none
  | _, _ => none
def big (i : Int) : Bool := decide (-18446744073709551616 < i ∧ i < 18446744073709551616)
def flat : D → Bool
  | .non | .bl _ | .int _ | .str _ => true
  | _ => false
def inD (x : D) : List D → Option Bool
  | [] => some false
  | y :: r => if flat x && flat y then match eqD y x, inD x r with
      | some a, some b => some (a || b)
      | _, _ => none
    else none
inductive Ty where
  | int | bool | str | tuple | list
  deriving DecidableEq
def tyOf (n : String) : Option Ty := if n = "int" then some .int else if n = "bool" then some .bool else if n = "str" then some .str else if n = "tuple" then some .tuple else if n = "list" then some .list else none
def Ty.name : Ty → String
  | .int => "int" | .bool => "bool" | .str => "str" | .tuple => "tuple" | .list => "list"
def ofTy (x : D) (t : Ty) : Option Bool := match x with
  | .non => some false
  | .bl _ => some (t == .bool || t == .int)
  | .int _ => some (t == .int)
  | .str _ => some (t == .str)
  | .tup _ => some (t == .tuple)
  | .lst _ => some (t == .list)
  | _ => none
def isD : D → D → Option Bool
  | .bl a, .bl b => some (a == b)
  | _, _ => none

def op1 (reprD : D → Option Str) : O1 → D → Option FX
  | .len, x => match x with
    | .str x => if x.length ≤ LINE then some (.d (.int x.length)) else none
    | .tup xs => some (.d (.int xs.length))
    | .lst xs => some (.d (.int xs.length))
    | .scr xs => some (.d (.int xs.length))
    | .dic xs => some (.d (.int xs.length))
    | _ => none
  | .sum, .lst xs => (intsOf xs).map fun ns => .d (.int ns.sum)
  | .max, .lst xs => match intsOf xs with
    | some (n :: ns) => some (.d (.int (maxI n ns)))
    | _ => none
  | .min, .lst xs => match intsOf xs with
    | some (n :: ns) => some (.d (.int (minI n ns)))
    | _ => none
  | .sorted, x => match x with
    | .lst xs => match intsOf xs, strsOf xs with
      | some ns, _ => some (.f (.lst ((sortI ns).map .int)))
      | _, some ss => if ss.length < 64 then some (.f (.lst ((sortS ss).map .str))) else none
      | _, _ => none
    | .dic kvs => match strsOf (kvs.map (·.1)) with
      | some ss => if ss.length < 64 then some (.f (.lst ((sortS ss).map .str))) else none
      | _ => none
    | .tup xs => (pairsOf xs).map fun ps => .f (.lst ((sortP ps).map pairD))
    | _ => none
  | .sortedSet, .lst xs => match strsOf xs with
    | some ss => if ss.length < 64 then some (.f (.lst ((sortS (dedup ss)).map .str))) else none
    | _ => none
  | .any, .lst xs => (blsOf xs).map fun bs => .d (.bl (bs.any id))
  | .all, .lst xs => (blsOf xs).map fun bs => .d (.bl (bs.all id))
  | .abs, .int i => some (.d (.int (if i < 0 then -i else i)))
  | .int, .int i => some (.d (.int i))
  | .neg, .int i => some (.d (.int (-i)))
  | .isN, x => match x with
    | .non => some (.d (.bl true))
    | _ => some (.d (.bl false))
  | .notN, x => match x with
    | .non => some (.d (.bl false))
    | _ => some (.d (.bl true))
  | .tuple, x => match x with
    | .tup xs => some (.d (.tup xs))
    | .lst xs => some (.d (.tup xs))
    | _ => none
  | .list, x => match x with
    | .tup xs => some (.f (.lst xs))
    | .lst xs => some (.f (.lst xs))
    | _ => none
  | .repr, x => (reprD x).map fun z => .d (.str z)
  | .truth, x => (truth x).map fun b => .d (.bl b)
  | _, _ => none
def op2 : O2 → D → D → Option FX
  | .add, x, y => match x, y with
    | .int a, .int b => some (.d (.int (a + b)))
    | .str a, .str b => if a.length + b.length ≤ LINE then some (.d (.str (a ++ b))) else none
    | .lst a, .lst b => if a.length + b.length ≤ LINE then some (.f (.lst (a ++ b))) else none
    | .tup a, .tup b => if a.length + b.length ≤ LINE then some (.d (.tup (a ++ b))) else none
    | _, _ => none
  | .sub, .int a, .int b => some (.d (.int (a - b)))
  | .mul, x, y => match x, y with
    | .int a, .int b => if big a || big b then some (.d (.int (a * b))) else none
    | .str a, .int b => if 0 < a.length ∧ a.length ≤ 16 ∧ 1 < b ∧ b ≤ 1048576 then some (.d (.str ⟨(List.replicate b.toNat a.cps.toList).flatten.toArray⟩)) else none
    | .tup _, .int _ => none
    | .lst a, .int b => if 0 ≤ b ∧ a.length * b.toNat ≤ LINE ∧ b < 9223372036854775808 then some (.f (.lst (List.replicate b.toNat a).flatten)) else none
    | _, _ => none
  | .fdiv, .int a, .int b => if b ≠ 0 ∧ b.natAbs < 1073741824 then some (.d (.int (a.fdiv b))) else none
  | .mod, .int a, .int b => if b ≠ 0 then some (.d (.int (a.fmod b))) else none
  | .pow, .int a, .int b => if 0 ≤ b ∧ b ≤ 1000 ∧ big a then some (.d (.int (a ^ b.toNat))) else none
  | .shr, .int a, .int b => if 0 ≤ b then some (.d (.int (a / 2 ^ b.toNat))) else none
  | .band, .int a, .int b => if 0 ≤ a ∧ b = 1 then some (.d (.int (a % 2))) else none
  | .eq, x, y => (eqP x y).map fun b => .d (.bl b)
  | .ne, x, y => (eqP x y).map fun b => .d (.bl (!b))
  | .lt, x, y => (ltP x y).map fun b => .d (.bl b)
  | .gt, x, y => (ltP y x).map fun b => .d (.bl b)
  | .le, x, y => match x, y with
    | .int a, .int b => some (.d (.bl (decide (a ≤ b))))
    | .str a, .str b => some (.d (.bl (!ltS b a)))
    | _, _ => none
  | .ge, x, y => match x, y with
    | .int a, .int b => some (.d (.bl (decide (b ≤ a))))
    | .str a, .str b => some (.d (.bl (!ltS a b)))
    | _, _ => none
  | .isin, x, y => match y with
    | .tup ys => if flat x then (inD x ys).map fun b => .d (.bl b) else none
    | .lst ys => if flat x then (inD x ys).map fun b => .d (.bl b) else none
    | .str z => match x with
      | .str a => match a.cps.toList with
        | [c] => some (.d (.bl (decide (c ∈ z.cps.toList))))
        | _ => none
      | _ => none
    | _ => none
  | .notin, x, y => match y with
    | .tup ys => if flat x then (inD x ys).map fun b => .d (.bl (!b)) else none
    | .lst ys => if flat x then (inD x ys).map fun b => .d (.bl (!b)) else none
    | _ => none
  | .idx, x, y => match y with
    | .int i => match x with
      | .tup xs => ((place xs.length i).bind fun k => xs[k]?).map .d
      | .lst xs => ((place xs.length i).bind fun k => xs[k]?).map .d
      | .scr xs => ((place xs.length i).bind fun k => xs[k]?).map .d
      | .str z => if z.length ≤ LINE then ((place z.length i).bind fun k => z.cps.toList[k]?).map fun c => .d (.str ⟨#[c]⟩) else none
      | _ => none
    | _ => none
  | .is, x, y => (isD x y).map fun b => .d (.bl b)
  | .isnot, x, y => (isD x y).map fun b => .d (.bl (!b))
  | .min, .int a, .int b => some (.d (.int (if b < a then b else a)))
  | .max, .int a, .int b => some (.d (.int (if b > a then b else a)))
  | .divmod, .int a, .int b => if 0 < b ∧ b < 1073741824 then some (.d (.tup [.int (a / b), .int (a % b)])) else none
  | .isinst, x, y => match y with
    | .ty n => match tyOf n with
      | some t => (ofTy x t).map fun b => .d (.bl b)
      | none => none
    | .cls c => match x with
      | .obj c' _ => if c' = c then some (.d (.bl true)) else none
      | _ => none
    | _ => none
  | _, _, _ => none

/-! ### the evaluator -/
def zipD : List D → List D → List D
  | x :: xs, y :: ys => .tup [x, y] :: zipD xs ys
  | _, _ => []
def enumD : Nat → List D → List D
  | n, x :: xs => .tup [.int n, x] :: enumD (n + 1) xs
  | _, [] => []
def rangeD (lo : Int) (c : Int) : Nat → List D
  | 0 => []
  | n + 1 => .int lo :: rangeD (lo + c) c n
/-- what a star spreads -/
def seqS : D → Option (List D)
  | .tup xs => some xs
  | .lst xs => some xs
  | .scr xs => some xs
  | _ => none
/-- what a for walks: by the thing itself, by enumerate, by zip -/
def seqI : D → Option (List D)
  | .tup xs => some xs
  | .lst xs => some xs
  | .scr xs => some xs
  | .str x => some (x.cps.toList.map fun c => .str ⟨#[c]⟩)
  | _ => none
def enumI : D → Option (List D)
  | .tup xs => some (enumD 0 xs)
  | .lst xs => some (enumD 0 xs)
  | _ => none
def zipI : D → D → Option (List D)
  | .tup xs, .tup ys => some (zipD xs ys)
  | .lst xs, .lst ys => some (zipD xs ys)
  | _, _ => none
def itemsI : D → Option (List D)
  | .dic kvs => some (kvs.map fun p => .tup [p.1, p.2])
  | _ => none
def valuesI : D → Option (List D)
  | .dic kvs => some (kvs.map (·.2))
  | _ => none
def near (i : Int) : Bool := decide (-(2 ^ 62) ≤ i ∧ i < 2 ^ 62)
def rangeItems : List D → Option (List D)
  | [.int b] => if near b ∧ b ≤ LINE then some (rangeD 0 1 b.toNat) else none
  | [.int a, .int b] => if near a ∧ near b ∧ b - a ≤ LINE then some (rangeD a 1 (b - a).toNat) else none
  | [.int a, .int b, .int (-1)] => if near a ∧ near b ∧ a - b ≤ LINE then some (rangeD a (-1) (a - b).toNat) else none
  | _ => none
def AX.fz : FX → AX := fun x => .d x.frz
def isBor : E → Option Nat
  | .slotB i => some i
  | _ => none
/-- the operand at its end -/
def fin (a : E) (x : D) (s : S) : Option D := match isBor a with
  | some i => (rdB s i).bind (view s)
  | none => view s x
/-- values by places -/
def permA {α : Type} : List Nat → List α → Option (List α)
  | [], _ => some []
  | i :: r, xs => match xs[i]?, permA r xs with
    | some x, some ys => some (x :: ys)
    | _, _ => none
/-- what a star takes of n targets, the k-th of which it is -/
def starXs (xs : List D) (k n : Nat) : List D := xs.take k ++ .lst ((xs.drop k).take (xs.length + 1 - n)) :: (xs.drop k).drop (xs.length + 1 - n)
def capsOf (s : S) : List Nat → Option (List D)
  | [] => some []
  | i :: r => match getN s.ρ i, capsOf s r with
    | .val x, some xs => some (x :: xs)
    | _, _ => none
def callG {α : Type} (c : α → List D → List AX → List Ob → Out FX) (f : α) (caps : List D) (as : List AX) (s : S) : Out FX := match c f caps as s.m with
  | .ok x s' => .ok x ⟨s.ρ, s'.m⟩
  | .exc c fs s' => .exc c fs ⟨s.ρ, s'.m⟩
  | .err => .err
/-- own slots as they were -/
def restore (ρ₀ : List Sl) : List Nat → List Sl → List Sl
  | [], ρ => ρ
  | i :: r, ρ => setN (restore ρ₀ r ρ) i (getN ρ₀ i)
def wipeN : List Nat → List Sl → List Sl
  | [], ρ => ρ
  | i :: r, ρ => setN (wipeN r ρ) i .no
def plainSl : Sl → Bool
  | .own _ | .clo .. => false
  | _ => true
def isKey : D → Bool
  | .int _ | .str _ => true
  | _ => false
def keyEq : D → D → Bool
  | .int a, .int b => decide (a = b)
  | .str a, .str b => decide (a = b)
  | _, _ => false
def putKV (kvs : List (D × D)) (k v : D) : Option (List (D × D)) := if isKey k && decide (kvs.length < LINE) then
    some (if kvs.any (fun p => keyEq p.1 k) then kvs.map (fun p => if keyEq p.1 k then (p.1, v) else p) else kvs ++ [(k, v)])
  else none
def fieldsPut (fs : List (Str × D)) (n : Str) (x : D) : List (Str × D) := match fs with
  | [] => [(n, x)]
  | (m, y) :: r => if m = n then (m, x) :: r else (m, y) :: fieldsPut r n x
/-- a comprehension's loop -/
def compL (turn : D → S → Out (Option D)) : List D → List D → S → Out (List D)
  | [], acc, s => .ok acc s
  | x :: r, acc, s => (turn x s).bind fun y s => match y with
    | some y => if acc.length < LINE then compL turn r (acc ++ [y]) s else .err
    | none => compL turn r acc s
def dcompL (turn : D → S → Out (Option (D × D))) : List D → List (D × D) → S → Out (List (D × D))
  | [], acc, s => .ok acc s
  | x :: r, acc, s => (turn x s).bind fun y s => match y with
    | some (k, v) => match putKV acc k v with
      | some acc => dcompL turn r acc s
      | none => .err
    | none => dcompL turn r acc s
def testL (t : E → S → Out Bool) : List E → S → Out Bool
  | [], s => .ok true s
  | e :: r, s => (t e s).bind fun b s => if b then testL t r s else .ok false s
def truthO (x : D) (s : S) : Out Bool := lift s ((view s x).bind truth)

/-- is it a thing that may change -/
def isSub (s : S) (i : Nat) : Option Unit := match getN s.ρ i with
  | .own _ => some ()
  | .val (.ref _) => some ()
  | _ => none
/-- a slice's part: left out, or an int -/
def isNon : E → Bool
  | .const .non => true
  | _ => false
def partOk (a : E) (x : D) : Bool := match x with
  | .int _ => true
  | .non => isNon a
  | _ => false
/-- is it an __init__ -/
def isIni (P : Prog) (f : Nat) : Bool := match P.fns[f]? with
  | some fn => fn.ini
  | none => true
/-- an operand that nobody may change -/
def isPure (a : E) (x : D) (s : S) : Bool := match isBor a with
  | some i => (match getN s.ρ i with
    | .val (.obj _ _) => true
    | _ => false)
  | none => (match x with
    | .obj _ _ => true
    | _ => false)
/-- an operand -/
def opd (a : E) (r : S → Out FX) (s : S) : Out D := match isBor a with
  | some i => (lift s (rdB s i)).bind fun _ s => .ok .non s
  | none => (r s).bind fun x s => .ok x.frz s
/-- a test -/
def tst (a : E) (r : S → Out FX) (s : S) : Out Bool := (opd a r s).bind fun x s => lift s ((fin a x s).bind truth)
mutual
def ev (g : G) : E → S → Out FX
  | .slot i, s => rdF s i
  | .slotB i, s => rdF s i
  | .slotP i, s => rdP s i
  | .const x, s => .ok (.d x) s
  | .o1 o a, s => (opd a (ev g a) s).bind fun x s => lift s ((fin a x s).bind (op1 g.repr o))
  | .o2 o a b, s => (opd a (ev g a) s).bind fun x s => (opd b (ev g b) s).bind fun y s => lift s ((fin a x s).bind fun x => (fin b y s).bind fun y => op2 o x y)
  | .chain o o' a b c, s => (opd a (ev g a) s).bind fun x s => (opd b (ev g b) s).bind fun y s =>
      match (fin a x s).bind fun x => (fin b y s).bind fun y => op2 o x y with
      | some (.d (.bl true)) => (opd c (ev g c) s).bind fun z s => lift s ((fin b y s).bind fun y => (fin c z s).bind fun z => op2 o' y z)
      | some (.d (.bl false)) => .ok (.d (.bl false)) s
      | _ => .err
  | .and a b, s => (ev g a s).bind fun x s => match x with
      | .d (.bl true) => ev g b s
      | .d (.bl false) => .ok (.d (.bl false)) s
      | _ => .err
  | .or a b, s => (ev g a s).bind fun x s => match x with
      | .d (.bl true) => .ok (.d (.bl true)) s
      | .d (.bl false) => ev g b s
      | _ => .err
  | .not a, s => (tst a (ev g a) s).bind fun t s => .ok (.d (.bl (!t))) s
  | .ite c a b, s => (tst c (ev g c) s).bind fun t s => if t then ev g a s else ev g b s
  | .tup es, s => (evs g es s).bind fun xs s => if xs.length ≤ LINE then .ok (.d (.tup xs)) s else .err
  | .lst es, s => (evs g es s).bind fun xs s => if xs.length ≤ LINE then .ok (.f (.lst xs)) s else .err
  | .tupS es t, s => (evs g es s).bind fun xs s => (opd t (ev g t) s).bind fun y s => match (fin t y s).bind seqS with
      | some ys => if xs.length + ys.length ≤ LINE then .ok (.d (.tup (xs ++ ys))) s else .err
      | none => .err
  | .tupS1 t es, s => (opd t (ev g t) s).bind fun y s => match (fin t y s).bind seqS with
      | some ys => (evs g es s).bind fun xs s => if xs.length + ys.length ≤ LINE then .ok (.d (.tup (ys ++ xs))) s else .err
      | none => .err
  | .slice a lo hi, s => (opd a (ev g a) s).bind fun x s => (ev g lo s).bind fun l s => if partOk lo l.frz then (ev g hi s).bind fun h s => if partOk hi h.frz then lift s ((fin a x s).bind fun x => sliceD x l.frz h.frz) else .err else .err
  | .call f as, s => (evA g as s).bind fun xs s => callG g.call f [] xs s
  | .callv i as, s => match getN s.ρ i with
      | .val (.fn f) => if isIni g.P f || as.isEmpty then .err else (evA g as s).bind fun xs s => callG g.call f [] xs s
      | .clo f caps => (evA g as s).bind fun xs s => callG g.clo f caps xs s
      | _ => .err
  | .new c as, s => (evA g as s).bind fun xs s => match g.P.init c with
      | some f => callG g.make f [] (.own (.ins c []) :: xs) s
      | none => .err
  | .attr a n, s => (opd a (ev g a) s).bind fun x s => match fin a x s with
      | some (.obj c fs) => match g.P.prop c n with
        | some f => if isPure a x s then callG g.make f [] [.d (.obj c fs)] s else .err
        | none => lift s ((fs.lookup n).map .d)
      | _ => .err
  | .comp own t it ifs x, s => (evI g it s).bind fun items s =>
      if own.all (fun i => plainSl (getN s.ρ i)) then
        (compL (fun y s' => (asT g t y ⟨wipeN own s'.ρ, s'.m⟩).bind fun _ s' => (evTs g ifs s').bind fun b s' => if b then (ev g x s').bind fun z s' => .ok (some z.frz) s' else .ok none s') items [] ⟨wipeN own s.ρ, s.m⟩).bind
          fun acc s' => .ok (.f (.lst acc)) ⟨restore s.ρ own s'.ρ, s'.m⟩
      else .err
  | .dcomp own t it ifs k v, s => (evI g it s).bind fun items s =>
      if own.all (fun i => plainSl (getN s.ρ i)) then
        (dcompL (fun y s' => (asT g t y ⟨wipeN own s'.ρ, s'.m⟩).bind fun _ s' => (evTs g ifs s').bind fun b s' => if b then (ev g k s').bind fun k s' => (ev g v s').bind fun v s' => .ok (some (k.frz, v.frz)) s' else .ok none s') items [] ⟨wipeN own s.ρ, s.m⟩).bind
          fun acc s' => .ok (.f (.dic acc)) ⟨restore s.ρ own s'.ρ, s'.m⟩
      else .err
  | .prom a, s => (ev g a s).bind fun x s => match x with
      | .f o => .ok (.d (.ref s.m.length)) ⟨s.ρ, s.m ++ [o]⟩
      | .d x => .ok (.d x) s
  | .tupM es t fs, s => (evs g es s).bind fun xs s => (opd t (ev g t) s).bind fun y s => match (fin t y s).bind seqS with
      | some ys => (evs g fs s).bind fun zs s => if xs.length + ys.length + zs.length ≤ LINE then .ok (.d (.tup (xs ++ ys ++ zs))) s else .err
      | none => .err
  | .callK f as ix, s => (evA g as s).bind fun xs s => match permA ix xs with
      | some ys => callG g.call f [] ys s
      | none => .err
def evTs (g : G) : List E → S → Out Bool
  | [], s => .ok true s
  | e :: r, s => (tst e (ev g e) s).bind fun b s => if b then evTs g r s else .ok false s
def evs (g : G) : List E → S → Out (List D)
  | [], s => .ok [] s
  | e :: r, s => (ev g e s).bind fun x s => (evs g r s).bind fun xs s => .ok (x.frz :: xs) s
def evA (g : G) : List A → S → Out (List AX)
  | [], s => .ok [] s
  | a :: r, s => (evA1 g a s).bind fun x s => (evA g r s).bind fun xs s => .ok (x :: xs) s
def evA1 (g : G) : A → S → Out AX
  | .e e, s => (ev g e s).bind fun x s => .ok (.d x.frz) s
  | .lam np ns body caps t, s => match s.m[t]?, capsOf s caps with
    | some (.tbl t'), some xs => if t' = t then .ok (.clo ⟨false, np, caps.length, ns, [.ret body]⟩ xs) s else .err
    | _, _ => .err
def evI (g : G) : It → S → Out (List D)
  | .seq a, s => (ev g a s).bind fun x s => lift s (seqI x.frz)
  | .zip a b, s => (ev g a s).bind fun x s => (ev g b s).bind fun y s => lift s (zipI x.frz y.frz)
  | .enum a, s => (ev g a s).bind fun x s => lift s (enumI x.frz)
  | .range as, s => (evs g as s).bind fun xs s => lift s (rangeItems xs)
  | .items a, s => (ev g a s).bind fun x s => lift s (itemsI x.frz)
  | .values a, s => (ev g a s).bind fun x s => lift s (valuesI x.frz)
/-- a target -/
def asT (g : G) : T → D → S → Out Unit
  | .slot i, x, s => .ok () (s.set i (.val x))
  | .tup ts, x, s => match x with
      | .tup xs => asTs g ts xs s
      | _ => .err
  | .sub j i, x, s => (lift s (isSub s j)).bind fun _ s => (ev g i s).bind fun k s => match getN s.ρ j, k.frz with
      | .own (.lst xs), .int n => (match place xs.length n with
        | some m => .ok () (s.set j (.own (.lst (xs.set m x))))
        | none => .err)
      | .own (.dic kvs), k => (match putKV kvs k x with
        | some kvs => .ok () (s.set j (.own (.dic kvs)))
        | none => .err)
      | .val (.ref l), .int n => (match s.m[l]? with
        | some (.lst xs) => (match place xs.length n with
          | some m => .ok () ⟨s.ρ, s.m.set l (.lst (xs.set m x))⟩
          | none => .err)
        | _ => .err)
      | _, _ => .err
  | .attr i n, x, s => match getN s.ρ i with
      | .own (.ins c fs) => if (g.P.prop c n).isNone && decide (fs.length < 1000) then .ok () (s.set i (.own (.ins c (fieldsPut fs n x)))) else .err
      | _ => .err
  | .star ts k, x, s => match x with
      | .tup xs => if k < ts.length ∧ ts.length ≤ xs.length + 1 then asTs g ts (starXs xs k ts.length) s else .err
      | _ => .err
def asTs (g : G) : List T → List D → S → Out Unit
  | [], [], s => .ok () s
  | t :: ts, x :: xs, s => (asT g t x s).bind fun _ s => asTs g ts xs s
  | _, _, _ => .err
end

def forL (turn : D → S → Out Fl) : List D → S → Out Fl
  | [], s => .ok .nx s
  | x :: r, s => (turn x s).bind fun f s => match f with
    | .nx => forL turn r s
    | .cont => forL turn r s
    | .brk => .ok .nx s
    | .ret x => .ok (.ret x) s
def whilL (t : S → Out Bool) (b : S → Out Fl) : Nat → S → Out Fl
  | 0, _ => .err
  | n + 1, s => (t s).bind fun c s => if c then (b s).bind fun f s => match f with
      | .nx => whilL t b n s
      | .cont => whilL t b n s
      | .brk => .ok .nx s
      | .ret x => .ok (.ret x) s
    else .ok .nx s
/-- more turns than any loop makes -/
def fuel : Nat := 100000000000
def evsF (g : G) : List E → S → Out (List FX)
  | [], s => .ok [] s
  | e :: r, s => (ev g e s).bind fun x s => (evsF g r s).bind fun xs s => .ok (x :: xs) s
def setAll : List Nat → List FX → S → Option S
  | [], [], s => some s
  | i :: r, x :: xs, s => setAll r xs (s.set i (.of x))
  | _, _, _ => none
def appendO (s : S) (i : Nat) (ys : List D) : Out Fl := match getN s.ρ i with
  | .own (.lst xs) => if xs.length + ys.length ≤ LINE then .ok .nx (s.set i (.own (.lst (xs ++ ys)))) else .err
  | .val (.ref l) => match s.m[l]? with
    | some (.lst xs) => if xs.length + ys.length ≤ LINE then .ok .nx ⟨s.ρ, s.m.set l (.lst (xs ++ ys))⟩ else .err
    | _ => .err
  | _ => .err
/-- is it a list that may change -/
def isL (s : S) (i : Nat) : Option Unit := match getN s.ρ i with
  | .own (.lst _) => some ()
  | .val (.ref l) => match s.m[l]? with
    | some (.lst _) => some ()
    | _ => none
  | _ => none
mutual
def ex (g : G) : Stm → S → Out Fl
  | .expr e, s => (ev g e s).bind fun _ s => .ok .nx s
  | .asg t e, s => (ev g e s).bind fun x s => match t with
      | .slot i => .ok .nx (s.set i (.of x))
      | t => (asT g t x.frz s).bind fun _ s => .ok .nx s
  | .par is es, s => (evsF g es s).bind fun xs s => match setAll is xs s with
      | some s => .ok .nx s
      | none => .err
  | .aug i o e, s => (ev g e s).bind fun y s => match rdB s i with
      | some x => (match op2 o x y.frz with
        | some z => .ok .nx (s.set i (.of z))
        | none => .err)
      | none => .err
  | .ret e, s => (ev g e s).bind fun x s => .ok (.ret x) s
  | .retS i, s => match getN s.ρ i with
      | .val x => .ok (.ret (.d x)) s
      | .own o => .ok (.ret (.f o)) (s.set i .no)
      | _ => .err
  | .retN, s => .ok (.ret (.d .non)) s
  | .ite c a b, s => (tst c (ev g c) s).bind fun t s => if t then exs g a s else exs g b s
  | .forr t it b, s => (evI g it s).bind fun items s => forL (fun x s => (asT g t x s).bind fun _ s => exs g b s) items s
  | .whil c b, s => whilL (tst c (ev g c)) (exs g b) fuel s
  | .app i e, s => (lift s (isL s i)).bind fun _ s => (ev g e s).bind fun x s => appendO s i [x.frz]
  | .pass, s => .ok .nx s
  | .brk, s => .ok .brk s
  | .cont, s => .ok .cont s
  | .raise _ _, _ => .err
  | .never, _ => .err
def exs (g : G) : List Stm → S → Out Fl
  | [], s => .ok .nx s
  | e :: r, s => (ex g e s).bind fun f s => match f with
    | .nx => exs g r s
    | .cont => .ok .cont s
    | .brk => .ok .brk s
    | .ret x => .ok (.ret x) s
end
mutual
/-- the slots that a target gives values to -/
def tSlots : T → List Nat
  | .slot i => [i]
  | .tup ts => tsSlots ts
  | .sub _ _ => []
  | .attr _ _ => []
  | .star ts _ => tsSlots ts
def tsSlots : List T → List Nat
  | [] => []
  | t :: ts => tSlots t ++ tsSlots ts
end
def AX.sl : AX → Sl
  | .d x => .val x
  | .clo f caps => .clo f caps
  | .own o => .own o
def startS (fn : Fn) (caps : List D) (as : List AX) : List Sl := as.map AX.sl ++ (caps.map Sl.val ++ List.replicate (fn.ns - as.length - caps.length) Sl.no)
def runFn (g : G) (fn : Fn) (caps : List D) (as : List AX) (m : List Ob) : Out FX :=
  if as.length = fn.np ∧ caps.length = fn.nc then (exs g fn.body ⟨startS fn caps as, m⟩).bind fun f s => match f, fn.ini with
    | .nx, true => (match getN s.ρ 0 with
      | .own o => .ok (.f o) ⟨[], s.m⟩
      | _ => .err)
    | .ret x, false => .ok x ⟨[], s.m⟩
    | .nx, false => .ok (.d .non) ⟨[], s.m⟩
    | _, _ => .err
  else .err
/-- a def's, a closure's run at a depth -/
def evC (P : Prog) (rp : D → Option Str) : Nat → Fn → List D → List AX → List Ob → Out FX
  | 0, _, _, _, _ => .err
  | 1, _, _, _, _ => .err
  | n + 2, fn, caps, as, m => runFn ⟨P, rp, fun f caps as m => match P.fns[f]? with
      | some fn => evC P rp (n + 1) fn caps as m
      | none => .err, fun f caps as m => match P.fns[f]? with
      | some fn => evC P rp n fn caps as m
      | none => .err, evC P rp (n + 1)⟩ fn caps as m
def evFn (P : Prog) (rp : D → Option Str) (n f : Nat) (caps : List D) (as : List AX) (m : List Ob) : Out FX := match P.fns[f]? with
  | some fn => evC P rp n fn caps as m
  | none => .err
abbrev gAt (P : Prog) (rp : D → Option Str) (n : Nat) : G := ⟨P, rp, evFn P rp (n + 1), evFn P rp n, evC P rp (n + 1)⟩
theorem evC_eq {P : Prog} {rp : D → Option Str} {n : Nat} {fn : Fn} {caps : List D} {as : List AX} {m : List Ob} : evC P rp (n + 2) fn caps as m = runFn (gAt P rp n) fn caps as m := by
  rw [evC]
  rfl
theorem evFn_eq {P : Prog} {rp : D → Option Str} {n f : Nat} {fn : Fn} {caps : List D} {as : List AX} {m : List Ob} (h : P.fns[f]? = some fn) : evFn P rp (n + 2) f caps as m = runFn (gAt P rp n) fn caps as m := by
  unfold evFn
  rw [h]
  exact evC_eq
theorem evFn_err {P : Prog} {rp : D → Option Str} {n f : Nat} (h : n < 2) {caps : List D} {as : List AX} {m : List Ob} : evFn P rp n f caps as m = .err := by
  unfold evFn
  split
  · match n, h with
    | 0, _ => simp [evC]
    | 1, _ => simp [evC]
  · rfl
theorem evC_err {P : Prog} {rp : D → Option Str} {n : Nat} {fn : Fn} (h : n < 2) {caps : List D} {as : List AX} {m : List Ob} : evC P rp n fn caps as m = .err := by
  match n, h with
  | 0, _ => simp [evC]
  | 1, _ => simp [evC]
end Pv
end

section
set_option Elab.async false
set_option linter.all false
set_option maxRecDepth 100000
set_option maxHeartbeats 4000000
/-! EvHd: a law's text as data, and what is looked at behind the top: plain functions. -/
namespace Pv
open PySem PySem.Spec PyProof.Rows L2 LamX NdefX
abbrev Fg := PySem.W.Frag
/-- where a def stands -/
inductive Pa where
  | glo (x : Str) | met (C m : Str) | prp (C m : Str)
def pAd (K : Fg) : Pa → Addr
  | .glo x => He.ga K x
  | .met C m => He.ma K (He.ga K C) m
  | .prp C m => match PySem.W.recIn K (He.ma K (He.ga K C) m) "property" with
    | some (.ref g :: _) => g
    | _ => 0
structure Df where
  at_ : Pa
  name : Str
  qual : Str
  params : Arguments
  body : List Stmt
  scope : Scope
  N : List Str
  ini : Bool
  tb : Option Nat
abbrev Tx : Type := Option (Str × Str × Arguments × FuncBody × Scope × Addr × List (Str × Addr) × Value × Addr)
def txOf (K : Fg) (a : Addr) : Tx := match K.lookup a with
  | some ⟨_, _, .func fd, _⟩ => some (fd.name, fd.qualname, fd.params, fd.body, fd.scope, fd.globals, fd.closure, fd.defaults, fd.builtins)
  | _ => none
def Df.tx (d : Df) : Tx := some (d.name, d.qual, d.params, .stmts d.body, d.scope, mainGlobals, [], .none, builtinsNs)
def Df.ok (K : Fg) (d : Df) : Bool := PySem.W.keepIn K (.ref (pAd K d.at_)) && (match K.lookup (pAd K d.at_) with
  | some ⟨_, _, .func fd, _⟩ => PySem.W.codeIn K fd.code d.qual
  | _ => false)
/-- a law's text -/
structure Lw where
  defs : List Df
  glo : List (Str × Nat)
  cls : List (Str × Nat)
  con : List (Str × D)
  fld : List Str
  prp : List (Nat × Str × Nat)
  ini : List (Nat × Nat)
  tabs : List Nat
namespace Lw
def ci (L : Lw) (c : Nat) : Nat := if c < L.cls.length then c else 0
def prop (L : Lw) (c : Nat) (n : Str) : Option Nat := (L.prp.find? fun p => p.1 == L.ci c && p.2.1 == n).map (·.2.2)
def init (L : Lw) (c : Nat) : Option Nat := (L.ini.find? fun p => p.1 == L.ci c).map (·.2)
def fa (L : Lw) (K : Fg) (i : Nat) : Addr := match L.defs[i]? with
  | some d => pAd K d.at_
  | none => 0
def ca (L : Lw) (K : Fg) (c : Nat) : Addr := match L.cls[L.ci c]? with
  | some p => He.ga K p.1
  | none => 0
def codeAt (K : Fg) (a : Addr) : Addr := match K.lookup a with
  | some ⟨_, _, .func fd, _⟩ => (match fd.code with
    | .ref c => c
    | _ => 0)
  | _ => 0
def tab (L : Lw) (K : Fg) (t : Nat) : Addr := match L.tabs[t]? with
  | some f => He.tabOf K (codeAt K (L.fa K f))
  | none => 0
/-- the code objects and their tables -/
def cs (L : Lw) (K : Fg) : List (Addr × Addr) := L.tabs.map fun f => (codeAt K (L.fa K f), He.tabOf K (codeAt K (L.fa K f)))
end Lw
mutual
def repB (K : Fg) : D → Value → Bool
  | .non, .none => true
  | .bl b, .bool c => b == c
  | .int i, .int j _ => decide (i = j)
  | .str x, .str y _ => decide (x = y)
  | .tup ds, .ref a => (match K.lookup a with
    | some ⟨.type c, _, .seq its _, _⟩ => decide (c = "tuple") && (decide (its.size ≤ sizeLine) && repBs K ds its.toList)
    | _ => false)
  | _, _ => false
def repBs (K : Fg) : List D → List Value → Bool
  | [], [] => true
  | d :: ds, v :: vs => repB K d v && repBs K ds vs
  | _, _ => false
end
def glB (K : Fg) (x : Str) (a : Addr) : Bool := He.eqO (PySem.W.nsIn K mainGlobals x) (some (some (.ref a)))
def frB (K : Fg) (x : Str) : Bool := He.eqO (PySem.W.nsIn K mainGlobals x) (some none)
def coB (K : Fg) (p : Str × D) : Bool := match PySem.W.nsIn K mainGlobals p.1 with
  | some (some u) => repB K p.2 u
  | _ => false
def clB (K : Fg) (C : Addr) : Bool := PySem.W.plainGet K C Str.empty && (PySem.W.hasDictIn K C && (PySem.W.plainOver K C && (He.eqO (PySem.W.findIn K (.ref C) "__setattr__") (some (some (.builtin "object.__setattr__"))) &&
  (He.eqO (PySem.W.findIn K (.ref C) "__class__") (some (some (.builtin "object.__class__"))) && (He.eqO (PySem.W.specialIn K (.builtin "object.__class__") "__get__") (some (some (.builtin "getset_descriptor.__get__"))) &&
  (decide (PySem.W.takesIn K (.builtin "object.__class__") = some true) && decide (PySem.W.mroIn K C (.type "object") = some true)))))))
def naB (K : Fg) (C : Addr) (n : Str) : Bool := He.eqO (PySem.W.findIn K (.ref C) n) (some none)
def prB (K : Fg) (C : Addr) (n : Str) (g : Addr) : Bool := match PySem.W.findIn K (.ref C) n with
  | some (some (.ref p)) => He.eqO (PySem.W.specialIn K (.ref p) "__get__") (some (some (.builtin "property.__get__"))) && (decide (PySem.W.takesIn K (.ref p) = some true) && (match PySem.W.recIn K p "property" with
    | some (.ref g' :: _) => decide (g' = g)
    | _ => false))
  | _ => false
def mkB (K : Fg) (C f : Addr) : Bool := PySem.W.makesIn K C && (He.eqO (PySem.W.findIn K (.ref C) "__init__") (some (some (.ref f))) && (PySem.W.isFn K (.ref f) && PySem.W.keepIn K (.ref C)))
def BL : List Str := ["len", "sum", "max", "min", "sorted", "any", "all", "abs", "int", "bool", "str", "tuple", "list", "repr", "divmod", "isinstance", "range", "zip", "enumerate", "set"]
namespace Lw
/-- looked at in the heap -/
def okK (L : Lw) (K : Fg) : Bool :=
  BL.all (frB K) && (L.defs.all (Df.ok K) && (L.glo.all (fun p => glB K p.1 (L.fa K p.2)) && (L.cls.all (fun p => glB K p.1 (L.ca K p.2) && clB K (L.ca K p.2)) && (L.con.all (coB K) &&
  (L.cls.all (fun p => L.fld.all fun n => (L.prop p.2 n).isSome || naB K (L.ca K p.2) n) && (L.prp.all (fun q => prB K (L.ca K q.1) q.2.1 (L.fa K q.2.2)) && L.ini.all (fun q => mkB K (L.ca K q.1) (L.fa K q.2))))))))
def tabsB (L : Lw) (g : Addr → Option Obj) (K : Fg) : Bool := (L.cs K).all (fun p => PySem.W.codeHdIn K p.1 p.2 && (match g p.2 with
  | some o => He.emptyTab o
  | none => false)) && decide ((L.cs K).map (·.2)).Nodup
abbrev Al : Type := Bool × List Tx
def obs (L : Lw) (n : Nat) (g : Addr → Option Obj) : Al := (L.okK (He.frT g (He.asD g n)) && L.tabsB g (He.frT g (He.asD g n)), L.defs.map fun d => txOf (He.frT g (He.asD g n)) (pAd (He.frT g (He.asD g n)) d.at_))
end Lw
end Pv
end

section
set_option Elab.async false
set_option linter.all false
set_option maxRecDepth 100000
set_option maxHeartbeats 0
namespace Lk
open PySem PySem.W PySem.Calls PyProof.Rows Pv
def topI (i : Nat) : Stmt := PySem.Challenge.pw_pledgehall_k69_whole_what_plans_bear.main.body.getD i (.Pass ⟨0, 0, 0, 0⟩)
abbrev top (i : Nat) : Stmt := topI i
def sub (s : Stmt) (j : Nat) : Stmt := match s with
  | .ClassDef _ _ _ b _ _ _ _ _ _ _ => b.getD j (.Pass ⟨0, 0, 0, 0⟩)
  | s => s
def bodyOf (s : Stmt) : List Stmt := match s with
  | .FunctionDef _ _ b _ _ _ _ _ _ _ => b
  | _ => []
def argOf (s : Stmt) : Arguments := match s with
  | .FunctionDef _ a _ _ _ _ _ _ _ _ => a
  | _ => ⟨[], [], none, [], [], none, []⟩
def scOf (s : Stmt) : Scope := match s with
  | .FunctionDef _ _ _ _ _ _ sc _ _ _ => sc
  | _ => { kind := .function, names := [], isGenerator := false, isCoroutine := false }
def mk (at_ : Pa) (name qual : Str) (s : Stmt) (N : List Str) (ini : Bool) (tb : Option Nat) : Df := ⟨at_, name, qual, argOf s, bodyOf s, scOf s, N, ini, tb⟩
def dfs0 : List Df := ([mk (.glo "part_up_to") "part_up_to" "part_up_to" (top 2) ["calls", "index", "_", "part"] false (none),
  mk (.glo "owed_of") "owed_of" "owed_of" (top 3) ["due", "calls", "index"] false (none),
  mk (.glo "last_by") "last_by" "last_by" (top 4) ["calls", "day", "call"] false (none),
  mk (.glo "outlays_by") "outlays_by" "outlays_by" (top 5) ["plan", "day", "at", "units"] false (none),
  mk (.glo "offices_of") "offices_of" "offices_of" (top 6) ["plan", "_", "office"] false (none),
  mk (.glo "slow_sets") "slow_sets" "slow_sets" (top 8) ["plan", "found", "office", "some"] false (none),
  mk (.glo "wait_of") "wait_of" "wait_of" (top 9) ["plan", "office", "slow"] false (none),
  mk (.glo "last_day_of") "last_day_of" "last_day_of" (top 10) ["plan", "_", "late", "wait", "day"] false (none)] : List Df)
def dfs1 : List Df := ([mk (.glo "left_by") "left_by" "left_by" (top 11) ["numbers", "fails"] false (none),
  mk (.glo "is_whole") "is_whole" "is_whole" (top 26) ["value"] false (none),
  mk (.glo "is_number") "is_number" "is_number" (top 27) ["value", "low", "high"] false (none),
  mk (.glo "check_number") "check_number" "check_number" (top 28) ["value", "low", "high"] false (none),
  mk (.glo "is_tuple_of") "is_tuple_of" "is_tuple_of" (top 29) ["value", "many"] false (none),
  mk (.glo "wrong_at") "wrong_at" "wrong_at" (top 30) ["values", "most", "is_right", "at", "value"] false (none),
  mk (.glo "wrong_from_one") "wrong_from_one" "wrong_from_one" (top 31) ["values", "most", "is_right"] false (none),
  mk (.glo "is_letters") "is_letters" "is_letters" (top 32) ["value", "least", "most", "letter"] false (none)] : List Df)
def dfs2 : List Df := ([mk (.glo "is_name") "is_name" "is_name" (top 33) ["value"] false (none),
  mk (.glo "is_payer") "is_payer" "is_payer" (top 45) ["value", "before", "name", "office", "due", "names", "offices", "payer", "each"] false (none),
  mk (.glo "is_call") "is_call" "is_call" (top 46) ["value", "before"] false (none),
  mk (.glo "is_outlay") "is_outlay" "is_outlay" (top 47) ["value", "before"] false (none),
  mk (.glo "are_bounds") "are_bounds" "are_bounds" (top 48) ["value", "number", "most"] false (none),
  mk (.glo "check_payers") "check_payers" "check_payers" (top 49) ["value", "index"] false (none),
  mk (.glo "check_calls") "check_calls" "check_calls" (top 50) ["value", "index"] false (none),
  mk (.glo "check_outlays") "check_outlays" "check_outlays" (top 51) ["value", "index"] false (none)] : List Df)
def dfs3 : List Df := ([mk (.glo "check_plan") "check_plan" "check_plan" (top 54) ["value"] false (none),
  mk (.glo "with_bounds") "with_bounds" "with_bounds" (top 55) ["plan", "bounds"] false (none),
  mk (.glo "surely_come") "surely_come" "surely_come" (top 57) ["plan", "day", "slow", "found", "_", "office", "due"] false (none),
  mk (.glo "least_come") "least_come" "least_come" (top 58) ["plan", "day", "found", "slow", "come"] false (none),
  mk (.glo "margin_by") "margin_by" "margin_by" (top 59) ["plan", "day"] false (none),
  mk (.glo "least_by") "least_by" "least_by" (top 60) ["plan", "found", "day", "margin"] false (none),
  mk (.glo "least_margin") "least_margin" "least_margin" (top 64) ["plan"] false (none),
  mk (.glo "is_borne") "is_borne" "is_borne" (top 65) ["plan"] false (none)] : List Df)
def dfs4 : List Df := ([mk (.glo "greatest_with") "greatest_with" "greatest_with" (top 66) ["most", "is_right", "number"] false (none),
  mk (.glo "bears_fails") "bears_fails" "bears_fails" (top 67) ["plan", "others"] false (some 0),
  mk (.glo "bears_slow") "bears_slow" "bears_slow" (top 68) ["plan", "fails", "late", "_", "wait"] false (some 1),
  mk (.glo "least_reserve") "least_reserve" "least_reserve" (top 69) ["plan"] false (none),
  mk (.glo "_law_urn") "_law_urn" "_law_urn" (top 71) ["script", "lap", "mixed", "cell", "own"] false (none),
  mk (.glo "_law_take") "_law_take" "_law_take" (top 72) ["urn", "many", "figure", "stir"] false (none),
  mk (.glo "_law_of") "_law_of" "_law_of" (top 73) ["urn", "some"] false (none),
  mk (.glo "_law_names") "_law_names" "_law_names" (top 74) ["urn", "many", "found", "letters", "turn", "size", "name", "lap", "at"] false (none)] : List Df)
def dfs5 : List Df := ([mk (.glo "_law_plan") "_law_plan" "_law_plan" (top 75) ["urn", "sizes", "top", "names", "payers", "calls", "outlays", "offices", "name", "due", "many", "days", "left", "day", "turn", "part", "whole", "payer", "most", "reserve"] false (none),
  mk (.glo "_law_bounds") "_law_bounds" "_law_bounds" (top 76) ["urn", "parts", "sizes", "found", "size"] false (none),
  mk (.glo "_law_owed") "_law_owed" "_law_owed" (top 77) ["parts", "payer", "call", "day", "part"] false (none),
  mk (.glo "_law_spent") "_law_spent" "_law_spent" (top 78) ["parts", "day", "at", "units"] false (none),
  mk (.glo "_law_sets") "_law_sets" "_law_sets" (top 79) ["some", "most", "found", "number", "row", "k"] false (none),
  mk (.glo "_law_offices") "_law_offices" "_law_offices" (top 80) ["parts", "payer"] false (none),
  mk (.glo "_law_margin") "_law_margin" "_law_margin" (top 81) ["parts", "day", "fails", "late", "slow", "wait", "found", "some", "sums", "payer", "until", "owed", "k", "at", "part", "kept"] false (none),
  mk (.glo "_law_least") "_law_least" "_law_least" (top 82) ["parts", "day", "units"] false (none)] : List Df)
def dfs6 : List Df := ([mk (.glo "_law_right") "_law_right" "_law_right" (top 83) ["urn", "sizes", "top", "parts", "fails", "late", "slow", "wait", "reserve", "plan", "many", "k", "some", "need", "due", "told", "again"] false (none),
  mk (.glo "law") "law" "law" (top 84) ["script", "lap"] false (none),
  mk (.met "Calls" "__init__") "__init__" "Calls.__init__" (sub (top 52) 0) ["self", "payers", "calls", "outlays", "reserve", "bounds", "parts", "_", "part"] true (none),
  mk (.prp "Calls" "payers") "payers" "Calls.payers" (sub (top 52) 1) ["self"] false (none),
  mk (.prp "Calls" "calls") "calls" "Calls.calls" (sub (top 52) 2) ["self"] false (none),
  mk (.prp "Calls" "outlays") "outlays" "Calls.outlays" (sub (top 52) 3) ["self"] false (none),
  mk (.prp "Calls" "reserve") "reserve" "Calls.reserve" (sub (top 52) 4) ["self"] false (none),
  mk (.prp "Calls" "bounds") "bounds" "Calls.bounds" (sub (top 52) 5) ["self"] false (none)] : List Df)
def dfs : List Df := dfs0 ++ dfs1 ++ dfs2 ++ dfs3 ++ dfs4 ++ dfs5 ++ dfs6
def gloL0 : List (Str × Nat) := ([("part_up_to", 0),
  ("owed_of", 1),
  ("last_by", 2),
  ("outlays_by", 3),
  ("offices_of", 4),
  ("slow_sets", 5),
  ("wait_of", 6),
  ("last_day_of", 7),
  ("left_by", 8),
  ("is_whole", 9),
  ("is_number", 10),
  ("check_number", 11)] : List (Str × Nat))
def gloL1 : List (Str × Nat) := ([("is_tuple_of", 12),
  ("wrong_at", 13),
  ("wrong_from_one", 14),
  ("is_letters", 15),
  ("is_name", 16),
  ("is_payer", 17),
  ("is_call", 18),
  ("is_outlay", 19),
  ("are_bounds", 20),
  ("check_payers", 21),
  ("check_calls", 22),
  ("check_outlays", 23)] : List (Str × Nat))
def gloL2 : List (Str × Nat) := ([("check_plan", 24),
  ("with_bounds", 25),
  ("surely_come", 26),
  ("least_come", 27),
  ("margin_by", 28),
  ("least_by", 29),
  ("least_margin", 30),
  ("is_borne", 31),
  ("greatest_with", 32),
  ("bears_fails", 33),
  ("bears_slow", 34),
  ("least_reserve", 35)] : List (Str × Nat))
def gloL3 : List (Str × Nat) := ([("_law_urn", 36),
  ("_law_take", 37),
  ("_law_of", 38),
  ("_law_names", 39),
  ("_law_plan", 40),
  ("_law_bounds", 41),
  ("_law_owed", 42),
  ("_law_spent", 43),
  ("_law_sets", 44),
  ("_law_offices", 45),
  ("_law_margin", 46),
  ("_law_least", 47)] : List (Str × Nat))
def gloL4 : List (Str × Nat) := ([("_law_right", 48),
  ("law", 49)] : List (Str × Nat))
def gloL : List (Str × Nat) := gloL0 ++ gloL1 ++ gloL2 ++ gloL3 ++ gloL4
def clsL0 : List (Str × Nat) := ([("Calls", 0)] : List (Str × Nat))
def clsL : List (Str × Nat) := clsL0
def conL0 : List (Str × D) := ([("THOUSAND", .int (1000)),
  ("SMALL_LETTERS", .str "abcdefghijklmnopqrstuvwxyz"),
  ("MOST_IN_NAME", .int (8)),
  ("WORDS", .tup [.str "all", .str "any", .str "back", .str "cannot", .str "close", .str "day", .str "fixed", .str "gives", .str "goal", .str "hear", .str "match", .str "may", .str "met", .str "none", .str "office", .str "person", .str "some", .str "sum", .str "sure", .str "terms", .str "with"]),
  ("MOST_PAYERS", .int (12)),
  ("MOST_OFFICES", .int (4)),
  ("MOST_DUE", .int (1000000)),
  ("MOST_CALLS", .int (8))] : List (Str × D))
def conL1 : List (Str × D) := ([("MOST_DAY", .int (60)),
  ("ALL_PARTS", .int (1000)),
  ("MOST_OUTLAYS", .int (8)),
  ("MOST_OUTLAY_DAY", .int (90)),
  ("MOST_UNITS", .int (10000000)),
  ("MOST_BOUNDS", .tup [.int (6), .int (9), .int (3), .int (9)]),
  ("MOST_FAILS", .int (6)),
  ("MOST_SLOW", .int (3))] : List (Str × D))
def conL : List (Str × D) := conL0 ++ conL1
def fldL0 : List Str := (["bounds",
  "calls",
  "outlays",
  "payers",
  "reserve",
  "told"] : List Str)
def fldL : List Str := fldL0
def prpL0 : List (Nat × Str × Nat) := ([(0, "payers", 51),
  (0, "calls", 52),
  (0, "outlays", 53),
  (0, "reserve", 54),
  (0, "bounds", 55)] : List (Nat × Str × Nat))
def prpL : List (Nat × Str × Nat) := prpL0
def iniL0 : List (Nat × Nat) := ([(0, 50)] : List (Nat × Nat))
def iniL : List (Nat × Nat) := iniL0
def L : Lw := ⟨dfs, gloL, clsL, conL, fldL, prpL, iniL, [33, 34]⟩
abbrev R : OpenRow := OpenLaw.row PySem.Challenge.rw_pledgehall_k69_whole_what_plans_bear
abbrev qv : Program := view R.prog [84]
def nm0 : List PySem.Str := (["THOUSAND", "part_up_to", "owed_of", "last_by", "outlays_by", "offices_of", "payer_of", "slow_sets", "wait_of", "last_day_of", "left_by", "PledgeError"] : List PySem.Str)
def nm1 : List PySem.Str := (["InvalidNumber", "InvalidBounds", "NotCalls", "UnknownPayer", "Unfit", "InvalidPayers", "InvalidCalls", "InvalidOutlays", "SMALL_LETTERS", "MOST_IN_NAME", "WORDS", "is_whole"] : List PySem.Str)
def nm2 : List PySem.Str := (["is_number", "check_number", "is_tuple_of", "wrong_at", "wrong_from_one", "is_letters", "is_name", "MOST_PAYERS", "MOST_OFFICES", "MOST_DUE", "MOST_CALLS", "MOST_DAY"] : List PySem.Str)
def nm3 : List PySem.Str := (["ALL_PARTS", "MOST_OUTLAYS", "MOST_OUTLAY_DAY", "MOST_UNITS", "MOST_BOUNDS", "is_payer", "is_call", "is_outlay", "are_bounds", "check_payers", "check_calls", "check_outlays"] : List PySem.Str)
def nm4 : List PySem.Str := (["Calls", "check_payer", "check_plan", "with_bounds", "surely_come", "least_come", "margin_by", "least_by", "MOST_FAILS", "MOST_SLOW", "least_margin", "is_borne"] : List PySem.Str)
def nm5 : List PySem.Str := (["greatest_with", "bears_fails", "bears_slow", "least_reserve", "_law_urn", "_law_take", "_law_of", "_law_names", "_law_plan", "_law_bounds", "_law_owed", "_law_spent"] : List PySem.Str)
def nm6 : List PySem.Str := (["_law_sets", "_law_offices", "_law_margin", "_law_least", "_law_right"] : List PySem.Str)
def names : List PySem.Str := nm0 ++ nm1 ++ nm2 ++ nm3 ++ nm4 ++ nm5 ++ nm6
def ob (s : PySem.W.SharedT) : Lw.Al := L.obs 6 (HandSHeadRun.getT s)
theorem runA (w : World) (os : OsState) : (HandSHeadRun.endF (HandSHeadRun.stepQ (HandSHeadRun.denQ HandSHeadRun.tabQ) R.prog w) 20000 R.prog w os).map (fun s => HandSHeadRun.looksF R.prog (boot_heap w.params) s.abs) = some true := by
  kernel_rfl
theorem runB (w : World) (os : OsState) : (HandSHeadRun.endF (HandSHeadRun.stepQ (HandSHeadRun.denQ HandSHeadRun.tabQ) R.prog w) 20000 R.prog w os).map (fun s => HandSHeadRun.seenQ qv names (importedModules R.prog.main.body) (fun s => xlAt qv [] s && recOk R.toRowW.records s) s.abs) = some (openGood qv names) := by
  kernel_rfl
theorem runC (w : World) (os : OsState) : (HandSHeadRun.endF (HandSHeadRun.stepQ (HandSHeadRun.denQ HandSHeadRun.tabQ) R.prog w) 20000 R.prog w os).map ob = some (true, L.defs.map Df.tx) := by
  kernel_rfl
end Lk
end

section
set_option linter.all false
/-! EvS: sorting, plainly. -/
namespace Pv
open PySem
theorem ltC_irr : ∀ a, ltC a a = false
  | [] => rfl
  | a :: r => by simp [ltC, ltC_irr r]
theorem ltC_tri : ∀ a b, ltC a b = false → ltC b a = false → a = b
  | [], [], _, _ => rfl
  | [], _ :: _, h, _ => by simp [ltC] at h
  | _ :: _, [], _, h => by simp [ltC] at h
  | a :: r, b :: t, h1, h2 => by
    simp only [ltC, Bool.or_eq_false_iff, decide_eq_false_iff_not, Bool.and_eq_false_iff, beq_eq_false_iff_ne] at h1 h2
    have e : a = b := by omega
    subst e
    rw [ltC_tri r t (by rcases h1.2 with h | h; exact (h rfl).elim; exact h) (by rcases h2.2 with h | h; exact (h rfl).elim; exact h)]
theorem ltC_trans : ∀ a b c, ltC a b = true → ltC b c = true → ltC a c = true
  | [], [], _, h, _ => by simp [ltC] at h
  | [], _ :: _, [], _, h => by simp [ltC] at h
  | [], _ :: _, _ :: _, _, _ => rfl
  | _ :: _, [], _, h, _ => by simp [ltC] at h
  | _ :: _, _ :: _, [], _, h => by simp [ltC] at h
  | a :: r, b :: t, c :: u, h1, h2 => by
    simp only [ltC, Bool.or_eq_true, decide_eq_true_eq, Bool.and_eq_true, beq_iff_eq] at h1 h2 ⊢
    rcases h1 with h1 | ⟨rfl, h1⟩
    · rcases h2 with h2 | ⟨rfl, h2⟩
      · exact .inl (by omega)
      · exact .inl h1
    · rcases h2 with h2 | ⟨rfl, h2⟩
      · exact .inl h2
      · exact .inr ⟨rfl, ltC_trans r t u h1 h2⟩
theorem ltC_asym (a b : List Nat) (h : ltC a b = true) : ltC b a = false := by
  cases e : ltC b a with
  | false => rfl
  | true => have := ltC_trans _ _ _ h e; rw [ltC_irr] at this; cases this
/-- not above -/
theorem leC_trans (a b c : List Nat) (h1 : ltC b a = false) (h2 : ltC c b = false) : ltC c a = false := by
  cases e : ltC c a with
  | false => rfl
  | true =>
    cases e2 : ltC a b with
    | true => have := ltC_trans _ _ _ e e2; rw [this] at h2; cases h2
    | false =>
      have := ltC_tri _ _ e2 h1
      subst this
      rw [e] at h2; cases h2
abbrev leS (a b : Str) : Prop := ltS b a = false
theorem leS_antisymm (a b : Str) (h1 : leS a b) (h2 : leS b a) : a = b := by
  have := ltC_tri _ _ h2 h1
  cases a; cases b
  simp only at this
  congr 1
  exact Array.toList_inj.mp this
theorem leS_trans (a b c : Str) (h1 : leS a b) (h2 : leS b c) : leS a c := leC_trans _ _ _ h1 h2
theorem insS_perm (x : Str) : ∀ l, (insS x l).Perm (x :: l)
  | [] => .refl _
  | y :: r => by
    unfold insS
    split
    · exact ((insS_perm x r).cons y).trans (.swap x y r)
    · exact .refl _
theorem sortS_perm : ∀ l, (sortS l).Perm l
  | [] => .refl _
  | x :: r => (insS_perm x _).trans ((sortS_perm r).cons x)
theorem insS_pw (x : Str) : ∀ l, l.Pairwise leS → (insS x l).Pairwise leS
  | [], _ => by simp [insS]
  | y :: r, h => by
    unfold insS
    obtain ⟨h1, h2⟩ := List.pairwise_cons.mp h
    split
    · rename_i q
      refine List.pairwise_cons.mpr ⟨fun z hz => ?_, insS_pw x r h2⟩
      rcases List.mem_cons.mp ((insS_perm x r).mem_iff.mp hz) with rfl | hz
      · exact ltC_asym _ _ q
      · exact h1 z hz
    · rename_i q
      have q' : leS x y := by simpa using q
      refine List.pairwise_cons.mpr ⟨fun z hz => ?_, h⟩
      rcases List.mem_cons.mp hz with rfl | hz
      · exact q'
      · exact leS_trans _ _ _ q' (h1 z hz)
theorem sortS_pw : ∀ l, (sortS l).Pairwise leS
  | [] => .nil
  | x :: r => insS_pw x _ (sortS_pw r)
theorem sortS_uniq {l l' : List Str} (p : l'.Perm l) (h : l'.Pairwise leS) : l' = sortS l :=
  List.Perm.eq_of_pairwise (fun a b _ _ => leS_antisymm a b) h (sortS_pw l) (p.trans (sortS_perm l).symm)
theorem insI_perm (x : Int) : ∀ l, (insI x l).Perm (x :: l)
  | [] => .refl _
  | y :: r => by
    unfold insI
    split
    · exact .refl _
    · exact ((insI_perm x r).cons y).trans (.swap x y r)
theorem sortI_perm : ∀ l, (sortI l).Perm l
  | [] => .refl _
  | x :: r => (insI_perm x _).trans ((sortI_perm r).cons x)
theorem insI_pw (x : Int) : ∀ l, l.Pairwise (· ≤ ·) → (insI x l).Pairwise (· ≤ ·)
  | [], _ => by simp [insI]
  | y :: r, h => by
    unfold insI
    obtain ⟨h1, h2⟩ := List.pairwise_cons.mp h
    split
    · rename_i q
      refine List.pairwise_cons.mpr ⟨fun z hz => ?_, h⟩
      rcases List.mem_cons.mp hz with rfl | hz
      · exact q
      · have := h1 z hz; omega
    · rename_i q
      refine List.pairwise_cons.mpr ⟨fun z hz => ?_, insI_pw x r h2⟩
      rcases List.mem_cons.mp ((insI_perm x r).mem_iff.mp hz) with rfl | hz
      · omega
      · exact h1 z hz
theorem sortI_pw : ∀ l, (sortI l).Pairwise (· ≤ ·)
  | [] => .nil
  | x :: r => insI_pw x _ (sortI_pw r)
theorem sortI_uniq {l l' : List Int} (p : l'.Perm l) (h : l'.Pairwise (· ≤ ·)) : l' = sortI l :=
  List.Perm.eq_of_pairwise (fun a b _ _ h1 h2 => Int.le_antisymm h1 h2) h (sortI_pw l) (p.trans (sortI_perm l).symm)
/-! ### pairs -/
abbrev leP (a b : Int × Int) : Prop := lexP b a = false
theorem lexP_no {p q : Int × Int} : lexP p q = false ↔ q.1 < p.1 ∨ (p.1 = q.1 ∧ q.2 ≤ p.2) := by
  unfold lexP
  split <;> rw [decide_eq_false_iff_not] <;> omega
theorem lexP_yes {p q : Int × Int} : lexP p q = true ↔ p.1 < q.1 ∨ (p.1 = q.1 ∧ p.2 < q.2) := by
  unfold lexP
  split <;> rw [decide_eq_true_eq] <;> omega
theorem leP_antisymm (a b : Int × Int) (h1 : leP a b) (h2 : leP b a) : a = b := by
  have h1 := lexP_no.mp h1
  have h2 := lexP_no.mp h2
  obtain ⟨a1, a2⟩ := a
  obtain ⟨b1, b2⟩ := b
  simp only at h1 h2
  simp only [Prod.mk.injEq]
  omega
theorem leP_trans (a b c : Int × Int) (h1 : leP a b) (h2 : leP b c) : leP a c := by
  have h1 := lexP_no.mp h1
  have h2 := lexP_no.mp h2
  refine lexP_no.mpr ?_
  omega
theorem insP_perm (x : Int × Int) : ∀ l, (insP x l).Perm (x :: l)
  | [] => .refl _
  | y :: r => by
    unfold insP
    split
    · exact ((insP_perm x r).cons y).trans (.swap x y r)
    · exact .refl _
theorem sortP_perm : ∀ l, (sortP l).Perm l
  | [] => .refl _
  | x :: r => (insP_perm x _).trans ((sortP_perm r).cons x)
theorem insP_pw (x : Int × Int) : ∀ l, l.Pairwise leP → (insP x l).Pairwise leP
  | [], _ => by simp [insP]
  | y :: r, h => by
    unfold insP
    obtain ⟨h1, h2⟩ := List.pairwise_cons.mp h
    split
    · rename_i q
      refine List.pairwise_cons.mpr ⟨fun z hz => ?_, insP_pw x r h2⟩
      rcases List.mem_cons.mp ((insP_perm x r).mem_iff.mp hz) with rfl | hz
      · have := lexP_yes.mp q
        exact lexP_no.mpr (by omega)
      · exact h1 z hz
    · rename_i q
      have q' : leP x y := by simpa using q
      refine List.pairwise_cons.mpr ⟨fun z hz => ?_, h⟩
      rcases List.mem_cons.mp hz with rfl | hz
      · exact q'
      · exact leP_trans _ _ _ q' (h1 z hz)
theorem sortP_pw : ∀ l, (sortP l).Pairwise leP
  | [] => .nil
  | x :: r => insP_pw x _ (sortP_pw r)
theorem sortP_uniq {l l' : List (Int × Int)} (p : l'.Perm l) (h : l'.Pairwise leP) : l' = sortP l :=
  List.Perm.eq_of_pairwise (fun a b _ _ => leP_antisymm a b) h (sortP_pw l) (p.trans (sortP_perm l).symm)
end Pv
end

section
set_option Elab.async false
set_option linter.all false
set_option maxRecDepth 100000
/-! EvBn: plain parameters are bound. -/
namespace Pv
open PySem PySem.Spec PyProof.Rows L2
def plainArgs (p : Arguments) : Bool := p.posonlyargs.isEmpty && p.vararg.isNone && p.kwonlyargs.isEmpty && p.kwarg.isNone && p.defaults.isEmpty && p.kw_defaults.isEmpty
def parNames (p : Arguments) : List Str := p.args.map (·.arg)
theorem zip_lookup : ∀ {ps : List Str} {us : List Value} {x : Str}, ps.Nodup → ps.length = us.length → x ∈ ps → ∃ u, (ps.zip us).lookup x = some u
  | p :: ps, u :: us, x, nd, hl, hx => by
    rw [List.zip_cons_cons, List.lookup_cons]
    by_cases e : x = p
    · subst e; exact ⟨u, by simp⟩
    · have : (x == p) = false := by simpa using e
      rw [this]
      exact zip_lookup (List.nodup_cons.mp nd).2 (by simpa using hl) ((List.mem_cons.mp hx).resolve_left e)
  | p :: ps, [], x, nd, hl, hx => by simp at hl
theorem zip_binds : ∀ {ps : List Str} {us : List Value} {L : List (Str × Value)}, ps.length = us.length → (∀ (i : Nat) (x : Str) (u : Value), ps[i]? = some x → us[i]? = some u → L.lookup x = some u) → ps.filterMap (fun n => (L.lookup n).map (n, ·)) = ps.zip us
  | [], us, L, hl, h => by simp
  | p :: ps, u :: us, L, hl, h => by
    rw [List.filterMap_cons, h 0 p u rfl rfl, List.zip_cons_cons]
    exact congrArg ((p, u) :: ·) (zip_binds (by simpa using hl) fun i x v e1 e2 => h (i + 1) x v (by simpa using e1) (by simpa using e2))
  | p :: ps, [], L, hl, h => by simp at hl
theorem zip_at : ∀ {ps : List Str} {us : List Value} {i : Nat} {x : Str} {u : Value}, ps.Nodup → ps[i]? = some x → us[i]? = some u → (ps.zip us).lookup x = some u
  | [], _, i, x, u, _, e1, _ => by simp at e1
  | p :: ps, [], i, x, u, _, _, e2 => by simp at e2
  | p :: ps, v :: us, 0, x, u, _, e1, e2 => by
    simp at e1 e2; subst e1; subst e2
    simp
  | p :: ps, v :: us, i + 1, x, u, nd, e1, e2 => by
    rw [List.zip_cons_cons, List.lookup_cons]
    have e1 : ps[i]? = some x := by simpa using e1
    have hx : x ∈ ps := List.mem_of_getElem? e1
    have : (x == p) = false := by
      have : x ≠ p := fun z => (List.nodup_cons.mp nd).1 (z ▸ hx)
      simpa using this
    rw [this]
    exact zip_at (List.nodup_cons.mp nd).2 e1 (by simpa using e2)
theorem bind_plain {fd : FuncData} {us : List Value} (hp : plainArgs fd.params = true) (hd : fd.defaults = .none) (nd : (parNames fd.params).Nodup) (hl : us.length = (parNames fd.params).length) : bindArgs fd ⟨us, []⟩ = pure ((parNames fd.params).zip us) := by
  unfold plainArgs at hp
  simp only [Bool.and_eq_true, List.isEmpty_iff, Option.isNone_iff_eq_none] at hp
  obtain ⟨⟨⟨⟨⟨h1, h2⟩, h3⟩, h4⟩, h5⟩, h6⟩ := hp
  have hl' : (parNames fd.params).length = us.length := hl.symm
  have hs : (do let x ← seqItems? fd.defaults; pure x : Sem (Option (Array Value))) = pure none := by
    rw [hd]; rfl
  have hmiss : ((parNames fd.params).take ((parNames fd.params).length)).filter (fun n => (((parNames fd.params).zip us).lookup n).isNone) = [] := by
    rw [List.filter_eq_nil_iff]
    intro x hx
    obtain ⟨u, e⟩ := zip_lookup nd hl' (List.mem_of_mem_take hx)
    rw [e]; simp
  have hb := zip_binds (L := (parNames fd.params).zip us) hl' fun i x u e1 e2 => zip_at nd e1 e2
  unfold bindArgs
  have hseq : seqItems? fd.defaults = pure none := by rw [hd]; rfl
  unfold parNames at *
  simp only [h1, h2, h3, h4, hseq, List.map_nil, List.nil_append, List.append_nil, pure_bind, Option.getD_none, Option.isNone_none, Bool.and_true, List.forIn_nil]
  generalize hps : List.map (fun x => x.arg) fd.params.args = ps at *
  have g : decide (us.length > ps.length) = false := by rw [hl]; simp
  simp only [g, List.drop_nil, List.length_nil, Nat.sub_zero, Array.toList_empty, List.take_length] at hmiss ⊢
  simp only [hmiss, hb, List.zip_nil_right, List.forIn_nil, pure_bind, List.isEmpty_nil, Bool.not_true, Bool.false_eq_true, if_false]
theorem zip_lookup_none : ∀ {ps : List Str} {us : List Value} {x : Str}, x ∉ ps → (ps.zip us).lookup x = none
  | [], us, x, h => by simp
  | p :: ps, [], x, h => by simp
  | p :: ps, u :: us, x, h => by
    rw [List.zip_cons_cons, List.lookup_cons]
    have : (x == p) = false := by
      have : x ≠ p := fun z => h (z ▸ .head _)
      simpa using this
    rw [this]
    exact zip_lookup_none fun z => h (.tail _ z)
theorem zip_split : ∀ (ps : List Str) (us ws : List Value), us.length ≤ ps.length → ps.zip us ++ (ps.drop us.length).zip ws = ps.zip (us ++ ws)
  | ps, [], ws, _ => by simp
  | [], u :: us, ws, h => by simp at h
  | p :: ps, u :: us, ws, h => by
    simp only [List.zip_cons_cons, List.length_cons, List.drop_succ_cons, List.cons_append]
    exact congrArg _ (zip_split ps us ws (by simpa using h))
theorem zip_take : ∀ (ps : List Str) (us : List Value), ps.zip us = (ps.take us.length).zip us
  | [], us => by simp
  | p :: ps, [] => by simp
  | p :: ps, u :: us => by simp [zip_take ps us]
theorem permA_get {α : Type} : ∀ {ix : List Nat} {xs ys : List α}, permA ix xs = some ys → ys.length = ix.length ∧ ∀ (j : Nat) (y : α), ys[j]? = some y → ∃ a, ix[j]? = some a ∧ xs[a]? = some y
  | [], xs, ys, h => by cases h; exact ⟨rfl, fun j y e => by simp at e⟩
  | i :: r, xs, ys, h => by
    unfold permA at h
    split at h
    · rename_i x zs e1 e2
      cases h
      obtain ⟨h1, h2⟩ := permA_get e2
      refine ⟨congrArg Nat.succ h1, fun j y e => ?_⟩
      cases j with
      | zero => simp at e; subst e; exact ⟨i, rfl, e1⟩
      | succ j => exact h2 j y (by simpa using e)
    · cases h
theorem permA_some {α β : Type} : ∀ {ix : List Nat} {xs : List α} {ys : List β} {zs : List α}, permA ix xs = some zs → xs.length = ys.length → ∃ ws, permA ix ys = some ws
  | [], _, _, _, _, _ => ⟨[], rfl⟩
  | i :: r, xs, ys, zs, h, hl => by
    unfold permA at h
    split at h
    · rename_i x zs' e1 e2
      obtain ⟨ws, e3⟩ := permA_some e2 hl
      have hi : i < ys.length := by rw [← hl]; exact (List.getElem?_eq_some_iff.mp e1).1
      exact ⟨ys[i] :: ws, by unfold permA; rw [List.getElem?_eq_getElem hi, e3]⟩
    · cases h
theorem permA_map {α β : Type} {f : α → β} : ∀ {ix : List Nat} {xs : List α}, permA ix (xs.map f) = (permA ix xs).map (·.map f)
  | [], xs => rfl
  | i :: r, xs => by
    unfold permA
    rw [permA_map (ix := r), List.getElem?_map]
    cases xs[i]? <;> cases permA r xs <;> rfl
theorem permA_off {α : Type} (x : α) : ∀ (ix : List Nat) (xs : List α), permA (ix.map (· + 1)) (x :: xs) = permA ix xs
  | [], xs => rfl
  | i :: r, xs => by
    simp only [List.map_cons]
    unfold permA
    rw [permA_off x r xs, List.getElem?_cons_succ]
theorem permA_range {α : Type} : ∀ (xs : List α), permA (List.range xs.length) xs = some xs
  | [] => rfl
  | x :: xs => by
    have e : List.range (x :: xs).length = 0 :: (List.range xs.length).map (· + 1) := by
      rw [List.length_cons, List.range_succ_eq_map]
    rw [e]
    unfold permA
    rw [permA_off, permA_range xs]
    rfl
/-- f(.., k = v, ..), the names in any order -/
theorem bind_plainKw {fd : FuncData} {us ws ws' : List Value} {ks : List Str} {ix : List Nat} (hp : plainArgs fd.params = true) (hd : fd.defaults = .none) (nd : (parNames fd.params).Nodup) (hl : us.length + ks.length = (parNames fd.params).length) (hw : ws.length = ks.length)
    (hkn : ks.Nodup) (hks : ∀ k ∈ ks, k ∈ (parNames fd.params).drop us.length) (h1 : permA ix ks = some ((parNames fd.params).drop us.length)) (h2 : permA ix ws = some ws') :
    bindArgs fd ⟨us, ks.zip ws⟩ = pure ((parNames fd.params).zip (us ++ ws')) := by
  unfold plainArgs at hp
  simp only [Bool.and_eq_true, List.isEmpty_iff, Option.isNone_iff_eq_none] at hp
  obtain ⟨⟨⟨⟨⟨a1, a2⟩, a3⟩, a4⟩, a5⟩, a6⟩ := hp
  obtain ⟨l1, g1⟩ := permA_get h1
  obtain ⟨l2, g2⟩ := permA_get h2
  have hl' : (parNames fd.params).length = (us ++ ws').length := by
    rw [List.length_append, l2, ← l1, List.length_drop]; omega
  have apart : ∀ x, x ∈ (parNames fd.params).drop us.length → ((parNames fd.params).zip us).lookup x = none := fun x hx => by
    rw [zip_take]
    refine zip_lookup_none fun z => ?_
    have := nd
    rw [← List.take_append_drop us.length (parNames fd.params), List.nodup_append] at this
    exact this.2.2 _ z _ hx rfl
  have key : ∀ (i : Nat) (x : Str) (u : Value), (parNames fd.params)[i]? = some x → (us ++ ws')[i]? = some u → ((parNames fd.params).zip us ++ ks.zip ws).lookup x = some u := fun i x u e1 e2 => by
    rw [List.lookup_append]
    by_cases hi : i < us.length
    · rw [List.getElem?_append_left hi] at e2
      rw [zip_at nd e1 e2]; rfl
    · rw [List.getElem?_append_right (by omega)] at e2
      have e3 : ((parNames fd.params).drop us.length)[i - us.length]? = some x := by
        rw [List.getElem?_drop, ← e1]; congr 1; omega
      rw [apart x (List.mem_of_getElem? e3)]
      obtain ⟨a, b1, b2⟩ := g1 _ _ e3
      obtain ⟨a', b3, b4⟩ := g2 _ _ e2
      rw [b1] at b3; cases b3
      rw [zip_at hkn b2 b4]; rfl
  have hmiss : ((parNames fd.params).take ((parNames fd.params).length)).filter (fun n => (((parNames fd.params).zip us ++ ks.zip ws).lookup n).isNone) = [] := by
    rw [List.filter_eq_nil_iff]
    intro x hx
    obtain ⟨i, e1⟩ := List.mem_iff_getElem?.mp (List.mem_of_mem_take hx)
    have hi : i < (us ++ ws').length := by rw [← hl']; exact (List.getElem?_eq_some_iff.mp e1).1
    rw [key i x _ e1 (List.getElem?_eq_getElem hi)]; simp
  have hb := zip_binds (L := (parNames fd.params).zip us ++ ks.zip ws) hl' key
  have loop : ∀ (f : Str × Value → (List (Str × Value) × List (Str × Value)) → Sem (ForInStep (List (Str × Value) × List (Str × Value)))) ,
      (∀ (k : Str) (v : Value) (ex sl : List (Str × Value)), k ∈ parNames fd.params → sl.lookup k = none → f (k, v) (sl, ex) = pure (.yield (sl ++ [(k, v)], ex))) →
      ∀ (qs : List (Str × Value)) (ex sl : List (Str × Value)), (qs.map (·.1)).Nodup → (∀ q ∈ qs, q.1 ∈ parNames fd.params ∧ sl.lookup q.1 = none) → forIn qs ((sl, ex) : List (Str × Value) × List (Str × Value)) f = pure (sl ++ qs, ex) := by
    intro f hf qs
    induction qs with
    | nil => intro ex sl _ _; rw [List.forIn_nil, List.append_nil]
    | cons q qs ih =>
      intro ex sl hnd hq
      obtain ⟨k, v⟩ := q
      obtain ⟨q1, q2⟩ := hq _ (.head _)
      rw [List.forIn_cons, hf k v ex sl q1 q2, pure_bind]
      rw [List.map_cons, List.nodup_cons] at hnd
      have := ih ex (sl ++ [(k, v)]) hnd.2 fun p hp' => by
        obtain ⟨a1, a2⟩ := hq p (.tail _ hp')
        refine ⟨a1, ?_⟩
        rw [List.lookup_append, a2]
        have : (p.1 == k) = false := by
          have : p.1 ≠ k := fun z => hnd.1 (z ▸ List.mem_map.mpr ⟨p, hp', rfl⟩)
          simpa using this
        simp [List.lookup_cons, this]
      rw [List.append_assoc] at this
      exact this
  have hqs : ((ks.zip ws).map (·.1)).Nodup := by
    rw [List.map_fst_zip (by omega)]
    exact hkn
  have hqm : ∀ q ∈ ks.zip ws, q.1 ∈ parNames fd.params ∧ ((parNames fd.params).zip us).lookup q.1 = none := fun q hq => by
    have m := hks _ (List.of_mem_zip hq).1
    exact ⟨List.mem_of_mem_drop m, apart _ m⟩
  unfold bindArgs
  have hseq : seqItems? fd.defaults = pure none := by rw [hd]; rfl
  unfold parNames at *
  simp only [a1, a2, a3, a4, hseq, List.map_nil, List.nil_append, List.append_nil, pure_bind, Option.getD_none, Option.isNone_none, Bool.and_true, List.forIn_nil]
  generalize hps : List.map (fun x => x.arg) fd.params.args = ps at *
  rw [loop _ (fun k v ex sl m1 m2 => by
    have : ps.contains k = true := by simpa using m1
    simp only [this, Bool.true_or, if_true, m2, Option.isSome_none, Bool.false_eq_true, if_false]) _ _ _ hqs hqm, pure_bind]
  have g : decide (us.length > ps.length) = false := by
    have : ¬ us.length > ps.length := by omega
    simpa using this
  simp only [g, List.drop_nil, List.length_nil, Nat.sub_zero, Array.toList_empty, List.take_length] at hmiss ⊢
  simp only [hmiss, hb, List.zip_nil_right, List.forIn_nil, pure_bind, List.isEmpty_nil, Bool.not_true, Bool.false_eq_true, if_false]
end Pv
end

section
set_option Elab.async false
set_option linter.all false
set_option maxRecDepth 100000
/-! EvB: how data lies in a heap. -/
namespace Pv
open PySem PySem.Spec PyProof.Rows L2

/-- the written part's addresses -/
structure Wr where
  K : PySem.W.Frag
  fa : Nat → Addr
  ca : Nat → Addr
  par : Nat → Option (List Str) := fun _ => none
  tab : Nat → Addr := fun _ => 0
  tnm : Nat → Nat → Nat → Str := fun _ _ _ => ""
  cloP : Fn → List Str → List (Str × Addr) → Addr → FuncData → Prop := fun _ _ _ _ _ => False
/-- a tuple, a list of the written part -/
def KT (K : PySem.W.Frag) (a : Addr) (xs : List V) : Prop :=
  ∃ (o : Obj) (its : Array Value) (n : Nat), K.lookup a = some o ∧ o.cls = .type "tuple" ∧ o.data = .seq its n ∧ its.size ≤ sizeLine ∧ Vals xs its.toList
def KL (K : PySem.W.Frag) (a : Addr) (xs : List V) : Prop :=
  ∃ (o : Obj) (its : Array Value) (n : Nat), K.lookup a = some o ∧ o.cls = .type "list" ∧ o.dict = none ∧ o.data = .seq its n ∧ its.size ≤ sizeLine ∧ Vals xs its.toList

/-- a dict's key -/
def keyD : Key → D
  | .inl i => .int i
  | .inr x => .str x
section
variable (W : Wr) (m : Addr → Prop) (θ : List Addr) (H : Hp)
mutual
/-- the value v is the data d; m: what may change -/
inductive RepV : D → V → Prop
  | non : RepV .non .non
  | bl (b : Bool) : RepV (.bl b) (.bl b)
  | int (i : Int) : RepV (.int i) (.int i)
  | str (x : Str) : RepV (.str x) (.str x)
  | ty (n : String) : RepV (.ty n) (.ty n)
  | fn (i : Nat) : RepV (.fn i) (.ref (W.fa i))
  | cls (i : Nat) : RepV (.cls i) (.ref (W.ca i))
  | tup {a : Addr} {vs : List V} {ds : List D} : ((Rd H a (.tup vs) ∧ ¬ m a) ∨ KT W.K a vs) → RepVs ds vs → RepV (.tup ds) (.ref a)
  | lst {a : Addr} {vs : List V} {ds : List D} : H a = some (.lst vs) → ¬ m a → RepVs ds vs → RepV (.lst ds) (.ref a)
  | scr {a : Addr} {vs : List V} {ds : List D} : ((Rd H a (.lst vs) ∧ ¬ m a) ∨ KL W.K a vs) → RepVs ds vs → RepV (.scr ds) (.ref a)
  | obj {a dx : Addr} {c : Nat} {vfs : List (Str × V)} {fs : List (Str × D)} : H a = some (.ins (W.ca c) dx vfs) → ¬ m a → vfs.map (·.1) = fs.map (·.1) → RepVs (fs.map (·.2)) (vfs.map (·.2)) → RepV (.obj c fs) (.ref a)
  | dic {a : Addr} {vkvs : List (Key × V)} {kvs : List (D × D)} : H a = some (.dK vkvs) → ¬ m a → vkvs.map (fun p => keyD p.1) = kvs.map (·.1) → RepVs (kvs.map (·.2)) (vkvs.map (·.2)) → RepV (.dic kvs) (.ref a)
  | ref {l : Nat} {a : Addr} : θ[l]? = some a → RepV (.ref l) (.ref a)
  | opq (a : Addr) : RepV .opq (.ref a)
inductive RepVs : List D → List V → Prop
  | nil : RepVs [] []
  | cons {d : D} {v : V} {ds : List D} {vs : List V} : RepV d v → RepVs ds vs → RepVs (d :: ds) (v :: vs)
end
end

/-- what was tracked and may not change stays; what may change, changed or was not there -/
structure Keep (m : Addr → Prop) (θ : List Addr) (H : Hp) (m' : Addr → Prop) (θ' : List Addr) (H' : Hp) : Prop where
  kp : ∀ a o, H a = some o → ¬ m a → H' a = some o
  mm : ∀ a o, H a = some o → m' a → m a
  th : ∀ (l : Nat) (a : Addr), θ[l]? = some a → θ'[l]? = some a

section
variable {W : Wr} {m m' : Addr → Prop} {θ θ' : List Addr} {H H' : Hp}
theorem Rd.there {a : Addr} {u : HO} (r : Rd H a u) : ∃ o, H a = some o := r.elim (fun h => ⟨_, h⟩) fun ⟨o, h⟩ => ⟨_, h⟩
theorem Keep.rd (k : Keep m θ H m' θ' H') {a : Addr} {u : HO} (r : Rd H a u) (n : ¬ m a) : Rd H' a u ∧ ¬ m' a := by
  refine ⟨?_, fun z => ?_⟩
  · rcases r with h | ⟨o, h⟩
    · exact .inl (k.kp _ _ h n)
    · exact .inr ⟨o, k.kp _ _ h n⟩
  · obtain ⟨o, h⟩ := Rd.there r
    exact n (k.mm _ _ h z)
mutual
theorem RepV.keep (k : Keep m θ H m' θ' H') : ∀ {d : D} {v : V}, RepV W m θ H d v → RepV W m' θ' H' d v
  | _, _, .non => .non
  | _, _, .bl b => .bl b
  | _, _, .int i => .int i
  | _, _, .str x => .str x
  | _, _, .ty n => .ty n
  | _, _, .fn i => .fn i
  | _, _, .cls i => .cls i
  | _, _, .tup (.inl ⟨r, n⟩) rs => .tup (.inl (k.rd r n)) (RepVs.keep k rs)
  | _, _, .tup (.inr r) rs => .tup (.inr r) (RepVs.keep k rs)
  | _, _, .lst h n rs => .lst (k.kp _ _ h n) (fun z => n (k.mm _ _ h z)) (RepVs.keep k rs)
  | _, _, .scr (.inl ⟨r, n⟩) rs => .scr (.inl (k.rd r n)) (RepVs.keep k rs)
  | _, _, .scr (.inr r) rs => .scr (.inr r) (RepVs.keep k rs)
  | _, _, .obj h n e rs => .obj (k.kp _ _ h n) (fun z => n (k.mm _ _ h z)) e (RepVs.keep k rs)
  | _, _, .dic h n e rs => .dic (k.kp _ _ h n) (fun z => n (k.mm _ _ h z)) e (RepVs.keep k rs)
  | _, _, .ref h => .ref (k.th _ _ h)
  | _, _, .opq a => .opq a
theorem RepVs.keep (k : Keep m θ H m' θ' H') : ∀ {ds : List D} {vs : List V}, RepVs W m θ H ds vs → RepVs W m' θ' H' ds vs
  | _, _, .nil => .nil
  | _, _, .cons r rs => .cons (RepV.keep k r) (RepVs.keep k rs)
end
theorem RepVs.length : ∀ {ds : List D} {vs : List V}, RepVs W m θ H ds vs → ds.length = vs.length
  | _, _, .nil => rfl
  | _, _, .cons _ rs => congrArg Nat.succ (RepVs.length rs)
theorem RepVs.get : ∀ {ds : List D} {vs : List V} {i : Nat} {d : D}, RepVs W m θ H ds vs → ds[i]? = some d → ∃ v, vs[i]? = some v ∧ RepV W m θ H d v
  | _, _, _, _, .nil, e => by simp at e
  | _, _, 0, _, .cons r _, e => by simp at e; subst e; exact ⟨_, rfl, r⟩
  | _, _, i + 1, d, .cons _ rs, e => by
    obtain ⟨v, h1, h2⟩ := RepVs.get (i := i) (d := d) rs (by simpa using e)
    exact ⟨v, by simpa using h1, h2⟩
theorem RepVs.getV : ∀ {ds : List D} {vs : List V} {i : Nat} {v : V}, RepVs W m θ H ds vs → vs[i]? = some v → ∃ d, ds[i]? = some d ∧ RepV W m θ H d v
  | _, _, _, _, .nil, e => by simp at e
  | _, _, 0, _, .cons r _, e => by simp at e; subst e; exact ⟨_, rfl, r⟩
  | _, _, i + 1, v, .cons _ rs, e => by
    obtain ⟨d, h1, h2⟩ := RepVs.getV (i := i) (v := v) rs (by simpa using e)
    exact ⟨d, by simpa using h1, h2⟩
theorem RepVs.append : ∀ {ds es : List D} {vs us : List V}, RepVs W m θ H ds vs → RepVs W m θ H es us → RepVs W m θ H (ds ++ es) (vs ++ us)
  | _, _, _, _, .nil, s => s
  | _, _, _, _, .cons r rs, s => .cons r (RepVs.append rs s)
theorem RepVs.take (n : Nat) : ∀ {ds : List D} {vs : List V}, RepVs W m θ H ds vs → RepVs W m θ H (ds.take n) (vs.take n)
  | _, _, .nil => by simp only [List.take_nil]; exact .nil
  | _, _, .cons r rs => by
    cases n with
    | zero => exact .nil
    | succ n => exact .cons r (RepVs.take n rs)
theorem RepVs.drop (n : Nat) : ∀ {ds : List D} {vs : List V}, RepVs W m θ H ds vs → RepVs W m θ H (ds.drop n) (vs.drop n)
  | _, _, .nil => by simp only [List.drop_nil]; exact .nil
  | _, _, .cons r rs => by
    cases n with
    | zero => exact .cons r rs
    | succ n => exact RepVs.drop n rs
theorem RepVs.set {d : D} {v : V} (r : RepV W m θ H d v) : ∀ (i : Nat) {ds : List D} {vs : List V}, RepVs W m θ H ds vs → RepVs W m θ H (ds.set i d) (vs.set i v)
  | _, _, _, .nil => .nil
  | 0, _, _, .cons _ rs => .cons r rs
  | i + 1, _, _, .cons q rs => .cons q (RepVs.set r i rs)
theorem RepVs.rep {ds : List D} {vs : List V} (r : RepVs W m θ H ds vs) : ∀ n : Nat, RepVs W m θ H (List.replicate n ds).flatten (List.replicate n vs).flatten
  | 0 => .nil
  | n + 1 => by simp only [List.replicate_succ, List.flatten_cons]; exact r.append (r.rep n)
/-- intsOf, bools, texts -/
theorem repI : ∀ (ns : List Int), RepVs W m θ H (ns.map .int) (ns.map .int)
  | [] => .nil
  | n :: ns => .cons (.int n) (repI ns)
theorem repS : ∀ (ns : List Str), RepVs W m θ H (ns.map .str) (ns.map .str)
  | [] => .nil
  | n :: ns => .cons (.str n) (repS ns)
theorem ints_rep : ∀ {ds : List D} {ns : List Int} {vs : List V}, intsOf ds = some ns → RepVs W m θ H ds vs → vs = ns.map .int
  | [], ns, vs, e, r => by simp [intsOf] at e; subst e; cases r; rfl
  | .int i :: ds, ns, vs, e, r => by
    simp only [intsOf, Option.map_eq_some_iff] at e
    obtain ⟨ns', e1, rfl⟩ := e
    cases r with
    | cons r rs => cases r; rw [ints_rep e1 rs]; rfl
  | .non :: _, _, _, e, _ => by simp [intsOf] at e
  | .bl _ :: _, _, _, e, _ => by simp [intsOf] at e
  | .str _ :: _, _, _, e, _ => by simp [intsOf] at e
  | .tup _ :: _, _, _, e, _ => by simp [intsOf] at e
  | .lst _ :: _, _, _, e, _ => by simp [intsOf] at e
  | .scr _ :: _, _, _, e, _ => by simp [intsOf] at e
  | .dic _ :: _, _, _, e, _ => by simp [intsOf] at e
  | .ty _ :: _, _, _, e, _ => by simp [intsOf] at e
  | .fn _ :: _, _, _, e, _ => by simp [intsOf] at e
  | .cls _ :: _, _, _, e, _ => by simp [intsOf] at e
  | .obj _ _ :: _, _, _, e, _ => by simp [intsOf] at e
  | .ref _ :: _, _, _, e, _ => by simp [intsOf] at e
  | .opq :: _, _, _, e, _ => by simp [intsOf] at e
theorem strs_rep : ∀ {ds : List D} {ns : List Str} {vs : List V}, strsOf ds = some ns → RepVs W m θ H ds vs → vs = ns.map .str
  | [], ns, vs, e, r => by simp [strsOf] at e; subst e; cases r; rfl
  | d :: ds, ns, vs, e, r => by
    cases d <;> first | (simp [strsOf] at e; done) | skip
    simp only [strsOf, Option.map_eq_some_iff] at e
    obtain ⟨ns', e1, rfl⟩ := e
    cases r with
    | cons r rs => cases r; rw [strs_rep e1 rs]; rfl
theorem bls_rep : ∀ {ds : List D} {ns : List Bool} {vs : List V}, blsOf ds = some ns → RepVs W m θ H ds vs → vs = ns.map .bl
  | [], ns, vs, e, r => by simp [blsOf] at e; subst e; cases r; rfl
  | d :: ds, ns, vs, e, r => by
    cases d <;> first | (simp [blsOf] at e; done) | skip
    simp only [blsOf, Option.map_eq_some_iff] at e
    obtain ⟨ns', e1, rfl⟩ := e
    cases r with
    | cons r rs => cases r; rw [bls_rep e1 rs]; rfl
end
end Pv
end

section
set_option Elab.async false
set_option linter.all false
set_option maxRecDepth 100000
/-! EvC: the evaluator's state in a heap; what an expression's and a statement's end must bear. -/
namespace Pv
open PySem PySem.Spec PyProof.Rows L2 LamX NdefX

abbrev Fb := Addr → Prop
/-- the very object o lies at a -/
def ExO (a : Addr) (o : Obj) : HO := .ext fun h => h.get? a = some o
/-- what may change, or a table -/
def MutT : Option HO → Prop
  | some (.tbl _) => True
  | o => Mut o
theorem MutT.of {o : Option HO} (h : Mut o) : MutT o := by
  cases o with
  | none => exact h
  | some u => cases u <;> first | exact h | trivial
/-- an object that may change lies at a -/
def ObR (W : Wr) (m : Fb) (θ : List Addr) (H : Hp) : Ob → Addr → Prop
  | .lst xs, a => ∃ vs, H a = some (.lst vs) ∧ RepVs W m θ H xs vs
  | .ins c fs, a => ∃ dx vfs, H a = some (.ins (W.ca c) dx vfs) ∧ vfs.map (·.1) = fs.map (·.1) ∧ RepVs W m θ H (fs.map (·.2)) (vfs.map (·.2))
  | .dic kvs, a => ∃ vkvs, H a = some (.dK vkvs) ∧ vkvs.map (fun p => keyD p.1) = kvs.map (·.1) ∧ RepVs W m θ H (kvs.map (·.2)) (vkvs.map (·.2))
  | .tbl i, a => a = W.tab i ∧ ∃ ps : Array Value, H a = some (.tbl ps) ∧ TriplesOk ps.toList ∧ ∀ (pos : Pos) (cv : Value), codeAmong pos ps.toList = some cv → ∃ c, cv = .ref c ∧ H c = some (CodeO c (W.tnm i pos.line pos.col)) ∧ ¬ m c
/-- captured names' cells -/
structure CapR (m : Fb) (H : Hp) (cl : List (Str × Addr)) (fr : List Str) (ws : List V) : Prop where
  len : ws.length = fr.length
  all : ∀ y c, cl.lookup y = some c → ¬ m c ∧ ∃ o u, H c = some (ExO c o) ∧ o.data = .cell u
  inj : ∀ x y c, cl.lookup x = some c → cl.lookup y = some c → x = y
  has : ∀ (i : Nat) (y : Str), fr[i]? = some y → ∃ c, cl.lookup y = some c ∧ ∀ v, ws[i]? = some v → ∃ o u, H c = some (ExO c o) ∧ o.data = .cell (some u) ∧ RelV v u
/-- a closure lies at a: its form, what it captured -/
def CloR (W : Wr) (m : Fb) (θ : List Addr) (H : Hp) (f : Fn) (cs : List D) (a : Addr) : Prop :=
  ∃ (o : Obj) (fd : FuncData) (fr : List Str) (cl : List (Str × Addr)) (c : Addr) (ws : List V), H a = some (ExO a o) ∧ ¬ m a ∧ o.cls = .type "function" ∧ o.data = .func fd ∧ W.cloP f fr cl c fd ∧ H c = some (CodeO c fd.qualname) ∧ ¬ m c ∧ RepVs W m θ H cs ws ∧ CapR m H cl fr ws
theorem CapR.keep {m m' : Fb} {θ θ' : List Addr} {H H' : Hp} (k : Keep m θ H m' θ' H') {cl : List (Str × Addr)} {fr : List Str} {ws : List V} (h : CapR m H cl fr ws) : CapR m' H' cl fr ws where
  len := h.len
  all := fun y c e => by
    obtain ⟨n, o, u, h1, h2⟩ := h.all y c e
    exact ⟨fun z => n (k.mm _ _ h1 z), o, u, k.kp _ _ h1 n, h2⟩
  inj := h.inj
  has := fun i y e => by
    obtain ⟨c, h1, h2⟩ := h.has i y e
    refine ⟨c, h1, fun v ev => ?_⟩
    obtain ⟨o, u, q1, q2⟩ := h2 v ev
    exact ⟨o, u, k.kp _ _ q1 (h.all y c h1).1, q2⟩
theorem CloR.keep {W : Wr} {m m' : Fb} {θ θ' : List Addr} {H H' : Hp} (k : Keep m θ H m' θ' H') {l : Fn} {cs : List D} {a : Addr} (h : CloR W m θ H l cs a) : CloR W m' θ' H' l cs a := by
  obtain ⟨o, fd, fr, cl, c, ws, h1, n1, h2, h3, h4, h5, n5, h6, h7⟩ := h
  exact ⟨o, fd, fr, cl, c, ws, k.kp _ _ h1 n1, fun z => n1 (k.mm _ _ h1 z), h2, h3, h4, k.kp _ _ h5 n5, fun z => n5 (k.mm _ _ h5 z), h6.keep k, h7.keep k⟩
def SltR (W : Wr) (m : Fb) (θ : List Addr) (H : Hp) : Sl → Option V → Prop
  | .no, _ => True
  | .val d, some v => RepV W m θ H d v
  | .own o, some v => ∃ a, v = .ref a ∧ ObR W m θ H o a
  | .clo l cs, some v => ∃ a, v = .ref a ∧ CloR W m θ H l cs a
  | _, _ => False
theorem cloKeep {W : Wr} {m m' : Fb} {θ θ' : List Addr} {H H' : Hp} (k : Keep m θ H m' θ' H') {l : Fn} {cs : List D} {v : V} : SltR W m θ H (.clo l cs) (some v) → SltR W m' θ' H' (.clo l cs) (some v) := fun ⟨a, e, h⟩ => ⟨a, e, h.keep k⟩
/-- the objects that the frame's names own -/
def Own (ρ : List Sl) (σ : L2.St) (a : Addr) : Prop := ∃ i o, getN ρ i = .own o ∧ σ[i]? = some (some (.ref a))
/-- what may change in the frame -/
def M0 (θ : List Addr) (ρ : List Sl) (σ : L2.St) : Fb := fun a => a ∈ θ ∨ Own ρ σ a
def Mt (F : Fb) (θ : List Addr) (ρ : List Sl) (σ : L2.St) : Fb := fun a => F a ∨ M0 θ ρ σ a

structure Rep (W : Wr) (F : Fb) (θ : List Addr) (s : S) (σ : L2.St) (H : Hp) : Prop where
  len : s.ρ.length = σ.length
  sl : ∀ (i : Nat) (o : Option V), σ[i]? = some o → SltR W (Mt F θ s.ρ σ) θ H (getN s.ρ i) o
  th : θ.length = s.m.length
  st : ∀ (l : Nat) (a : Addr) (o : Ob), θ[l]? = some a → s.m[l]? = some o → ObR W (Mt F θ s.ρ σ) θ H o a
  nd : θ.Nodup
  own1 : ∀ (i j : Nat) (o o' : Ob) (a : Addr), getN s.ρ i = .own o → getN s.ρ j = .own o' → σ[i]? = some (some (.ref a)) → σ[j]? = some (some (.ref a)) → i = j
  ownT : ∀ a, Own s.ρ σ a → a ∉ θ
  FT : ∀ a, F a → ¬ M0 θ s.ρ σ a
  Fd : ∀ a, F a → ∃ o, H a = some o ∧ MutT (some o)
/-- from a state to a later one -/
abbrev Stp := Keep
/-- with one more -/
def Fb.and (F : Fb) (a : Addr) : Fb := fun b => F b ∨ b = a

theorem getN_get {ρ : List Sl} {i : Nat} : getN ρ i = (ρ[i]?).getD .no := by
  induction ρ generalizing i with
  | nil => simp [getN]
  | cons x r ih => cases i with
    | zero => rfl
    | succ n => simpa [getN] using ih (i := n)
theorem setN_set {ρ : List Sl} {i : Nat} {x : Sl} : setN ρ i x = ρ.set i x := by
  induction ρ generalizing i with
  | nil => rfl
  | cons y r ih => cases i with
    | zero => rfl
    | succ n => simp [setN, ih]
theorem setN_length {ρ : List Sl} {i : Nat} {x : Sl} : (setN ρ i x).length = ρ.length := by rw [setN_set, List.length_set]
theorem getN_setN {ρ : List Sl} {i j : Nat} {x : Sl} : getN (setN ρ i x) j = if i = j ∧ i < ρ.length then x else getN ρ j := by
  rw [getN_get, getN_get, setN_set, List.getElem?_set]
  by_cases e : i = j
  · subst e
    by_cases h : i < ρ.length
    · simp [h]
    · simp [h, List.getElem?_eq_none (Nat.le_of_not_lt h)]
  · simp [e]
theorem getN_lt {ρ : List Sl} {i : Nat} (h : getN ρ i ≠ .no) : i < ρ.length := by
  refine Nat.lt_of_not_le fun q => h ?_
  rw [getN_get, List.getElem?_eq_none q]; rfl

section
variable {W : Wr} {F F' : Fb} {θ θ' θ'' : List Addr} {s s' s'' : S} {σ : L2.St} {H H' H'' : Hp} {m m' m'' : Fb}

theorem Keep.trans (a : Keep m θ H m' θ' H') (b : Keep m' θ' H' m'' θ'' H'') : Keep m θ H m'' θ'' H'' where
  kp := fun x o e n => b.kp x o (a.kp x o e n) fun z => n (a.mm x o e z)
  mm := fun x o e z => Classical.byContradiction fun n => n (a.mm x o e (b.mm x o (a.kp x o e n) z))
  th := fun l x e => b.th l x (a.th l x e)
theorem Keep.refl : Keep m θ H m θ H := ⟨fun _ _ e _ => e, fun _ _ _ z => z, fun _ _ e => e⟩
/-- less may change at the end -/
theorem Keep.less (k : Keep m θ H m' θ' H') (h : ∀ a, m'' a → m' a) : Keep m θ H m'' θ' H' := ⟨k.kp, fun a o e z => k.mm a o e (h a z), k.th⟩
/-- more may change at the start -/
theorem Keep.more (k : Keep m θ H m' θ' H') (h : ∀ a, m a → m'' a) : Keep m'' θ H m' θ' H' := ⟨fun a o e n => k.kp a o e fun z => n (h a z), fun a o e z => h a (k.mm a o e z), k.th⟩
/-- a frame's step, whatever else is forbidden -/
theorem Keep.fb (k : Keep m θ H m' θ' H') : Keep (fun a => F a ∨ m a) θ H (fun a => F a ∨ m' a) θ' H' where
  kp := fun a o e n => k.kp a o e fun z => n (.inr z)
  mm := fun a o e z => z.imp id (k.mm a o e)
  th := k.th
/-- a new object -/
theorem Keep.new {a : Addr} {o : HO} (n : H a = none) (h : ∀ b, m' b → m b ∨ b = a) : Keep m θ H m' θ (upd H a o) where
  kp := fun b u e _ => by rw [upd_ne (ne_of_none e n)]; exact e
  mm := fun b u e z => (h b z).elim id fun q => by subst q; rw [n] at e; cases e
  th := fun _ _ e => e
/-- a changed object -/
theorem Keep.chg {a : Addr} {o : HO} (n : m a) (h : ∀ b, m' b → m b) : Keep m θ H m' θ (upd H a o) where
  kp := fun b u e q => by rw [upd_ne fun z => q (by rw [z]; exact n)]; exact e
  mm := fun b _ _ z => h b z
  th := fun _ _ e => e

theorem ObR.keep (k : Keep m θ H m' θ' H') {o : Ob} {a : Addr} (h : ObR W m θ H o a) (hk : ∀ u, H a = some u → H' a = some u) : ObR W m' θ' H' o a := by
  cases o with
  | lst xs => obtain ⟨vs, e, r⟩ := h; exact ⟨vs, hk _ e, r.keep k⟩
  | ins c fs => obtain ⟨dx, vfs, e, n, r⟩ := h; exact ⟨dx, vfs, hk _ e, n, r.keep k⟩
  | dic kvs => obtain ⟨vkvs, e, n, r⟩ := h; exact ⟨vkvs, hk _ e, n, r.keep k⟩
  | tbl i =>
    obtain ⟨e0, ps, e, t, ha⟩ := h
    refine ⟨e0, ps, hk _ e, t, fun pos cv hc => ?_⟩
    obtain ⟨c, e1, e2, n⟩ := ha pos cv hc
    exact ⟨c, e1, k.kp _ _ e2 n, fun z => n (k.mm _ _ e2 z)⟩
theorem ObR.there {o : Ob} {a : Addr} (h : ObR W m θ H o a) : ∃ u, H a = some u ∧ MutT (some u) := by
  cases o with
  | lst xs => obtain ⟨vs, e, r⟩ := h; exact ⟨_, e, trivial⟩
  | ins c fs => obtain ⟨dx, vfs, e, n, r⟩ := h; exact ⟨_, e, trivial⟩
  | dic kvs => obtain ⟨vkvs, e, n, r⟩ := h; exact ⟨_, e, trivial⟩
  | tbl i => obtain ⟨_, ps, e, _⟩ := h; exact ⟨_, e, trivial⟩
theorem ObR.frz {o : Ob} {a : Addr} (h : ObR W m θ H o a) (n : ¬ m a) : RepV W m θ H o.frz (.ref a) := by
  cases o with
  | lst xs => obtain ⟨vs, e, r⟩ := h; exact .lst e n r
  | ins c fs => obtain ⟨dx, vfs, e, n', r⟩ := h; exact .obj e n n' r
  | dic kvs => obtain ⟨vkvs, e, n', r⟩ := h; exact .dic e n n' r
  | tbl i => exact .opq _
/-- less may change -/
theorem keepLess (h : ∀ a, m' a → m a) : Keep m θ H m' θ H := ⟨fun _ _ e _ => e, fun a _ _ z => h a z, fun _ _ e => e⟩

theorem Own.lt {ρ : List Sl} {a : Addr} (h : Own ρ σ a) : ∃ i, i < ρ.length ∧ i < σ.length := by
  obtain ⟨i, o, e, e'⟩ := h
  exact ⟨i, getN_lt (by rw [e]; intro z; cases z), (List.getElem?_eq_some_iff.mp e').1⟩
theorem Rep.slot (R : Rep W F θ s σ H) {i : Nat} (h : getN s.ρ i ≠ .no) : ∃ o, σ[i]? = some o ∧ SltR W (Mt F θ s.ρ σ) θ H (getN s.ρ i) o := by
  have hi : i < σ.length := by rw [← R.len]; exact getN_lt h
  exact ⟨_, List.getElem?_eq_getElem hi, R.sl i _ (List.getElem?_eq_getElem hi)⟩
theorem Rep.val (R : Rep W F θ s σ H) {i : Nat} {d : D} (h : getN s.ρ i = .val d) : ∃ v, σ[i]? = some (some v) ∧ RepV W (Mt F θ s.ρ σ) θ H d v := by
  obtain ⟨o, e, r⟩ := R.slot (i := i) (by rw [h]; intro z; cases z)
  rw [h] at r
  cases o with
  | none => exact r.elim
  | some v => exact ⟨v, e, r⟩
theorem Rep.own (R : Rep W F θ s σ H) {i : Nat} {o : Ob} (h : getN s.ρ i = .own o) : ∃ a, σ[i]? = some (some (.ref a)) ∧ ObR W (Mt F θ s.ρ σ) θ H o a := by
  obtain ⟨u, e, r⟩ := R.slot (i := i) (by rw [h]; intro z; cases z)
  rw [h] at r
  cases u with
  | none => exact r.elim
  | some v =>
    obtain ⟨a, e1, r⟩ := r
    subst e1
    exact ⟨a, e, r⟩
/-- a slot's new word: it owns nothing more than it did -/
theorem own_set {ρ : List Sl} {i : Nat} {x : Sl} {a : Addr} (hx : ∀ o, x = .own o → getN ρ i = .own o) (h : Own (setN ρ i x) σ a) : Own ρ σ a := by
  obtain ⟨j, o, e, e'⟩ := h
  rw [getN_setN] at e
  split at e
  · rename_i q
    subst e
    obtain ⟨rfl, _⟩ := q
    exact ⟨i, o, hx o rfl, e'⟩
  · exact ⟨j, o, e, e'⟩
theorem own_set_no {ρ : List Sl} {i : Nat} {x : Sl} {a : Addr} (hx : ∀ o, x ≠ .own o) (h : Own (setN ρ i x) σ a) : Own ρ σ a := own_set (fun o e => (hx o e).elim) h

theorem Rep.mt_there (R : Rep W F θ s σ H) {a : Addr} (h : Mt F θ s.ρ σ a) : ∃ o, H a = some o ∧ MutT (some o) := by
  rcases h with h | h | ⟨i, o, e, e'⟩
  · exact R.Fd a h
  · obtain ⟨l, e⟩ := List.mem_iff_getElem?.mp h
    have hl : l < s.m.length := by rw [← R.th]; exact (List.getElem?_eq_some_iff.mp e).1
    exact (R.st l a _ e (List.getElem?_eq_getElem hl)).there
  · obtain ⟨a', e1, r⟩ := R.own e
    rw [e'] at e1
    cases e1
    exact r.there
theorem Rep.new_free (R : Rep W F θ s σ H) {a : Addr} (h : H a = none) : ¬ Mt F θ s.ρ σ a := fun z => by
  obtain ⟨o, e, _⟩ := R.mt_there z
  rw [h] at e; cases e
/-- names that were said anew, nothing else -/
theorem Rep.reslot (R : Rep W F θ s σ H) {i : Nat} {x : Sl} (hx : ∀ o, x = .own o → getN s.ρ i = .own o) (hr : ∀ o, σ[i]? = some o → SltR W (Mt F θ (setN s.ρ i x) σ) θ H x o) : Rep W F θ (s.set i x) σ H := by
  have sub : ∀ a, Mt F θ (setN s.ρ i x) σ a → Mt F θ s.ρ σ a := fun a z => z.imp id fun z => z.imp id (own_set hx)
  have gx : ∀ j o, getN (setN s.ρ i x) j = .own o → getN s.ρ j = .own o := fun j o e => by
    rw [getN_setN] at e
    split at e
    · rename_i q
      obtain ⟨rfl, _⟩ := q
      exact hx o e
    · exact e
  refine ⟨?_, fun j o e => ?_, R.th, fun l a o e e' => ?_, R.nd, fun j k o o' a e1 e2 e3 e4 => R.own1 j k o o' a (gx _ _ e1) (gx _ _ e2) e3 e4, fun a z => R.ownT a (own_set hx z), fun a f z => R.FT a f (z.imp id (own_set hx)), R.Fd⟩
  · show (setN s.ρ i x).length = _
    rw [setN_length]; exact R.len
  · show SltR W (Mt F θ (setN s.ρ i x) σ) θ H (getN (setN s.ρ i x) j) o
    rw [getN_setN]
    split
    · rename_i q
      obtain ⟨rfl, _⟩ := q
      exact hr o e
    · have := R.sl j o e
      revert this
      cases getN s.ρ j with
      | no => exact id
      | val d => cases o with
        | none => exact id
        | some v => exact fun r => RepV.keep (keepLess sub) r
      | own ob => cases o with
        | none => exact id
        | some v => exact fun ⟨a, e, r⟩ => ⟨a, e, r.keep (keepLess sub) fun _ e => e⟩
      | clo f caps => cases o with
        | none => exact id
        | some v => exact cloKeep (keepLess sub)
  · exact (R.st l a o e e').keep (keepLess sub) fun _ e => e
theorem Rep.own_val {i : Nat} {o : Ob} {a : Addr} {x : D} (R : Rep W F θ s σ H) (h : getN s.ρ i = .own o) (e : σ[i]? = some (some (.ref a))) : ¬ Mt F θ (setN s.ρ i (.val x)) σ a := by
  rintro (z | z | ⟨j, o', e1, e2⟩)
  · exact R.FT a z (.inr ⟨i, o, h, e⟩)
  · exact R.ownT a ⟨i, o, h, e⟩ z
  · rw [getN_setN] at e1
    split at e1
    · cases e1
    · rename_i q
      have := R.own1 j i o' o a e1 h e2 e
      subst this
      exact q ⟨rfl, getN_lt (by rw [e1]; intro z; cases z)⟩
/-- an object is let go of -/
theorem Rep.freeze (R : Rep W F θ s σ H) {i : Nat} {o : Ob} (h : getN s.ρ i = .own o) :
    ∃ a, σ[i]? = some (some (.ref a)) ∧ Rep W F θ (s.set i (.val o.frz)) σ H ∧ RepV W (Mt F θ (setN s.ρ i (.val o.frz)) σ) θ H o.frz (.ref a) := by
  obtain ⟨a, e, r⟩ := R.own h
  have hn := R.own_val (x := o.frz) h e
  have sub : ∀ b, Mt F θ (setN s.ρ i (.val o.frz)) σ b → Mt F θ s.ρ σ b := fun b z => z.imp id fun z => z.imp id (own_set_no fun o' q => by cases q)
  have rv : RepV W (Mt F θ (setN s.ρ i (.val o.frz)) σ) θ H o.frz (.ref a) := (r.keep (m' := Mt F θ (setN s.ρ i (.val o.frz)) σ) (keepLess sub) fun _ e => e).frz hn
  refine ⟨a, e, R.reslot (fun o' q => by cases q) fun u hu => ?_, rv⟩
  rw [e] at hu
  cases hu
  exact rv
theorem own_app {ρ : List Sl} {a : Addr} : Own ρ σ a → Own ρ σ a := id
/-- an object is put into the store -/
theorem Rep.promote (R : Rep W F θ s σ H) {i : Nat} {o : Ob} (h : getN s.ρ i = .own o) :
    ∃ a, σ[i]? = some (some (.ref a)) ∧ Rep W F (θ ++ [a]) ⟨setN s.ρ i (.val (.ref s.m.length)), s.m ++ [o]⟩ σ H ∧ RepV W (Mt F (θ ++ [a]) (setN s.ρ i (.val (.ref s.m.length))) σ) (θ ++ [a]) H (.ref s.m.length) (.ref a) ∧
      (∀ b, M0 (θ ++ [a]) (setN s.ρ i (.val (.ref s.m.length))) σ b → M0 θ s.ρ σ b) := by
  obtain ⟨a, e, r⟩ := R.own h
  have hn := R.own_val (x := .ref s.m.length) h e
  have sub0 : ∀ b, M0 (θ ++ [a]) (setN s.ρ i (.val (.ref s.m.length))) σ b → M0 θ s.ρ σ b := fun b z => by
    rcases z with z | z
    · rcases List.mem_append.mp z with z | z
      · exact .inl z
      · rw [List.mem_singleton] at z; subst z; exact .inr ⟨i, o, h, e⟩
    · exact .inr (own_set_no (fun o' q => by cases q) z)
  have sub : ∀ b, Mt F (θ ++ [a]) (setN s.ρ i (.val (.ref s.m.length))) σ b → Mt F θ s.ρ σ b := fun b z => z.imp id (sub0 b)
  have th : ∀ (l : Nat) (b : Addr), θ[l]? = some b → (θ ++ [a])[l]? = some b := fun l b e => by
    rw [List.getElem?_append_left (List.getElem?_eq_some_iff.mp e).1]; exact e
  have kp : Keep (Mt F θ s.ρ σ) θ H (Mt F (θ ++ [a]) (setN s.ρ i (.val (.ref s.m.length))) σ) (θ ++ [a]) H := ⟨fun _ _ e _ => e, fun b _ _ z => sub b z, th⟩
  have rf : RepV W (Mt F (θ ++ [a]) (setN s.ρ i (.val (.ref s.m.length))) σ) (θ ++ [a]) H (.ref s.m.length) (.ref a) := .ref (by rw [← R.th, List.getElem?_append_right (Nat.le_refl _), Nat.sub_self]; rfl)
  refine ⟨a, e, ⟨?_, fun j u hu => ?_, ?_, fun l b u e1 e2 => ?_, ?_, fun j k o1 o2 b e1 e2 e3 e4 => ?_, fun b z => ?_, fun b f z => R.FT b f (sub0 b z), R.Fd⟩, rf, sub0⟩
  · show (setN s.ρ i _).length = _
    rw [setN_length]; exact R.len
  · show SltR W _ _ H (getN (setN s.ρ i (.val (.ref s.m.length))) j) u
    rw [getN_setN]
    split
    · rename_i q
      obtain ⟨rfl, _⟩ := q
      rw [e] at hu; cases hu
      exact rf
    · have := R.sl j u hu
      revert this
      cases getN s.ρ j with
      | no => exact id
      | val d => cases u with
        | none => exact id
        | some v => exact fun r => RepV.keep kp r
      | own ob => cases u with
        | none => exact id
        | some v => exact fun ⟨a, e, r⟩ => ⟨a, e, r.keep kp fun _ e => e⟩
      | clo f caps => cases u with
        | none => exact id
        | some v => exact cloKeep kp
  · show (θ ++ [a]).length = (s.m ++ [o]).length
    simp [R.th]
  · by_cases hl : l < θ.length
    · rw [List.getElem?_append_left hl] at e1
      have e2 : (s.m ++ [o])[l]? = some u := e2
      rw [List.getElem?_append_left (by rw [← R.th]; exact hl)] at e2
      exact (R.st l b u e1 e2).keep kp fun _ e => e
    · have e2 : (s.m ++ [o])[l]? = some u := e2
      have hl' : l = θ.length := by
        have := (List.getElem?_eq_some_iff.mp e1).1
        simp at this; omega
      subst hl'
      rw [List.getElem?_append_right (Nat.le_refl _), Nat.sub_self] at e1
      rw [R.th, List.getElem?_append_right (Nat.le_refl _), Nat.sub_self] at e2
      cases e1; cases e2
      exact r.keep kp fun _ e => e
  · rw [List.nodup_append]
    refine ⟨R.nd, by simp, fun x hx y hy q => ?_⟩
    rw [List.mem_singleton] at hy
    subst hy; subst q
    exact R.ownT _ ⟨i, o, h, e⟩ hx
  · have gx : ∀ j o, getN (setN s.ρ i (.val (.ref s.m.length))) j = .own o → getN s.ρ j = .own o := fun j o e => by
      rw [getN_setN] at e
      split at e
      · cases e
      · exact e
    exact R.own1 j k o1 o2 b (gx _ _ e1) (gx _ _ e2) e3 e4
  · intro q
    rcases List.mem_append.mp q with q | q
    · exact R.ownT b (own_set_no (fun o' q => by cases q) z) q
    · rw [List.mem_singleton] at q; subst q
      exact hn (.inr (.inr z))
end

/-! ### ends of expressions -/
def RX (W : Wr) (F : Fb) (m0 : Fb) (θ0 : List Addr) (H0 : Hp) (θ : List Addr) (s : S) (σ : L2.St) (H : Hp) : FX → V → Prop
  | .d d, v => Rep W F θ s σ H ∧ Keep m0 θ0 H0 (M0 θ s.ρ σ) θ H ∧ RepV W (Mt F θ s.ρ σ) θ H d v
  | .f o, v => ∃ a, v = .ref a ∧ ¬ F a ∧ Rep W (F.and a) θ s σ H ∧ Keep m0 θ0 H0 (fun b => M0 θ s.ρ σ b ∨ b = a) θ H ∧ ObR W (Mt (F.and a) θ s.ρ σ) θ H o a
section
variable {W : Wr} {F F' : Fb} {m0 m1 : Fb} {θ0 θ1 θ θ' : List Addr} {s s' : S} {σ : L2.St} {H0 H1 H H' : Hp}
/-- less is forbidden -/
theorem Rep.lessF (R : Rep W F θ s σ H) (h : ∀ a, F' a → F a) : Rep W F' θ s σ H := by
  have sub : ∀ b, Mt F' θ s.ρ σ b → Mt F θ s.ρ σ b := fun b z => z.imp (h b) id
  refine ⟨R.len, fun i o e => ?_, R.th, fun l a o e e' => (R.st l a o e e').keep (keepLess sub) fun _ e => e, R.nd, R.own1, R.ownT, fun a f => R.FT a (h a f), fun a f => R.Fd a (h a f)⟩
  have := R.sl i o e
  revert this
  cases getN s.ρ i with
  | no => exact id
  | val d => cases o with
    | none => exact id
    | some v => exact fun r => RepV.keep (keepLess sub) r
  | own ob => cases o with
    | none => exact id
    | some v => exact fun ⟨a, e, r⟩ => ⟨a, e, r.keep (keepLess sub) fun _ e => e⟩
  | clo f caps => cases o with
    | none => exact id
    | some v => exact cloKeep (keepLess sub)
theorem RX.rep {x : FX} {v : V} (h : RX W F m0 θ0 H0 θ s σ H x v) : Rep W F θ s σ H := by
  cases x with
  | d d => exact h.1
  | f o => obtain ⟨a, _, _, R, _⟩ := h; exact R.lessF fun b z => .inl z
theorem RX.keep {x : FX} {v : V} (h : RX W F m0 θ0 H0 θ s σ H x v) : Keep m0 θ0 H0 (M0 θ s.ρ σ) θ H := by
  cases x with
  | d d => exact h.2.1
  | f o => obtain ⟨a, _, _, _, k, _⟩ := h; exact k.less fun b z => .inl z
theorem RX.val {x : FX} {v : V} (h : RX W F m0 θ0 H0 θ s σ H x v) : RepV W (Mt F θ s.ρ σ) θ H x.frz v := by
  cases x with
  | d d => exact h.2.2
  | f o =>
    obtain ⟨a, e, n, R, k, r⟩ := h
    subst e
    have sub : ∀ b, Mt F θ s.ρ σ b → Mt (F.and a) θ s.ρ σ b := fun b z => z.imp .inl id
    refine (r.keep (m' := Mt F θ s.ρ σ) (keepLess sub) fun _ e => e).frz ?_
    rintro (z | z)
    · exact n z
    · exact R.FT a (.inr rfl) z
theorem RX.frz {x : FX} {v : V} (h : RX W F m0 θ0 H0 θ s σ H x v) : RX W F m0 θ0 H0 θ s σ H (.d x.frz) v := ⟨h.rep, h.keep, h.val⟩
/-- from an earlier start -/
theorem RX.from {x : FX} {v : V} (h : RX W F m1 θ1 H1 θ s σ H x v) (k : Keep m0 θ0 H0 m1 θ1 H1) : RX W F m0 θ0 H0 θ s σ H x v := by
  cases x with
  | d d => exact ⟨h.1, k.trans h.2.1, h.2.2⟩
  | f o => obtain ⟨a, e, n, R, k', r⟩ := h; exact ⟨a, e, n, R, k.trans k', r⟩
/-- a new object laid beside -/
theorem Rep.lay (R : Rep W F θ s σ H) {p : Addr} {u : HO} (n : H p = none) : Rep W F θ s σ (upd H p u) := by
  have kp : Keep (Mt F θ s.ρ σ) θ H (Mt F θ s.ρ σ) θ (upd H p u) := .new n fun b z => .inl z
  refine ⟨R.len, fun i o e => ?_, R.th, fun l a o e e' => (R.st l a o e e').keep kp fun u' e2 => by rw [upd_ne (ne_of_none e2 n)]; exact e2, R.nd, R.own1, R.ownT, R.FT, fun a f => ?_⟩
  · have := R.sl i o e
    revert this
    cases getN s.ρ i with
    | no => exact id
    | val d => cases o with
      | none => exact id
      | some v => exact fun r => RepV.keep kp r
    | own ob => cases o with
      | none => exact id
      | some v => exact fun ⟨a, e, r⟩ => ⟨a, e, r.keep kp fun u' e2 => by rw [upd_ne (ne_of_none e2 n)]; exact e2⟩
    | clo f caps => cases o with
      | none => exact id
      | some v => exact cloKeep kp
  · obtain ⟨o, e, mu⟩ := R.Fd a f
    exact ⟨o, by rw [upd_ne (ne_of_none e n)]; exact e, mu⟩
theorem Rep.new (R : Rep W F θ s σ H) {p : Addr} {u : HO} (n : H p = none) (mu : Mut (some u)) : Rep W (F.and p) θ s σ (upd H p u) := by
  have kp : Keep (Mt F θ s.ρ σ) θ H (Mt (F.and p) θ s.ρ σ) θ (upd H p u) := .new n fun b z => by
    rcases z with (z | z) | z
    · exact .inl (.inl z)
    · exact .inr z
    · exact .inl (.inr z)
  refine ⟨R.len, fun i o e => ?_, R.th, fun l a o e e' => (R.st l a o e e').keep kp fun u' e2 => by rw [upd_ne (ne_of_none e2 n)]; exact e2, R.nd, R.own1, R.ownT, fun a f => ?_, fun a f => ?_⟩
  · have := R.sl i o e
    revert this
    cases getN s.ρ i with
    | no => exact id
    | val d => cases o with
      | none => exact id
      | some v => exact fun r => RepV.keep kp r
    | own ob => cases o with
      | none => exact id
      | some v => exact fun ⟨a, e, r⟩ => ⟨a, e, r.keep kp fun u' e2 => by rw [upd_ne (ne_of_none e2 n)]; exact e2⟩
    | clo f caps => cases o with
      | none => exact id
      | some v => exact cloKeep kp
  · rcases f with f | f
    · exact R.FT a f
    · subst f; exact fun z => R.new_free n (.inr z)
  · rcases f with f | f
    · obtain ⟨o, e, mu'⟩ := R.Fd a f
      exact ⟨o, by rw [upd_ne (ne_of_none e n)]; exact e, mu'⟩
    · subst f; exact ⟨_, upd_same, .of mu⟩
theorem Keep.newM (R : Rep W F θ s σ H) {p : Addr} {u : HO} (n : H p = none) : Keep (M0 θ s.ρ σ) θ H (fun b => M0 θ s.ρ σ b ∨ b = p) θ (upd H p u) := .new n fun _ z => z
/-- a new list -/
theorem RX.newL (R : Rep W F θ s σ H) (k : Keep m0 θ0 H0 (M0 θ s.ρ σ) θ H) {p : Addr} {xs : List D} {vs : List V} (n : H p = none) (r : RepVs W (Mt F θ s.ρ σ) θ H xs vs) :
    RX W F m0 θ0 H0 θ s σ (upd H p (.lst vs)) (.f (.lst xs)) (.ref p) := by
  have kp : Keep (Mt F θ s.ρ σ) θ H (Mt (F.and p) θ s.ρ σ) θ (upd H p (.lst vs)) := .new n fun b z => by
    rcases z with (z | z) | z
    · exact .inl (.inl z)
    · exact .inr z
    · exact .inl (.inr z)
  exact ⟨p, rfl, fun z => R.new_free n (.inl z), R.new n trivial, k.trans (.newM R n), vs, upd_same, r.keep kp⟩
/-- a new dict -/
theorem RX.newK (R : Rep W F θ s σ H) (k : Keep m0 θ0 H0 (M0 θ s.ρ σ) θ H) {p : Addr} {kvs : List (D × D)} {vkvs : List (Key × V)} (n : H p = none) (e : vkvs.map (fun p => keyD p.1) = kvs.map (·.1)) (r : RepVs W (Mt F θ s.ρ σ) θ H (kvs.map (·.2)) (vkvs.map (·.2))) :
    RX W F m0 θ0 H0 θ s σ (upd H p (.dK vkvs)) (.f (.dic kvs)) (.ref p) := by
  have kp : Keep (Mt F θ s.ρ σ) θ H (Mt (F.and p) θ s.ρ σ) θ (upd H p (.dK vkvs)) := .new n fun b z => by
    rcases z with (z | z) | z
    · exact .inl (.inl z)
    · exact .inr z
    · exact .inl (.inr z)
  exact ⟨p, rfl, fun z => R.new_free n (.inl z), R.new n trivial, k.trans (.newM R n), vkvs, upd_same, e, r.keep kp⟩
/-- a new tuple -/
theorem RX.newT (R : Rep W F θ s σ H) (k : Keep m0 θ0 H0 (M0 θ s.ρ σ) θ H) {p : Addr} {xs : List D} {vs : List V} (n : H p = none) (r : RepVs W (Mt F θ s.ρ σ) θ H xs vs) :
    RX W F m0 θ0 H0 θ s σ (upd H p (.tup vs)) (.d (.tup xs)) (.ref p) := by
  have kp : Keep (Mt F θ s.ρ σ) θ H (Mt F θ s.ρ σ) θ (upd H p (.tup vs)) := .new n fun b z => .inl z
  refine ⟨R.lay n, k.trans ((Keep.newM R n).less fun b z => .inl z), .tup (.inl ⟨.inl upd_same, fun z => R.new_free n z⟩) (r.keep kp)⟩
/-- data alone -/
theorem RX.data (R : Rep W F θ s σ H) (k : Keep m0 θ0 H0 (M0 θ s.ρ σ) θ H) {d : D} {v : V} (r : RepV W (Mt F θ s.ρ σ) θ H d v) : RX W F m0 θ0 H0 θ s σ H (.d d) v := ⟨R, k, r⟩
end

def OkP {α : Type} (P : α → S → Prop) : Out α → Prop
  | .ok a s => P a s
  | _ => False
theorem OkP.imp {α : Type} {P P' : α → S → Prop} {o : Out α} (h : OkP P o) (i : ∀ a s, P a s → P' a s) : OkP P' o := by
  cases o with
  | ok a s => exact i a s h
  | exc _ _ _ => exact h
  | err => exact h
theorem OkP.bind {α β : Type} {P : β → S → Prop} {o : Out α} {k : α → S → Out β} (h : OkP P (o.bind k)) : OkP (fun a s => OkP P (k a s)) o := by
  cases o with
  | ok a s => exact h
  | exc _ _ _ => exact h
  | err => exact h
theorem OkP.lift {α : Type} {P : α → S → Prop} {s : S} {o : Option α} (h : OkP P (lift s o)) : ∃ a, o = some a ∧ P a s := by
  cases o with
  | none => exact h.elim
  | some a => exact ⟨a, rfl, h⟩
/-- what an expression's end is wanted to bear -/
abbrev PX (W : Wr) (F : Fb) (m0 : Fb) (θ0 : List Addr) (H0 : Hp) (σ : L2.St) (Q : VK) : FX → S → Prop := fun x s => ∀ v H θ, RX W F m0 θ0 H0 θ s σ H x v → Q v H
/-- an expression's reading by the evaluator -/
def tE (W : Wr) (r : S → Out FX) : TE := fun σ H Q => ∃ F θ s, Rep W F θ s σ H ∧ OkP (PX W F (M0 θ s.ρ σ) θ H σ Q) (r s)
theorem tE_of {W : Wr} {F : Fb} {θ : List Addr} {s : S} {σ : L2.St} {H : Hp} {Q : VK} {r : S → Out FX} {P : FX → S → Prop} (R : Rep W F θ s σ H) (h : OkP P (r s))
    (hk : ∀ x s' v H' θ', RX W F (M0 θ s.ρ σ) θ H θ' s' σ H' x v → P x s' → Q v H') : tE W r σ H Q :=
  ⟨F, θ, s, R, h.imp fun x s' q v H' θ' rx => hk x s' v H' θ' rx q⟩
end Pv
end

section
set_option Elab.async false
set_option linter.all false
set_option maxRecDepth 100000
set_option maxHeartbeats 4000000
/-! EvSp: sorted of a tuple of pairs of ints. -/
namespace Pv
open PySem PySem.Spec PyProof.Rows L2
/-- the pair that lies at a value -/
def pairAt (h : Heap) : Value → Int × Int
  | .ref a => match h.get? a with
    | some o => (match o.data with
      | .seq xs _ => (match xs.toList with
        | [.int i _, .int j _] => (i, j)
        | _ => (0, 0))
      | _ => (0, 0))
    | none => (0, 0)
  | _ => (0, 0)
section
variable {prog : Program} {w : World} {A : Around} {E : Value → Shared → Prop} {s : Shared}
theorem sorted_ordT {l : Addr} {vs : List Value} {ltv : Value → Value → Bool} {Q : Value → Shared → Prop} (O : SrtO.Swo ltv) (hl : IsTup s.heap l vs.toArray) (hz : vs.length ≤ sizeLine)
    (hS : 2 ≤ vs.length → ∀ (h₁ : Heap) (a : Addr), h₁.get? a = some (seqObj "list" vs.toArray 0) → (∀ b o, s.heap.get? b = some o → b ≠ a ∧ h₁.get? b = some o) → SrtO.SortableO prog w A.in1.in1 { s with heap := h₁ } a vs ltv)
    (h : ∀ (out : List Value) (h1 h2 : Heap) (d : Addr), SrtO.Srtd ltv out → SrtO.Stb ltv out vs → (∀ b o, s.heap.get? b = some o → h1.get? b = some o) → (∀ b o, h1.get? b = some o → h2.get? b = some o) → h1.objs.size ≤ d →
      (∃ n, h2.get? d = some (seqObj "list" out.toArray n)) → Q (.ref d) { s with heap := h2 }) :
    wpAny (model prog w) A (call (.builtin "sorted") [.ref l]) Q E s := by
  obtain ⟨o, ho, hc, n, hd⟩ := hl
  refine Calls.call_function_entry kind_sorted plain_sorted entry_sorted (args_sorted1 _) ?_
  unfold Builtin.«sorted»
  refine wpAny_bind (m := checkCount "sorted" 1 1 _) (wpAny_pure ?_)
  refine wpAny_bind (wpAny_collect_seq l (.inr rfl) ho hc hd (fun h1 k1 => ?_) (by rw [List.size_toArray]; exact hz))
  refine wpAny_bind (wpAny_newList ?_ (by simpa using hz))
  have hoL : (h1.push (seqObj "list" vs.toArray 0)).get? h1.objs.size = some (seqObj "list" vs.toArray 0) := Heap.get?_push_size _ rfl
  have keep : ∀ b o, s.heap.get? b = some o → b ≠ h1.objs.size ∧ (h1.push (seqObj "list" vs.toArray 0)).get? b = some o := fun b o q =>
    ⟨Nat.ne_of_lt (Heap.lt_size (k1 b o q)), Heap.get?_push_of_some _ (k1 b o q)⟩
  show wpAny _ _ _ _ _ { s with heap := h1.push (seqObj "list" vs.toArray 0) }
  refine wpAny_bind (wpAny_holding (wpAny_call_entry slot_list_sort ⟨_, hoL, rfl⟩ entry_list_sort (SrtO.list_sort_ord O hoL hz (fun h2 => hS h2 _ _ hoL keep) fun out hs hb => ⟨_, rfl, ?_⟩) (args_list_sort _)))
  refine wpAny_pure ⟨_, rfl, h out h1 _ _ hs hb k1 (fun b o q => ?_) (Nat.le_refl _) (sortedHeap_at hoL)⟩
  have hlt := Heap.lt_size q
  exact (sortedHeap_old (Nat.ne_of_lt hlt) (by rw [size_push']; exact Nat.lt_succ_of_lt hlt)).trans (Heap.get?_push_of_some _ q)
end
theorem pair_facts {X : Cx} {W : Wr} {m : Fb} {θ : List Addr} {H : Hp} {pins : List (Addr × Obj)} {σ : L2.St} {s : Shared} (hK : W.K = X.K) (I : Inv X pins σ H s) : ∀ {ds : List D} {xs : List V} {its : List Value} {ps : List (Int × Int)}, RepVs W m θ H ds xs → Vals xs its → pairsOf ds = some ps →
    its.map (pairAt s.heap) = ps ∧ ∀ u ∈ its, (∃ a, u = Value.ref a) ∧ RepV W m θ H (pairD (pairAt s.heap u)) (backV u) ∧ Srt.IsPair s.heap u (pairAt s.heap u).1 (pairAt s.heap u).2
  | [], _, _, ps, rs, rv, e => by
    cases rs; cases rv; cases e
    exact ⟨rfl, fun u hu => (nomatch hu)⟩
  | d :: ds, _, _, ps, rs, rv, e => by
    cases rs with
    | cons r rs =>
      cases rv with
      | cons ru rv =>
        unfold pairsOf at e
        split at e
        · rename_i q; cases q
        · rename_i i j r' q
          cases q
          simp only [Option.map_eq_some_iff] at e
          obtain ⟨ps', e1, rfl⟩ := e
          obtain ⟨h1, h2⟩ := pair_facts hK I rs rv e1
          have r0 := r
          cases r with
          | tup hq rs2 =>
            cases rs2 with
            | cons ri rs3 => cases rs3 with
              | cons rj rs4 =>
                cases rs4; cases ri; cases rj
                obtain ⟨its2, rv2, ⟨o, ho, hc, n, hd⟩, _⟩ := I.tuple (hq.elim (fun z => .inl z.1) (fun z => .inr (hK ▸ z)))
                obtain ⟨u1, u2, rfl, ri, rj⟩ := vals2 rv2
                obtain ⟨t1, rfl⟩ := ri
                obtain ⟨t2, rfl⟩ := rj
                cases ru
                rename_i a0 _
                have ep : pairAt s.heap (Value.ref a0) = (i, j) := by
                  show (match s.heap.get? a0 with
                    | some o => (match o.data with
                      | .seq xs _ => (match xs.toList with
                        | [.int i _, .int j _] => (i, j)
                        | _ => (0, 0))
                      | _ => (0, 0))
                    | none => (0, 0)) = _
                  rw [ho]
                  simp only [hd]
                refine ⟨by rw [List.map_cons, h1, ep], fun u hu => ?_⟩
                rcases List.mem_cons.mp hu with rfl | hu
                · rw [ep]
                  exact ⟨⟨_, rfl⟩, r0, ⟨_, o, t1, t2, n, rfl, ho, hc, hd⟩⟩
                · exact h2 u hu
        · cases e
theorem reps_back {W : Wr} {m : Fb} {θ : List Addr} {H : Hp} {k : Value → Int × Int} : ∀ {us : List Value}, (∀ u ∈ us, RepV W m θ H (pairD (k u)) (backV u)) → RepVs W m θ H ((us.map k).map pairD) (us.map backV)
  | [], _ => .nil
  | u :: us, h => .cons (h u (.head _)) (reps_back fun u hu => h u (.tail _ hu))
/-- sorted(t), t a tuple of pairs of ints -/
theorem call_sortedTP {X : Cx} {W : Wr} {m : Fb} {θ : List Addr} {H : Hp} {pins : List (Addr × Obj)} {σ : L2.St} {s : Shared} {Q : VK} (hK : W.K = X.K) (I : Inv X pins σ H s) {a : Addr} {ds : List D} {vs : List V} {ps : List (Int × Int)} (h : SqT W.K H a vs) (rs : RepVs W m θ H ds vs) (e : pairsOf ds = some ps)
    (q : ∀ p ys, H p = none → RepVs W m θ H ((sortP ps).map pairD) ys → Q (.ref p) (upd H p (.lst ys))) :
    wpAny (model X.prog X.w) X.A (call (.builtin "sorted") [.ref a]) (EP X pins σ Q) X.xe s := by
  obtain ⟨its, rv, ht, hz⟩ := I.tuple (hK ▸ h)
  obtain ⟨h1, h2⟩ := pair_facts hK I rs rv e
  refine sorted_ordT (SrtO.swo_lex (pairAt s.heap)) ht (by rw [← rv.length]; exact hz) (fun g2 hp a' ha kk => ?_) fun out hp1 hp2 d hs hb k1 k2 hd hn => ?_
  · refine SrtO.pairs_sortableO (s := { s with heap := hp }) (by omega) (fun v hm => ((h2 v hm).2.2).keeps fun b o e _ => (kk b o e).2) fun o e => ?_
    have e' : some o = some (seqObj "list" its.toArray 0) := e.symm.trans ha
    cases e'
    intro c
    exact absurd (Value.type.inj c) (by decide)
  · have I1 : Inv X pins σ H { s with heap := hp1, toks := s.toks } := I.kept k1
    have hno : H d = none := I1.hok.fresh hd
    obtain ⟨n, hn⟩ := hn
    have h3 : ∀ u ∈ out, (∃ a, u = Value.ref a) ∧ RepV W m θ H (pairD (pairAt s.heap u)) (backV u) := fun u hu => by
      obtain ⟨a1, a2, _⟩ := h2 u (hb.perm.mem_iff.mp hu)
      exact ⟨a1, a2⟩
    have hl : (out.map backV).length ≤ sizeLine := by rw [List.length_map, hb.perm.length_eq, ← rv.length]; exact hz
    have es : out.map (pairAt s.heap) = sortP ps := by
      refine sortP_uniq ?_ ?_
      · rw [← h1]; exact hb.perm.map _
      · refine List.pairwise_map.mpr ?_
        exact hs
    refine ⟨.ref d, upd H d (.lst (out.map backV)), I1.laid (t' := s.toks) k2 hd ⟨hl, out, n, vals_back fun u hu => (h3 u hu).1, hn⟩, rfl, q d _ hno ?_⟩
    rw [← es]
    exact reps_back fun u hu => (h3 u hu).2
end Pv
end

section
set_option Elab.async false
set_option linter.all false
set_option maxRecDepth 100000
set_option maxHeartbeats 4000000
/-! EvD: operators. -/
namespace Pv
open PySem PySem.Spec PyProof.Rows L2

/-- the content of a value -/
def Cn (W : Wr) (m : Fb) (θ : List Addr) (H : Hp) : D → V → Prop
  | .lst xs, v => ∃ a vs, v = .ref a ∧ H a = some (.lst vs) ∧ RepVs W m θ H xs vs
  | .scr xs, v => ∃ a vs, v = .ref a ∧ SqL W.K H a vs ∧ RepVs W m θ H xs vs
  | .tup xs, v => ∃ a vs, v = .ref a ∧ SqT W.K H a vs ∧ RepVs W m θ H xs vs
  | .obj c fs, v => ∃ a dx vfs, v = .ref a ∧ H a = some (.ins (W.ca c) dx vfs) ∧ vfs.map (·.1) = fs.map (·.1) ∧ RepVs W m θ H (fs.map (·.2)) (vfs.map (·.2))
  | .dic kvs, v => ∃ a vkvs, v = .ref a ∧ H a = some (.dK vkvs) ∧ vkvs.map (fun p => keyD p.1) = kvs.map (·.1) ∧ RepVs W m θ H (kvs.map (·.2)) (vkvs.map (·.2))
  | .ref _, _ => False
  | d, v => RepV W m θ H d v
/-- what an operator hands back -/
def R1 (W : Wr) (m : Fb) (θ : List Addr) (H : Hp) (z : FX) (w : V) (H' : Hp) : Prop := match z with
  | .d d => (H' = H ∧ RepV W m θ H d w) ∨ (∃ p ds vs, d = .tup ds ∧ H p = none ∧ w = .ref p ∧ H' = upd H p (.tup vs) ∧ RepVs W m θ H ds vs)
  | .f (.lst ds) => ∃ p vs, H p = none ∧ w = .ref p ∧ H' = upd H p (.lst vs) ∧ RepVs W m θ H ds vs
  | .f (.dic kvs) => ∃ p vkvs, H p = none ∧ w = .ref p ∧ H' = upd H p (.dK vkvs) ∧ vkvs.map (fun p => keyD p.1) = kvs.map (·.1) ∧ RepVs W m θ H (kvs.map (·.2)) (vkvs.map (·.2))
  | .f _ => False
section
variable {W : Wr} {F : Fb} {m0 m : Fb} {θ0 θ : List Addr} {s : S} {σ : L2.St} {H0 H H' : Hp}
theorem R1.rx {z : FX} {w : V} (R : Rep W F θ s σ H) (k : Keep m0 θ0 H0 (M0 θ s.ρ σ) θ H) (r : R1 W (Mt F θ s.ρ σ) θ H z w H') : RX W F m0 θ0 H0 θ s σ H' z w := by
  cases z with
  | d d =>
    rcases r with ⟨rfl, r⟩ | ⟨p, ds, vs, rfl, n, rfl, rfl, r⟩
    · exact ⟨R, k, r⟩
    · exact RX.newT R k n r
  | f o => cases o with
    | lst ds => obtain ⟨p, vs, n, rfl, rfl, r⟩ := r; exact RX.newL R k n r
    | dic kvs => obtain ⟨p, vkvs, n, rfl, rfl, e, r⟩ := r; exact RX.newK R k n e r
    | ins _ _ => exact r.elim
    | tbl _ => exact r.elim
theorem Cn.of_rep {d : D} {v : V} (h : RepV W m θ H d v) (hn : ∀ l, d ≠ .ref l) : Cn W m θ H d v := by
  cases h with
  | non => exact .non
  | bl b => exact .bl b
  | int i => exact .int i
  | str x => exact .str x
  | ty n => exact .ty n
  | fn i => exact .fn i
  | cls i => exact .cls i
  | tup h rs => exact ⟨_, _, rfl, h.elim (fun z => .inl z.1) .inr, rs⟩
  | lst h n rs => exact ⟨_, _, rfl, h, rs⟩
  | scr h rs => exact ⟨_, _, rfl, h.elim (fun z => .inl z.1) .inr, rs⟩
  | obj h n e rs => exact ⟨_, _, _, rfl, h, e, rs⟩
  | dic h n e rs => exact ⟨_, _, rfl, h, e, rs⟩
  | ref h => exact (hn _ rfl).elim
  | opq a => exact .opq a
theorem ObR.cn {o : Ob} {a : Addr} (h : ObR W m θ H o a) : Cn W m θ H o.frz (.ref a) := by
  cases o with
  | lst xs => obtain ⟨vs, e, r⟩ := h; exact ⟨_, _, rfl, e, r⟩
  | ins c fs => obtain ⟨dx, vfs, e, n, r⟩ := h; exact ⟨_, _, _, rfl, e, n, r⟩
  | dic kvs => obtain ⟨vkvs, e, n, r⟩ := h; exact ⟨_, _, rfl, e, n, r⟩
  | tbl i => exact .opq _
theorem Ob.frz_ref (o : Ob) (l : Nat) : o.frz ≠ .ref l := by cases o <;> intro z <;> cases z
/-- an operand that was evaluated -/
def Opn (W : Wr) (F : Fb) (θ : List Addr) (s : S) (σ : L2.St) (H : Hp) (a : E) (x : D) (v : V) : Prop := match isBor a with
  | some i => σ[i]? = some (some v)
  | none => RepV W (Mt F θ s.ρ σ) θ H x v
theorem Keep.mt {s' : S} {θ' : List Addr} (R : Rep W F θ s σ H) (k : Keep (M0 θ s.ρ σ) θ H (M0 θ' s'.ρ σ) θ' H') : Keep (Mt F θ s.ρ σ) θ H (Mt F θ' s'.ρ σ) θ' H' := k.fb
theorem Opn.later {s' : S} {θ' : List Addr} {a : E} {x : D} {v : V} (h : Opn W F θ s σ H a x v) (R : Rep W F θ s σ H) (k : Keep (M0 θ s.ρ σ) θ H (M0 θ' s'.ρ σ) θ' H') : Opn W F θ' s' σ H' a x v := by
  unfold Opn at h ⊢
  cases e : isBor a with
  | some i => rw [e] at h; exact h
  | none => rw [e] at h; exact RepV.keep (Keep.mt R k) h
theorem view_cn {x d : D} {v : V} (R : Rep W F θ s σ H) (r : RepV W (Mt F θ s.ρ σ) θ H x v) (e : view s x = some d) : Cn W (Mt F θ s.ρ σ) θ H d v := by
  by_cases hr : ∃ l, x = .ref l
  · obtain ⟨l, rfl⟩ := hr
    cases r with
    | ref h =>
      simp only [view, Option.map_eq_some_iff] at e
      obtain ⟨o, e1, rfl⟩ := e
      exact (R.st _ _ _ h e1).cn
  · have hn : ∀ l, x ≠ .ref l := fun l z => hr ⟨l, z⟩
    have e2 : view s x = some x := by cases x <;> first | rfl | exact (hn _ rfl).elim
    rw [e2] at e
    cases e
    exact .of_rep r hn
theorem rdB_cn {i : Nat} {x d : D} {v : V} (R : Rep W F θ s σ H) (h : σ[i]? = some (some v)) (e : (rdB s i).bind (view s) = some d) : Cn W (Mt F θ s.ρ σ) θ H d v := by
  unfold rdB at e
  cases g : getN s.ρ i with
  | no => rw [g] at e; cases e
  | clo f c => rw [g] at e; cases e
  | val y =>
    rw [g] at e
    obtain ⟨u, h1, r⟩ := R.val g
    rw [h] at h1; cases h1
    exact view_cn R r e
  | own o =>
    rw [g] at e
    obtain ⟨a, h1, r⟩ := R.own g
    rw [h] at h1; cases h1
    have : view s o.frz = some o.frz := by cases o <;> rfl
    have e : view s o.frz = some d := e
    rw [this] at e; cases e
    exact r.cn
theorem fin_cn {a : E} {x d : D} {v : V} (R : Rep W F θ s σ H) (h : Opn W F θ s σ H a x v) (e : fin a x s = some d) : Cn W (Mt F θ s.ρ σ) θ H d v := by
  unfold Opn at h
  unfold fin at e
  cases q : isBor a with
  | some i => rw [q] at h e; exact rdB_cn (x := x) R h e
  | none => rw [q] at h e; exact view_cn R h e
end

section
variable {X : Cx} {W : Wr} {rp : D → Option Str}
def r1 (W : Wr) (rp : D → Option Str) (o : O1) : List V → Hp → VK → Prop := fun vs H Q => ∃ x v m θ z, vs = [v] ∧ Cn W m θ H x v ∧ op1 rp o x = some z ∧ (∀ w H', R1 W m θ H z w H' → Q w H') ∧ ∀ a, m a → ∃ o, H a = some o ∧ MutT (some o)
def r2 (W : Wr) (o : O2) : R2 := fun v w H Q => ∃ x y m θ z, Cn W m θ H x v ∧ Cn W m θ H y w ∧ op2 o x y = some z ∧ (∀ w H', R1 W m θ H z w H' → Q w H') ∧ ∀ a, m a → ∃ o, H a = some o ∧ MutT (some o)
/-- a tuple may not change -/
theorem tup_rep {m : Fb} {θ : List Addr} {H : Hp} {a : Addr} {vs : List V} {ds : List D} (mt : ∀ a, m a → ∃ o, H a = some o ∧ MutT (some o)) (h : SqT W.K H a vs) (rs : RepVs W m θ H ds vs) : RepV W m θ H (.tup ds) (.ref a) := by
  rcases h with h | h
  · refine .tup (.inl ⟨h, fun z => ?_⟩) rs
    obtain ⟨o, e, mu⟩ := mt a z
    rcases h with h | ⟨o', h⟩
    · rw [h] at e; cases e; exact mu
    · rw [h] at e; cases e; exact mu
  · exact .tup (.inr h) rs
theorem LINE_eq : LINE = sizeLine := LINE_val.trans sizeLine_eq.symm
theorem cr_len (hK : W.K = X.K) : CallR X (.builtin "len") (r1 W rp .len) := by
  intro pins s σ H xs us Q I rv h
  obtain ⟨x, v, m, θ, z, rfl, c, e, q, mt⟩ := h
  cases x with
  | str x =>
    cases c
    simp only [op1] at e
    split at e
    · rename_i hl
      cases e
      exact call_len_str pins s σ H _ us Q I rv ⟨x, rfl, by rw [← LINE_eq]; exact hl, q _ _ (.inl ⟨rfl, .int _⟩)⟩
    · cases e
  | tup xs =>
    obtain ⟨a, vs, rfl, h, rs⟩ := c
    cases e
    exact call_len_seq pins s σ H _ us Q I rv ⟨a, vs, rfl, .inr (hK ▸ h), by rw [← rs.length]; exact q _ _ (.inl ⟨rfl, .int _⟩)⟩
  | lst xs =>
    obtain ⟨a, vs, rfl, h, rs⟩ := c
    cases e
    exact call_len_seq pins s σ H _ us Q I rv ⟨a, vs, rfl, .inl (.of h), by rw [← rs.length]; exact q _ _ (.inl ⟨rfl, .int _⟩)⟩
  | scr xs =>
    obtain ⟨a, vs, rfl, h, rs⟩ := c
    cases e
    exact call_len_seq pins s σ H _ us Q I rv ⟨a, vs, rfl, .inl (hK ▸ h), by rw [← rs.length]; exact q _ _ (.inl ⟨rfl, .int _⟩)⟩
  | dic kvs =>
    obtain ⟨a, vkvs, rfl, h, e', rs⟩ := c
    cases e
    have hl : vkvs.length = kvs.length := by simpa using congrArg List.length e'
    obtain ⟨u, eu, rx⟩ := vals1 rv
    subst eu
    cases rx
    exact d_len I (.inl h) fun t s' I' => ⟨.int vkvs.length, H, I', ⟨t, rfl⟩, by rw [hl]; exact q _ _ (.inl ⟨rfl, .int _⟩)⟩
  | _ => cases e
theorem cr_sum1 (hK : W.K = X.K) (hc : X.calm = true) : CallR X (.builtin "sum") (r1 W rp .sum) := by
  intro pins s σ H xs us Q I rv h
  obtain ⟨x, v, m, θ, z, rfl, c, e, q, mt⟩ := h
  cases x with
  | lst xs =>
    obtain ⟨a, vs, rfl, h, rs⟩ := c
    simp only [op1, Option.map_eq_some_iff] at e
    obtain ⟨ns, e1, rfl⟩ := e
    have := ints_rep e1 rs
    subst this
    exact cr_sum hc pins s σ H _ us Q I rv ⟨a, ns, rfl, .of h, q _ _ (.inl ⟨rfl, .int _⟩)⟩
  | _ => cases e
theorem maxI_le : ∀ (ns : List Int) (n : Int), n ≤ maxI n ns ∧ (∀ y ∈ ns, y ≤ maxI n ns) ∧ (maxI n ns = n ∨ maxI n ns ∈ ns)
  | [], n => ⟨Int.le_refl _, fun _ h => (nomatch h), .inl rfl⟩
  | y :: r, n => by
    obtain ⟨h1, h2, h3⟩ := maxI_le r (if y > n then y else n)
    unfold maxI
    refine ⟨?_, ?_, ?_⟩
    · split at h1 <;> rename_i q <;> simp only [q, if_true, if_false] <;> omega
    · intro z hz
      rcases List.mem_cons.mp hz with rfl | hz
      · split at h1 <;> rename_i q <;> simp only [q, if_true, if_false] <;> omega
      · exact h2 z hz
    · rcases h3 with h3 | h3
      · rw [h3]
        by_cases q : y > n
        · rw [if_pos q]; exact .inr (List.mem_cons_self ..)
        · rw [if_neg q]; exact .inl rfl
      · exact .inr (List.mem_cons_of_mem _ h3)
theorem minI_le : ∀ (ns : List Int) (n : Int), minI n ns ≤ n ∧ (∀ y ∈ ns, minI n ns ≤ y) ∧ (minI n ns = n ∨ minI n ns ∈ ns)
  | [], n => ⟨Int.le_refl _, fun _ h => (nomatch h), .inl rfl⟩
  | y :: r, n => by
    obtain ⟨h1, h2, h3⟩ := minI_le r (if y < n then y else n)
    unfold minI
    refine ⟨?_, ?_, ?_⟩
    · split at h1 <;> rename_i q <;> simp only [q, if_true, if_false] <;> omega
    · intro z hz
      rcases List.mem_cons.mp hz with rfl | hz
      · split at h1 <;> rename_i q <;> simp only [q, if_true, if_false] <;> omega
      · exact h2 z hz
    · rcases h3 with h3 | h3
      · rw [h3]
        by_cases q : y < n
        · rw [if_pos q]; exact .inr (List.mem_cons_self ..)
        · rw [if_neg q]; exact .inl rfl
      · exact .inr (List.mem_cons_of_mem _ h3)
theorem cr_max1 (hK : W.K = X.K) (hc : X.calm = true) : CallR X (.builtin "max") (r1 W rp .max) := by
  intro pins s σ H xs us Q I rv h
  obtain ⟨x, v, m, θ, z, rfl, c, e, q, mt⟩ := h
  cases x with
  | lst xs =>
    obtain ⟨a, vs, rfl, h, rs⟩ := c
    simp only [op1] at e
    split at e
    · rename_i n ns e1
      cases e
      have := ints_rep e1 rs
      subst this
      refine cr_max hc pins s σ H _ us Q I rv ⟨a, n :: ns, rfl, .of h, by simp, fun k hk hle => ?_⟩
      obtain ⟨h1, h2, h3⟩ := maxI_le ns n
      have e2 : k = maxI n ns := by
        have a1 : maxI n ns ≤ k := by
          rcases h3 with h3 | h3
          · rw [h3]; exact hle n (List.mem_cons_self ..)
          · exact hle _ (List.mem_cons_of_mem _ h3)
        have a2 : k ≤ maxI n ns := by
          rcases List.mem_cons.mp hk with rfl | hk
          · exact h1
          · exact h2 k hk
        omega
      rw [e2]
      exact q _ _ (.inl ⟨rfl, .int _⟩)
    · cases e
  | _ => cases e
theorem cr_min1 (hK : W.K = X.K) (hc : X.calm = true) : CallR X (.builtin "min") (r1 W rp .min) := by
  intro pins s σ H xs us Q I rv h
  obtain ⟨x, v, m, θ, z, rfl, c, e, q, mt⟩ := h
  cases x with
  | lst xs =>
    obtain ⟨a, vs, rfl, h, rs⟩ := c
    simp only [op1] at e
    split at e
    · rename_i n ns e1
      cases e
      have := ints_rep e1 rs
      subst this
      refine cr_min hc pins s σ H _ us Q I rv ⟨a, n :: ns, rfl, .of h, by simp, fun k hk hle => ?_⟩
      obtain ⟨h1, h2, h3⟩ := minI_le ns n
      have e2 : k = minI n ns := by
        have a1 : k ≤ minI n ns := by
          rcases h3 with h3 | h3
          · rw [h3]; exact hle n (List.mem_cons_self ..)
          · exact hle _ (List.mem_cons_of_mem _ h3)
        have a2 : minI n ns ≤ k := by
          rcases List.mem_cons.mp hk with rfl | hk
          · exact h1
          · exact h2 k hk
        omega
      rw [e2]
      exact q _ _ (.inl ⟨rfl, .int _⟩)
    · cases e
  | _ => cases e
theorem cr_any1 (hc : X.calm = true) : CallR X (.builtin "any") (r1 W rp .any) := by
  intro pins s σ H xs us Q I rv h
  obtain ⟨x, v, m, θ, z, rfl, c, e, q, mt⟩ := h
  cases x with
  | lst xs =>
    obtain ⟨a, vs, rfl, h, rs⟩ := c
    simp only [op1, Option.map_eq_some_iff] at e
    obtain ⟨ns, e1, rfl⟩ := e
    have := bls_rep e1 rs
    subst this
    exact cr_any hc pins s σ H _ us Q I rv ⟨a, ns, rfl, .of h, q _ _ (.inl ⟨rfl, .bl _⟩)⟩
  | _ => cases e
theorem cr_all1 (hc : X.calm = true) : CallR X (.builtin "all") (r1 W rp .all) := by
  intro pins s σ H xs us Q I rv h
  obtain ⟨x, v, m, θ, z, rfl, c, e, q, mt⟩ := h
  cases x with
  | lst xs =>
    obtain ⟨a, vs, rfl, h, rs⟩ := c
    simp only [op1, Option.map_eq_some_iff] at e
    obtain ⟨ns, e1, rfl⟩ := e
    have := bls_rep e1 rs
    subst this
    exact cr_all hc pins s σ H _ us Q I rv ⟨a, ns, rfl, .of h, q _ _ (.inl ⟨rfl, .bl _⟩)⟩
  | _ => cases e
theorem cr_abs : CallR X (.builtin "abs") (r1 W rp .abs) := by
  intro pins s σ H xs us Q I rv h
  obtain ⟨x, v, m, θ, z, rfl, c, e, q, mt⟩ := h
  cases x with
  | int i =>
    cases c; cases e
    exact call_abs pins s σ H _ us Q I rv ⟨i, rfl, q _ _ (.inl ⟨rfl, .int _⟩)⟩
  | _ => cases e
theorem cr_int : CallR X (.type "int") (r1 W rp .int) := by
  intro pins s σ H xs us Q I rv h
  obtain ⟨x, v, m, θ, z, rfl, c, e, q, mt⟩ := h
  cases x with
  | int i =>
    cases c; cases e
    exact call_int1 pins s σ H _ us Q I rv (.inl ⟨i, rfl, q _ _ (.inl ⟨rfl, .int _⟩)⟩)
  | _ => cases e
theorem cr_tuple (hK : W.K = X.K) : CallR X (.type "tuple") (r1 W rp .tuple) := by
  intro pins s σ H xs us Q I rv h
  obtain ⟨x, v, m, θ, z, rfl, c, e, q, mt⟩ := h
  cases x with
  | tup xs =>
    obtain ⟨a, vs, rfl, h, rs⟩ := c
    cases e
    exact call_tuple_of pins s σ H _ us Q I rv ⟨a, vs, rfl, .inr ⟨hK ▸ h, q _ _ (.inl ⟨rfl, tup_rep mt h rs⟩)⟩⟩
  | lst xs =>
    obtain ⟨a, vs, rfl, h, rs⟩ := c
    cases e
    exact call_tuple_of pins s σ H _ us Q I rv ⟨a, vs, rfl, .inl ⟨.of h, fun l hl => q _ _ (.inr ⟨l, xs, vs, rfl, hl, rfl, rfl, rs⟩)⟩⟩
  | _ => cases e

theorem cr_list (hK : W.K = X.K) : CallR X (.type "list") (r1 W rp .list) := by
  intro pins s σ H xs us Q I rv h
  obtain ⟨x, v, m, θ, z, rfl, c, e, q, mt⟩ := h
  cases x with
  | tup xs =>
    obtain ⟨a, vs, rfl, h, rs⟩ := c
    cases e
    exact call_list_of pins s σ H _ us Q I rv ⟨a, vs, rfl, .inr (hK ▸ h), fun l hl => q _ _ ⟨l, vs, hl, rfl, rfl, rs⟩⟩
  | lst xs =>
    obtain ⟨a, vs, rfl, h, rs⟩ := c
    cases e
    exact call_list_of pins s σ H _ us Q I rv ⟨a, vs, rfl, .inl (.of h), fun l hl => q _ _ ⟨l, vs, hl, rfl, rfl, rs⟩⟩
  | _ => cases e
theorem ltC_lib : ∀ a b, PySem.Spec.ltCps a b = ltC a b
  | [], [] => rfl
  | [], _ :: _ => rfl
  | _ :: _, [] => rfl
  | a :: r, b :: t => by simp only [PySem.Spec.ltCps, ltC, ltC_lib r t]
theorem ltC_list : ∀ a b : List Nat, decide (a < b) = ltC a b
  | [], [] => rfl
  | [], _ :: _ => rfl
  | _ :: _, [] => rfl
  | a :: r, b :: t => by
    rw [ltC, ← ltC_list r t, Bool.eq_iff_iff]
    simp only [decide_eq_true_eq, Bool.or_eq_true, Bool.and_eq_true, beq_iff_eq]
    exact List.cons_lt_cons_iff
theorem rising_pw : ∀ (l : List Str) (p : Str), PyProof.Rows.risingS p l = true → (p :: l).Pairwise leS
  | [], p, _ => by simp
  | x :: r, p, h => by
    simp only [PyProof.Rows.risingS, Bool.and_eq_true, Bool.not_eq_true', ltC_lib] at h
    have ih := rising_pw r x h.2
    refine List.pairwise_cons.mpr ⟨fun z hz => ?_, ih⟩
    rcases List.mem_cons.mp hz with rfl | hz
    · exact h.1
    · exact leS_trans _ _ _ h.1 ((List.pairwise_cons.mp ih).1 z hz)
theorem sorted_pw : ∀ l : List Str, PyProof.Rows.sortedS l = true → l.Pairwise leS
  | [], _ => .nil
  | x :: r, h => rising_pw r x h
theorem keys_of : ∀ {ks : List D} {ss : List Str} {vkvs : List (Key × V)}, strsOf ks = some ss → vkvs.map (fun p => keyD p.1) = ks → vkvs.map (·.1) = ss.map Sum.inr
  | [], ss, vkvs, e, h => by
    simp [strsOf] at e; subst e
    cases vkvs with
    | nil => rfl
    | cons _ _ => cases h
  | d :: ks, ss, vkvs, e, h => by
    cases vkvs with
    | nil => cases h
    | cons p r =>
      simp only [List.map_cons, List.cons.injEq] at h
      obtain ⟨h1, h2⟩ := h
      subst h1
      obtain ⟨k, v⟩ := p
      cases k with
      | inl i => simp [keyD, strsOf] at e
      | inr x =>
        simp only [keyD, strsOf, Option.map_eq_some_iff] at e
        obtain ⟨ss', e1, rfl⟩ := e
        simp [keys_of e1 h2]
theorem cr_sorted1 (hK : W.K = X.K) (hc : X.calm = true) : CallR X (.builtin "sorted") (r1 W rp .sorted) := by
  intro pins s σ H xs us Q I rv h
  obtain ⟨x, v, m, θ, z, rfl, c, e, q, mt⟩ := h
  cases x with
  | lst xs =>
    obtain ⟨a, vs, rfl, h, rs⟩ := c
    simp only [op1] at e
    cases e1 : intsOf xs with
    | some ns =>
      rw [e1] at e
      cases e
      have := ints_rep e1 rs
      subst this
      refine cr_sortedI pins s σ H _ us Q I rv ⟨a, ns, rfl, .of h, fun ns' p pm pw hp => ?_⟩
      rw [sortI_uniq pm pw]
      exact q _ _ ⟨p, _, hp, rfl, rfl, repI _⟩
    | none =>
      rw [e1] at e
      cases e2 : strsOf xs with
      | none => rw [e2] at e; cases e
      | some ss =>
        rw [e2] at e
        simp only at e
        split at e
        · rename_i hl
          cases e
          have := strs_rep e2 rs
          subst this
          refine cr_sortedS pins s σ H _ us Q I rv ⟨a, ss, rfl, .of h, hl, fun ns' p pm pw hp => ?_⟩
          rw [sortS_uniq pm (sorted_pw _ pw)]
          exact q _ _ ⟨p, _, hp, rfl, rfl, repS _⟩
        · cases e
  | dic kvs =>
    obtain ⟨a, vkvs, rfl, h, e', rs⟩ := c
    simp only [op1] at e
    cases e2 : strsOf (kvs.map (·.1)) with
    | none => rw [e2] at e; cases e
    | some ss =>
      rw [e2] at e
      simp only at e
      split at e
      · rename_i hl
        cases e
        refine call_sortedD hc pins s σ H _ us Q I rv ⟨a, vkvs, ss, rfl, .inl h, keys_of e2 e', hl, fun ns' p pm pw hp => ?_⟩
        rw [sortS_uniq pm (sorted_pw _ pw)]
        exact q _ _ ⟨p, _, hp, rfl, rfl, repS _⟩
      · cases e
  | tup xs =>
    obtain ⟨a, vs, rfl, h, rs⟩ := c
    simp only [op1, Option.map_eq_some_iff] at e
    obtain ⟨ps, e1, rfl⟩ := e
    obtain ⟨u, eu, rx⟩ := vals1 rv
    subst eu
    cases rx
    exact call_sortedTP hK I h rs e1 fun p ys hp r => q _ _ ⟨p, ys, hp, rfl, rfl, r⟩
  | _ => cases e

/-! ### two operands -/
theorem or_add (hK : W.K = X.K) : OpR X (binaryOp .Add) (r2 W .add) := by
  intro pins s σ H v w u t Q I rv rw' h
  obtain ⟨x, y, m, θ, z, cx, cy, e, q, mt⟩ := h
  cases x <;> cases y <;> first | (cases e; done) | skip
  · cases cx; cases cy; cases e
    exact op_add pins s σ H _ _ u t Q I rv rw' ⟨_, _, rfl, rfl, q _ _ (.inl ⟨rfl, .int _⟩)⟩
  · simp only [op2] at e
    split at e
    · rename_i hl
      cases cx; cases cy; cases e
      exact op_add_str pins s σ H _ _ u t Q I rv rw' ⟨_, _, rfl, rfl, by rw [← LINE_eq]; exact hl, q _ _ (.inl ⟨rfl, .str _⟩)⟩
    · cases e
  · simp only [op2] at e
    split at e
    · rename_i hl
      cases e
      obtain ⟨a, vs, rfl, h, rs⟩ := cx
      obtain ⟨b, ws, rfl, h', rs'⟩ := cy
      refine op_catA pins s σ H _ _ u t Q I rv rw' ⟨a, b, vs, ws, rfl, rfl, hK ▸ h, hK ▸ h', by rw [← LINE_eq, ← rs.length, ← rs'.length]; exact hl, fun z => ?_, fun _ z => ?_, fun _ _ p hp => q _ _ (.inr ⟨p, _, _, rfl, hp, rfl, rfl, rs.append rs'⟩)⟩
      · subst z; cases rs; exact q _ _ (.inl ⟨rfl, tup_rep mt h' rs'⟩)
      · subst z; cases rs'; rw [List.append_nil] at q; exact q _ _ (.inl ⟨rfl, tup_rep mt h rs⟩)
    · cases e
  · simp only [op2] at e
    split at e
    · rename_i hl
      cases e
      obtain ⟨a, vs, rfl, h, rs⟩ := cx
      obtain ⟨b, ws, rfl, h', rs'⟩ := cy
      exact op_cat pins s σ H _ _ u t Q I rv rw' ⟨a, b, vs, ws, rfl, rfl, h, h', by rw [← LINE_eq, ← rs.length, ← rs'.length]; exact hl, fun p hp => q _ _ ⟨p, _, hp, rfl, rfl, rs.append rs'⟩⟩
    · cases e
theorem or_sub : OpR X (binaryOp .Sub) (r2 W .sub) := by
  intro pins s σ H v w u t Q I rv rw' h
  obtain ⟨x, y, m, θ, z, cx, cy, e, q, mt⟩ := h
  simp only [op2] at e
  cases x <;> first | (cases e; done) | skip
  cases y <;> first | (cases e; done) | skip
  cases cx; cases cy; cases e
  exact op_sub pins s σ H _ _ u t Q I rv rw' ⟨_, _, rfl, rfl, q _ _ (.inl ⟨rfl, .int _⟩)⟩
theorem big_iff {i : Int} (h : big i = true) : -(2 ^ 64) < i ∧ i < 2 ^ 64 := by
  simp only [big, decide_eq_true_eq] at h
  exact h
theorem or_fdiv : OpR X (binaryOp .FloorDiv) (r2 W .fdiv) := by
  intro pins s σ H v w u t Q I rv rw' h
  obtain ⟨x, y, m, θ, z, cx, cy, e, q, mt⟩ := h
  simp only [op2] at e
  cases x <;> first | (cases e; done) | skip
  cases y <;> first | (cases e; done) | skip
  simp only at e
  split at e
  · rename_i hb
    cases cx; cases cy; cases e
    exact op_fdivN pins s σ H _ _ u t Q I rv rw' ⟨_, _, rfl, rfl, hb, q _ _ (.inl ⟨rfl, .int _⟩)⟩
  · cases e
theorem or_mod : OpR X (binaryOp .Mod) (r2 W .mod) := by
  intro pins s σ H v w u t Q I rv rw' h
  obtain ⟨x, y, m, θ, z, cx, cy, e, q, mt⟩ := h
  simp only [op2] at e
  cases x <;> first | (cases e; done) | skip
  cases y <;> first | (cases e; done) | skip
  simp only at e
  split at e
  · rename_i hb
    cases cx; cases cy; cases e
    exact op_modN pins s σ H _ _ u t Q I rv rw' ⟨_, _, rfl, rfl, hb, q _ _ (.inl ⟨rfl, .int _⟩)⟩
  · cases e
theorem or_pow : OpR X (binaryOp .Pow) (r2 W .pow) := by
  intro pins s σ H v w u t Q I rv rw' h
  obtain ⟨x, y, m, θ, z, cx, cy, e, q, mt⟩ := h
  simp only [op2] at e
  cases x <;> first | (cases e; done) | skip
  cases y <;> first | (cases e; done) | skip
  simp only at e
  split at e
  · rename_i hb
    cases cx; cases cy; cases e
    obtain ⟨h1, h2, h3⟩ := hb
    have h3 := big_iff h3
    exact op_pow pins s σ H _ _ u t Q I rv rw' ⟨_, _, rfl, rfl, ⟨h1, by omega, by omega⟩, q _ _ (.inl ⟨rfl, .int _⟩)⟩
  · cases e
theorem or_shr : OpR X (binaryOp .RShift) (r2 W .shr) := by
  intro pins s σ H v w u t Q I rv rw' h
  obtain ⟨x, y, m, θ, z, cx, cy, e, q, mt⟩ := h
  simp only [op2] at e
  cases x <;> first | (cases e; done) | skip
  cases y <;> first | (cases e; done) | skip
  simp only at e
  split at e
  · rename_i hb
    cases cx; cases cy; cases e
    exact op_shr pins s σ H _ _ u t Q I rv rw' ⟨_, _, rfl, rfl, hb, q _ _ (.inl ⟨rfl, .int _⟩)⟩
  · cases e

theorem or_lt : OpR X (compareOp .Lt) (r2 W .lt) := by
  intro pins s σ H v w u t Q I rv rw' h
  obtain ⟨x, y, m, θ, z, cx, cy, e, q, mt⟩ := h
  cases x <;> cases y <;> first | (cases e; done) | skip
  · cases cx; cases cy; cases e
    exact op_lt pins s σ H _ _ u t Q I rv rw' ⟨_, _, rfl, rfl, q _ _ (.inl ⟨rfl, .bl _⟩)⟩
  · cases cx; cases cy; cases e
    refine op_lt_str pins s σ H _ _ u t Q I rv rw' ⟨_, _, rfl, rfl, ?_⟩
    rw [ltC_list]
    exact q _ _ (.inl ⟨rfl, .bl _⟩)
theorem or_gt : OpR X (compareOp .Gt) (r2 W .gt) := by
  intro pins s σ H v w u t Q I rv rw' h
  obtain ⟨x, y, m, θ, z, cx, cy, e, q, mt⟩ := h
  cases x <;> cases y <;> first | (cases e; done) | skip
  · cases cx; cases cy; cases e
    exact op_gt pins s σ H _ _ u t Q I rv rw' ⟨_, _, rfl, rfl, q _ _ (.inl ⟨rfl, .bl _⟩)⟩
  · cases cx; cases cy; cases e
    refine op_gt_str pins s σ H _ _ u t Q I rv rw' ⟨_, _, rfl, rfl, ?_⟩
    rw [ltC_list]
    exact q _ _ (.inl ⟨rfl, .bl _⟩)
theorem or_le : OpR X (compareOp .LtE) (r2 W .le) := by
  intro pins s σ H v w u t Q I rv rw' h
  obtain ⟨x, y, m, θ, z, cx, cy, e, q, mt⟩ := h
  cases x <;> cases y <;> first | (cases e; done) | skip
  · cases cx; cases cy; cases e
    exact op_le pins s σ H _ _ u t Q I rv rw' ⟨_, _, rfl, rfl, q _ _ (.inl ⟨rfl, .bl _⟩)⟩
  · cases cx; cases cy; cases e
    refine op_le_str pins s σ H _ _ u t Q I rv rw' ⟨_, _, rfl, rfl, ?_⟩
    rw [ltC_list]
    exact q _ _ (.inl ⟨rfl, .bl _⟩)
theorem or_ge : OpR X (compareOp .GtE) (r2 W .ge) := by
  intro pins s σ H v w u t Q I rv rw' h
  obtain ⟨x, y, m, θ, z, cx, cy, e, q, mt⟩ := h
  cases x <;> cases y <;> first | (cases e; done) | skip
  · cases cx; cases cy; cases e
    exact op_ge pins s σ H _ _ u t Q I rv rw' ⟨_, _, rfl, rfl, q _ _ (.inl ⟨rfl, .bl _⟩)⟩
  · cases cx; cases cy; cases e
    refine op_ge_str pins s σ H _ _ u t Q I rv rw' ⟨_, _, rfl, rfl, ?_⟩
    rw [ltC_list]
    exact q _ _ (.inl ⟨rfl, .bl _⟩)

/-! ### equality -/
mutual
def toPy : D → Option PyData
  | .non => some .none
  | .bl b => some (.bool b)
  | .int i => some (.int i)
  | .str x => some (.str x)
  | .tup xs => (toPys xs).map .tuple
  | .lst xs => (toPys xs).map .list
  | _ => none
def toPys : List D → Option (List PyData)
  | [] => some []
  | x :: xs => match toPy x, toPys xs with
    | some a, some b => some (a :: b)
    | _, _ => none
end
mutual
theorem toPy_ok : ∀ (n : Nat) (d : D), okD n d = true → ∃ p, toPy d = some p ∧ PyData.canLay0 p = true ∧ PyData.depth p ≤ n
  | _, .non, _ => ⟨_, rfl, rfl, Nat.zero_le _⟩
  | _, .bl b, _ => ⟨_, rfl, rfl, Nat.zero_le _⟩
  | _, .int i, _ => ⟨_, rfl, rfl, Nat.zero_le _⟩
  | n, .str x, h => ⟨_, rfl, by cases n <;> exact h, Nat.zero_le _⟩
  | 0, .tup xs, h => by simp [okD] at h
  | 0, .lst xs, h => by simp [okD] at h
  | n + 1, .tup xs, h => by
    obtain ⟨p, e, c, d⟩ := toPys_ok n xs (by simpa [okD] using h)
    exact ⟨.tuple p, by simp [toPy, e], c, Nat.succ_le_succ d⟩
  | n + 1, .lst xs, h => by
    obtain ⟨p, e, c, d⟩ := toPys_ok n xs (by simpa [okD] using h)
    exact ⟨.list p, by simp [toPy, e], c, Nat.succ_le_succ d⟩
  | n, .scr _, h => by cases n <;> simp [okD] at h
  | n, .dic _, h => by cases n <;> simp [okD] at h
  | n, .ty _, h => by cases n <;> simp [okD] at h
  | n, .fn _, h => by cases n <;> simp [okD] at h
  | n, .cls _, h => by cases n <;> simp [okD] at h
  | n, .obj _ _, h => by cases n <;> simp [okD] at h
  | n, .ref _, h => by cases n <;> simp [okD] at h
theorem toPys_ok : ∀ (n : Nat) (ds : List D), okDs n ds = true → ∃ p, toPys ds = some p ∧ PyData.canLayAll0 p = true ∧ PyData.depthAll p ≤ n
  | _, [], _ => ⟨_, rfl, rfl, Nat.zero_le _⟩
  | n, d :: ds, h => by
    simp only [okDs, Bool.and_eq_true] at h
    obtain ⟨p, e, c, k⟩ := toPy_ok n d h.1
    obtain ⟨ps, e', c', k'⟩ := toPys_ok n ds h.2
    refine ⟨p :: ps, by simp [toPys, e, e'], by simp [PyData.canLayAll0, c, c'], ?_⟩
    simp only [PyData.depthAll]
    exact Nat.max_le.mpr ⟨k, k'⟩
end
mutual
theorem eqv_of : ∀ (x y : D) (p q : PyData) (b : Bool), toPy x = some p → toPy y = some q → eqD x y = some b → PyData.eqv p q = b := by
  intro x y p q b hx hy he
  cases x <;> first | (simp [toPy] at hx; done) | skip
  all_goals (cases y <;> first | (simp [toPy] at hy; done) | (simp [eqD] at he; done) | skip)
  all_goals first
    | (simp only [toPy, Option.some.injEq] at hx hy; subst hx hy; simp only [eqD, Option.some.injEq] at he; subst he; rfl)
    | skip
  all_goals first
    | (simp only [toPy, Option.map_eq_some_iff] at hx hy
       obtain ⟨ps, e1, rfl⟩ := hx
       obtain ⟨qs, e2, rfl⟩ := hy
       simp only [eqD] at he
       first
         | exact eqvs_of _ _ ps qs b e1 e2 he
         | (simp only [Option.some.injEq] at he; subst he; rfl))
    | (simp only [toPy, Option.some.injEq, Option.map_eq_some_iff] at hx hy
       simp only [eqD, Option.some.injEq] at he
       first
         | (obtain ⟨ps, e1, rfl⟩ := hx; subst hy he; rfl)
         | (obtain ⟨qs, e2, rfl⟩ := hy; subst hx he; rfl))
theorem eqvs_of : ∀ (xs ys : List D) (ps qs : List PyData) (b : Bool), toPys xs = some ps → toPys ys = some qs → eqDs xs ys = some b → PyData.eqvAll ps qs = b
  | [], [], ps, qs, b, hx, hy, he => by
    simp only [toPys, Option.some.injEq] at hx hy
    subst hx hy
    simp only [eqDs, Option.some.injEq] at he
    subst he; rfl
  | [], y :: ys, ps, qs, b, hx, hy, he => by
    simp only [toPys, Option.some.injEq] at hx
    subst hx
    simp only [eqDs, Option.some.injEq] at he
    subst he
    simp only [toPys] at hy
    split at hy <;> cases hy
    rfl
  | x :: xs, [], ps, qs, b, hx, hy, he => by
    simp only [toPys, Option.some.injEq] at hy
    subst hy
    simp only [eqDs, Option.some.injEq] at he
    subst he
    simp only [toPys] at hx
    split at hx <;> cases hx
    rfl
  | x :: xs, y :: ys, ps, qs, b, hx, hy, he => by
    simp only [toPys] at hx hy
    split at hx <;> cases hx
    rename_i p ps' e1 e2
    split at hy <;> cases hy
    rename_i q qs' e3 e4
    simp only [eqDs] at he
    split at he <;> cases he
    rename_i c d e5 e6
    simp only [PyData.eqvAll]
    rw [eqv_of x y p q c e1 e3 e5, eqvs_of xs ys ps' qs' d e2 e4 e6]
end
mutual
theorem dp_of (hK : W.K = X.K) {m : Fb} {θ : List Addr} {H : Hp} : ∀ {d : D} {v : V} {p : PyData}, RepV W m θ H d v → toPy d = some p → Dp X.K H v p
  | _, _, _, .non, e => by cases e; exact .non
  | _, _, _, .bl b, e => by cases e; exact .bl b
  | _, _, _, .int i, e => by cases e; exact .int i
  | _, _, _, .str x, e => by cases e; exact .str x
  | _, _, _, .ty _, e => by cases e
  | _, _, _, .fn _, e => by cases e
  | _, _, _, .cls _, e => by cases e
  | _, _, _, .tup h rs, e => by
    simp only [toPy, Option.map_eq_some_iff] at e
    obtain ⟨ps, e, rfl⟩ := e
    exact .tup (h.elim (fun z => .inl z.1) (fun z => .inr (hK ▸ z))) (dps_of hK rs e)
  | _, _, _, .lst h n rs, e => by
    simp only [toPy, Option.map_eq_some_iff] at e
    obtain ⟨ps, e, rfl⟩ := e
    exact .lst (.of h) (dps_of hK rs e)
  | _, _, _, .scr _ _, e => by cases e
  | _, _, _, .obj _ _ _ _, e => by cases e
  | _, _, _, .ref _, e => by cases e
theorem dps_of (hK : W.K = X.K) {m : Fb} {θ : List Addr} {H : Hp} : ∀ {ds : List D} {vs : List V} {ps : List PyData}, RepVs W m θ H ds vs → toPys ds = some ps → DpAll X.K H vs ps
  | _, _, _, .nil, e => by cases e; exact .nil
  | _, _, _, .cons r rs, e => by
    simp only [toPys] at e
    split at e <;> cases e
    rename_i e1 e2
    exact .cons (dp_of hK r e1) (dps_of hK rs e2)
end
theorem cn_dp (hK : W.K = X.K) {m : Fb} {θ : List Addr} {H : Hp} {d : D} {v : V} {p : PyData} (c : Cn W m θ H d v) (e : toPy d = some p) : Dp X.K H v p := by
  cases d with
  | tup xs =>
    obtain ⟨a, vs, rfl, h, rs⟩ := c
    simp only [toPy, Option.map_eq_some_iff] at e
    obtain ⟨ps, e, rfl⟩ := e
    exact .tup (hK ▸ h) (dps_of hK rs e)
  | lst xs =>
    obtain ⟨a, vs, rfl, h, rs⟩ := c
    simp only [toPy, Option.map_eq_some_iff] at e
    obtain ⟨ps, e, rfl⟩ := e
    exact .lst (.of h) (dps_of hK rs e)
  | non => cases c; cases e; exact .non
  | bl _ => cases c; cases e; exact .bl _
  | int _ => cases c; cases e; exact .int _
  | str _ => cases c; cases e; exact .str _
  | _ => cases e
theorem shaped_of {p : PyData} (c : PyData.canLay0 p = true) (d : PyData.depth p ≤ 60) : SeqAt.shaped p = true := by
  unfold SeqAt.shaped
  rw [c, Bool.true_and]
  exact decide_eq_true (Nat.le_trans d (by decide))
theorem scal_of {m : Fb} {θ : List Addr} {H : Hp} {x y : D} {v w : V} {b : Bool} (cx : Cn W m θ H x v) (cy : Cn W m θ H y w) (e : scalEq x y = some b) : scal v w = true ∧ decide (v = w) = b := by
  cases x <;> cases y <;> first | (cases e; done) | skip
  all_goals (cases cx; cases cy; cases e; refine ⟨rfl, ?_⟩; first | rfl | (rw [Bool.eq_iff_iff]; simp))
theorem or_eq (hK : W.K = X.K) (hu : X.A.units + 64 < cLine) : OpR X (compareOp .Eq) (r2 W .eq) := by
  intro pins s σ H v w u t Q I rv rw' h
  obtain ⟨x, y, m, θ, z, cx, cy, e, q, mt⟩ := h
  simp only [op2, Option.map_eq_some_iff] at e
  obtain ⟨b, e, rfl⟩ := e
  unfold eqP at e
  split at e
  · rename_i b' e'
    cases e
    obtain ⟨h1, h2⟩ := scal_of cx cy e'
    refine op_eq pins s σ H _ _ u t Q I rv rw' ⟨h1, ?_⟩
    rw [h2]
    exact q _ _ (.inl ⟨rfl, .bl _⟩)
  · split at e
    · rename_i hk
      simp only [Bool.and_eq_true] at hk
      obtain ⟨p, e1, c1, d1⟩ := toPy_ok _ _ hk.1
      obtain ⟨p', e2, c2, d2⟩ := toPy_ok _ _ hk.2
      refine op_eqD hu pins s σ H _ _ u t Q I rv rw' ⟨p, p', cn_dp hK cx e1, cn_dp hK cy e2, shaped_of c1 d1, shaped_of c2 d2, ?_⟩
      rw [eqv_of _ _ _ _ _ e1 e2 e]
      exact q _ _ (.inl ⟨rfl, .bl _⟩)
    · cases e
theorem or_ne (hK : W.K = X.K) (hu : X.A.units + 64 < cLine) : OpR X (compareOp .NotEq) (r2 W .ne) := by
  intro pins s σ H v w u t Q I rv rw' h
  obtain ⟨x, y, m, θ, z, cx, cy, e, q, mt⟩ := h
  simp only [op2, Option.map_eq_some_iff] at e
  obtain ⟨b, e, rfl⟩ := e
  unfold eqP at e
  split at e
  · rename_i b' e'
    cases e
    obtain ⟨h1, h2⟩ := scal_of cx cy e'
    refine op_ne pins s σ H _ _ u t Q I rv rw' ⟨h1, ?_⟩
    rw [h2]
    exact q _ _ (.inl ⟨rfl, .bl _⟩)
  · split at e
    · rename_i hk
      simp only [Bool.and_eq_true] at hk
      obtain ⟨p, e1, c1, d1⟩ := toPy_ok _ _ hk.1
      obtain ⟨p', e2, c2, d2⟩ := toPy_ok _ _ hk.2
      refine op_neD hu pins s σ H _ _ u t Q I rv rw' ⟨p, p', cn_dp hK cx e1, cn_dp hK cy e2, shaped_of c1 d1, shaped_of c2 d2, ?_⟩
      rw [eqv_of _ _ _ _ _ e1 e2 e]
      exact q _ _ (.inl ⟨rfl, .bl _⟩)
    · cases e
end
end Pv
end

section
set_option Elab.async false
set_option linter.all false
set_option maxRecDepth 100000
set_option maxHeartbeats 4000000
/-! EvF: operators, further. -/
namespace Pv
open PySem PySem.Spec PyProof.Rows L2
section
variable {X : Cx} {W : Wr} {rp : D → Option Str}
theorem fold_rep (a : Array Nat) : ∀ (n : Nat) (b : Array Nat), (List.replicate n a).foldl (· ++ ·) b = ⟨b.toList ++ (List.replicate n a.toList).flatten⟩
  | 0, b => by simp
  | n + 1, b => by
    rw [List.replicate_succ, List.foldl_cons, fold_rep a n (b ++ a), List.replicate_succ, List.flatten_cons]
    simp
theorem or_mul (hK : W.K = X.K) : OpR X (binaryOp .Mult) (r2 W .mul) := by
  intro pins s σ H v w u t Q I rv rw' h
  obtain ⟨x, y, m, θ, z, cx, cy, e, q, mt⟩ := h
  cases x <;> cases y <;> first | (cases e; done) | skip
  · simp only [op2] at e
    split at e
    · rename_i hb
      cases cx; cases cy; cases e
      simp only [Bool.or_eq_true] at hb
      exact op_mul pins s σ H _ _ u t Q I rv rw' ⟨_, _, rfl, rfl, hb.imp big_iff big_iff, q _ _ (.inl ⟨rfl, .int _⟩)⟩
    · cases e
  · simp only [op2] at e
    split at e
    · rename_i hb
      cases cx; cases cy; cases e
      rename_i a b
      obtain ⟨h1, h2, h3, h4⟩ := hb
      obtain ⟨ta, rfl⟩ := rv
      obtain ⟨tb, rfl⟩ := rw'
      refine SB.mul (mulOk_of 16 1048576 h2 h4 (by omega) (by decide) (by decide)) fun t' k => ?_
      have e1 : Txt.mul a b = ⟨(List.replicate b.toNat a.cps.toList).flatten.toArray⟩ := by
        unfold Txt.mul
        rw [if_neg (by omega), if_neg]
        · rw [fold_rep]; simp
        · have n1 : (b == 1) = false := beq_eq_false_iff_ne.mpr (by omega)
          have n2 : (a.length == 0) = false := beq_eq_false_iff_ne.mpr (by omega)
          rw [n1, n2]; decide
      rw [e1]
      exact ⟨.str _, H, I.tok _, ⟨_, rfl⟩, q _ _ (.inl ⟨rfl, .str _⟩)⟩
    · cases e
  · simp only [op2] at e
    split at e
    · rename_i hb
      obtain ⟨a, vs, rfl, h, rs⟩ := cx
      cases cy; cases e
      obtain ⟨h1, h2, h3⟩ := hb
      refine op_rep pins s σ H _ _ u t Q I rv rw' ⟨a, _, vs, rfl, rfl, h, by omega, by omega, by rw [← LINE_eq, ← rs.length]; exact h2, fun p hp => q _ _ ⟨p, _, hp, rfl, rfl, rs.rep _⟩⟩
    · cases e
theorem or_band : OpR X (binaryOp .BitAnd) (r2 W .band) := by
  intro pins s σ H v w u t Q I rv rw' h
  obtain ⟨x, y, m, θ, z, cx, cy, e, q, mt⟩ := h
  simp only [op2] at e
  cases x <;> first | (cases e; done) | skip
  cases y <;> first | (cases e; done) | skip
  simp only at e
  split at e
  · rename_i hb
    obtain ⟨h1, rfl⟩ := hb
    cases cx; cases cy; cases e
    refine op_and pins s σ H _ _ u t Q I rv rw' ⟨_, _, rfl, rfl, ?_⟩
    have := Bits.bitAnd_mask (x := _) 1 h1
    rw [show (2 : Int) ^ 1 - 1 = 1 from rfl, show (2 : Int) ^ 1 = 2 from rfl] at this
    show Q (.int (Builtin.bitAnd _ 1)) H
    rw [this]
    exact q _ _ (.inl ⟨rfl, .int _⟩)
  · cases e
theorem eqV_of {m : Fb} {θ : List Addr} {H : Hp} {x y : D} {v w : V} {b : Bool} (hx : flat x = true) (hy : flat y = true) (rx : RepV W m θ H x v) (ry : RepV W m θ H y w) (e : eqD y x = some b) : eqV w v = b ∧ flatV v = true ∧ flatV w = true := by
  cases rx <;> first | (cases hx; done) | skip
  all_goals (cases ry <;> first | (cases hy; done) | skip)
  all_goals first
    | (simp only [eqD, Option.some.injEq] at e; subst e; exact ⟨rfl, rfl, rfl⟩)
    | (simp [eqD] at e; done)
theorem inV_of {m : Fb} {θ : List Addr} {H : Hp} {x : D} {v : V} (rx : RepV W m θ H x v) : ∀ {ys : List D} {ws : List V} {b : Bool}, RepVs W m θ H ys ws → inD x ys = some b → inV v ws = b ∧ ws.all flatV = true ∧ (ys ≠ [] → flatV v = true)
  | [], _, b, .nil, e => by simp only [inD, Option.some.injEq] at e; subst e; exact ⟨rfl, rfl, fun z => (z rfl).elim⟩
  | y :: ys, _, b, .cons r rs, e => by
    simp only [inD] at e
    split at e
    · rename_i hf
      simp only [Bool.and_eq_true] at hf
      split at e
      · rename_i c d e1 e2
        cases e
        obtain ⟨h1, h2, h3⟩ := eqV_of hf.1 hf.2 rx r e1
        obtain ⟨h4, h5, _⟩ := inV_of rx rs e2
        refine ⟨?_, ?_, fun _ => h2⟩
        · unfold inV at h4 ⊢
          rw [List.any_cons, h1, h4]
        · rw [List.all_cons, h3, h5]; rfl
      · cases e
    · cases e
theorem cn_rep {m : Fb} {θ : List Addr} {H : Hp} {x : D} {v : V} (hf : flat x = true) (c : Cn W m θ H x v) : RepV W m θ H x v := by
  cases x <;> first | (cases hf; done) | exact c
theorem inD_flat {x : D} {ys : List D} {b : Bool} (e : inD x ys = some b) (h : ys ≠ []) : flat x = true := by
  cases ys with
  | nil => exact (h rfl).elim
  | cons y ys =>
    simp only [inD] at e
    split at e
    · rename_i hf
      simp only [Bool.and_eq_true] at hf
      exact hf.1
    · cases e
theorem in_seq (hK : W.K = X.K) (neg : Bool) {op : CmpOp} (ho : OpR X (compareOp op) (rIn X.K neg)) {m : Fb} {θ : List Addr} {pins : List (Addr × Obj)} {s : Shared} {σ : L2.St} {H : Hp} {x : D} {v w : V} {u t : Value} {Q : VK} {ys : List D} {a : Addr} {vs : List V} {b : Bool} (I : Inv X pins σ H s) (rv : RelV v u) (rw' : RelV w t)
    (cx : Cn W m θ H x v) (hw : w = .ref a) (hs : SqL X.K H a vs ∨ SqT X.K H a vs) (rs : RepVs W m θ H ys vs) (e : inD x ys = some b) (hf : ys = [] → flatV v = true) (q : Q (.bl (if neg = true then !b else b)) H) :
    wpAny (model X.prog X.w) X.A (compareOp op u t) (EP X pins σ Q) X.xe s := by
  by_cases hy : ys = []
  · subst hy
    cases rs
    cases e
    exact ho pins s σ H _ _ u t Q I rv rw' ⟨a, [], hw, hs, hf rfl, rfl, q⟩
  · have rx := cn_rep (inD_flat e hy) cx
    obtain ⟨h1, h2, h3⟩ := inV_of rx rs e
    refine ho pins s σ H _ _ u t Q I rv rw' ⟨a, vs, hw, hs, h3 hy, h2, ?_⟩
    rw [h1]
    exact q
theorem flat_cn {m : Fb} {θ : List Addr} {H : Hp} {x : D} {v : V} (hf : flat x = true) (c : Cn W m θ H x v) : flatV v = true := by
  cases x <;> first | (cases hf; done) | (cases c; rfl)
theorem or_in (hK : W.K = X.K) : OpR X (compareOp .In) (r2 W .isin) := by
  intro pins s σ H v w u t Q I rv rw' h
  obtain ⟨x, y, m, θ, z, cx, cy, e, q, mt⟩ := h
  cases y <;> first | (cases e; done) | skip
  · simp only [op2] at e
    split at e
    · split at e
      · rename_i a _ c ec
        cases e; cases cx; cases cy
        refine op_in_sign pins s σ H _ _ u t Q I rv rw' ⟨c, _, ?_, rfl, q _ _ (.inl ⟨rfl, .bl _⟩)⟩
        congr 1
        cases a
        congr 1
        exact Array.toList_inj.mp ec
      · cases e
    · cases e
  · simp only [op2] at e
    split at e
    · rename_i hf
      simp only [Option.map_eq_some_iff] at e
      obtain ⟨b, e, rfl⟩ := e
      obtain ⟨a, vs, hw, h, rs⟩ := cy
      exact in_seq hK false op_in_seq I rv rw' cx hw (.inr (hK ▸ h)) rs e (fun _ => flat_cn hf cx) (q _ _ (.inl ⟨rfl, .bl _⟩))
    · cases e
  · simp only [op2] at e
    split at e
    · rename_i hf
      simp only [Option.map_eq_some_iff] at e
      obtain ⟨b, e, rfl⟩ := e
      obtain ⟨a, vs, hw, h, rs⟩ := cy
      exact in_seq hK false op_in_seq I rv rw' cx hw (.inl (.of h)) rs e (fun _ => flat_cn hf cx) (q _ _ (.inl ⟨rfl, .bl _⟩))
    · cases e
theorem or_notin (hK : W.K = X.K) : OpR X (compareOp .NotIn) (r2 W .notin) := by
  intro pins s σ H v w u t Q I rv rw' h
  obtain ⟨x, y, m, θ, z, cx, cy, e, q, mt⟩ := h
  cases y <;> first | (cases e; done) | skip
  · simp only [op2] at e
    split at e
    · rename_i hf
      simp only [Option.map_eq_some_iff] at e
      obtain ⟨b, e, rfl⟩ := e
      obtain ⟨a, vs, hw, h, rs⟩ := cy
      exact in_seq hK true op_notIn_seq I rv rw' cx hw (.inr (hK ▸ h)) rs e (fun _ => flat_cn hf cx) (q _ _ (.inl ⟨rfl, .bl _⟩))
    · cases e
  · simp only [op2] at e
    split at e
    · rename_i hf
      simp only [Option.map_eq_some_iff] at e
      obtain ⟨b, e, rfl⟩ := e
      obtain ⟨a, vs, hw, h, rs⟩ := cy
      exact in_seq hK true op_notIn_seq I rv rw' cx hw (.inl (.of h)) rs e (fun _ => flat_cn hf cx) (q _ _ (.inl ⟨rfl, .bl _⟩))
    · cases e
theorem place_ix (n : Nat) (i : Int) : place n i = ixN n i := rfl
theorem at_of {m : Fb} {θ : List Addr} {H : Hp} {xs : List D} {vs : List V} {i : Int} {d : D} (rs : RepVs W m θ H xs vs) (e : ((place xs.length i).bind fun k => xs[k]?) = some d) : ∃ v, atI vs i = some v ∧ RepV W m θ H d v := by
  simp only [Option.bind_eq_some_iff] at e
  obtain ⟨k, e1, e2⟩ := e
  obtain ⟨v, h1, h2⟩ := rs.get e2
  refine ⟨v, ?_, h2⟩
  unfold atI
  rw [← rs.length, ← place_ix, e1]
  exact h1
theorem ir_idx (hK : W.K = X.K) : IxR X (r2 W .idx) := by
  intro value slice pins s σ H v w u t Q I rv rw' h hp
  obtain ⟨x, y, m, θ, z, cx, cy, e, q, mt⟩ := h
  cases y <;> first | (cases e; done) | skip
  cases cy
  simp only [op2] at e
  cases x <;> first | (cases e; done) | skip
  · simp only at e
    split at e
    · rename_i hl
      simp only [Option.map_eq_some_iff] at e
      obtain ⟨c, e, rfl⟩ := e
      cases cx
      refine ix_str value slice pins s σ H _ _ u t Q I rv rw' ⟨_, _, c, rfl, rfl, by rw [← LINE_eq]; exact hl, ?_, q _ _ (.inl ⟨rfl, .str _⟩)⟩ hp
      unfold atI
      rw [← place_ix]
      exact e
    · cases e
  · simp only [Option.map_eq_some_iff] at e
    obtain ⟨d, e, rfl⟩ := e
    obtain ⟨a, vs, rfl, h, rs⟩ := cx
    obtain ⟨w', h1, h2⟩ := at_of rs e
    exact ix_tup value slice pins s σ H _ _ u t Q I rv rw' ⟨a, vs, _, w', rfl, rfl, hK ▸ h, h1, q _ _ (.inl ⟨rfl, h2⟩)⟩ hp
  · simp only [Option.map_eq_some_iff] at e
    obtain ⟨d, e, rfl⟩ := e
    obtain ⟨a, vs, rfl, h, rs⟩ := cx
    obtain ⟨w', h1, h2⟩ := at_of rs e
    exact ix_list value slice pins s σ H _ _ u t Q I rv rw' ⟨a, vs, _, w', rfl, rfl, .of h, h1, q _ _ (.inl ⟨rfl, h2⟩)⟩ hp
  · simp only [Option.map_eq_some_iff] at e
    obtain ⟨d, e, rfl⟩ := e
    obtain ⟨a, vs, rfl, h, rs⟩ := cx
    obtain ⟨w', h1, h2⟩ := at_of rs e
    exact ix_list value slice pins s σ H _ _ u t Q I rv rw' ⟨a, vs, _, w', rfl, rfl, hK ▸ h, h1, q _ _ (.inl ⟨rfl, h2⟩)⟩ hp
/-- slices -/
theorem cut_eq {α : Type} (xs : List α) (lo hi : Option Int) : cut xs lo hi = List.take (HT.sIx xs.length xs.length hi - HT.sIx xs.length 0 lo) (List.drop (HT.sIx xs.length 0 lo) xs) := by
  unfold cut
  simp only
  rw [List.drop_take]
  congr 1
  · cases lo <;> cases hi <;> simp [HT.sIx, clip]
  · cases lo <;> simp [HT.sIx, clip]
def rS (W : Wr) : V → Option Int → Option Int → Hp → VK → Prop := fun v lo hi H Q => ∃ x m θ z l h, Cn W m θ H x v ∧ bound l = some lo ∧ bound h = some hi ∧ sliceD x l h = some z ∧ (∀ w H', R1 W m θ H z w H' → Q w H') ∧ ∀ a, m a → ∃ o, H a = some o ∧ MutT (some o)
theorem RepVs.cut {m : Fb} {θ : List Addr} {H : Hp} {ds : List D} {vs : List V} (rs : RepVs W m θ H ds vs) (lo hi : Option Int) : RepVs W m θ H (cut ds lo hi) (cutV vs lo hi) := by
  rw [cut_eq]
  unfold cutV
  rw [rs.length]
  exact (rs.drop _).take _
theorem cut_whole {α : Type} (xs : List α) (lo hi : Option Int) (h : HT.sIx xs.length 0 lo = 0 ∧ HT.sIx xs.length xs.length hi = xs.length) : cut xs lo hi = xs := by
  rw [cut_eq, h.1, h.2]
  simp
theorem sl_any (hK : W.K = X.K) : SlR X (rS W) := by
  intro pins s σ H v u vl vu lo hi sl Q I rv hs pl pu h
  obtain ⟨x, m, θ, z, l, h, c, bl, bh, e, q, mt⟩ := h
  unfold sliceD at e
  rw [bl, bh] at e
  simp only at e
  cases x <;> first | (cases e; done) | skip
  · simp only at e
    split at e
    · rename_i hl
      cases e; cases c
      refine sl_str pins s σ H _ u vl vu lo hi sl Q I rv hs pl pu ⟨_, rfl, by rw [← LINE_eq]; exact hl, ?_⟩
      unfold cutS
      have := cut_eq (‹Str›.cps.toList) lo hi
      rw [Array.length_toList] at this
      have q' := q (.str _) H (.inl ⟨rfl, .str _⟩)
      rw [this] at q'
      exact q'
    · cases e
  · cases e
    obtain ⟨a, vs, rfl, h, rs⟩ := c
    refine sl_tupA pins s σ H _ u vl vu lo hi sl Q I rv hs pl pu ⟨a, vs, rfl, hK ▸ h, fun hw => ?_, fun _ p hp => q _ _ (.inr ⟨p, _, _, rfl, hp, rfl, rfl, rs.cut lo hi⟩)⟩
    rw [← rs.length] at hw
    have q' := q (.ref a) H
    rw [cut_whole _ _ _ hw] at q'
    exact q' (.inl ⟨rfl, tup_rep mt h rs⟩)
  · cases e
    obtain ⟨a, vs, rfl, h, rs⟩ := c
    exact sl_list pins s σ H _ u vl vu lo hi sl Q I rv hs pl pu ⟨a, vs, rfl, .of h, fun p hp => q _ _ ⟨p, _, hp, rfl, rfl, rs.cut lo hi⟩⟩
  · cases e
    obtain ⟨a, vs, rfl, h, rs⟩ := c
    exact sl_list pins s σ H _ u vl vu lo hi sl Q I rv hs pl pu ⟨a, vs, rfl, hK ▸ h, fun p hp => q _ _ ⟨p, _, hp, rfl, rfl, rs.cut lo hi⟩⟩
theorem or_is : OpR X (compareOp .Is) (r2 W .is) := by
  intro pins s σ H v w u t Q I rv rw' h
  obtain ⟨x, y, m, θ, z, cx, cy, e, q, mt⟩ := h
  simp only [op2, Option.map_eq_some_iff] at e
  obtain ⟨b, e, rfl⟩ := e
  cases x <;> cases y <;> first | (cases e; done) | skip
  cases cx; cases cy; cases e
  refine op_isBl pins s σ H _ _ u t Q I rv rw' ⟨_, _, rfl, rfl, ?_⟩
  rw [← Bool.beq_eq_decide_eq]
  exact q _ _ (.inl ⟨rfl, .bl _⟩)
theorem or_isnot : OpR X (compareOp .IsNot) (r2 W .isnot) := by
  intro pins s σ H v w u t Q I rv rw' h
  obtain ⟨x, y, m, θ, z, cx, cy, e, q, mt⟩ := h
  simp only [op2, Option.map_eq_some_iff] at e
  obtain ⟨b, e, rfl⟩ := e
  cases x <;> cases y <;> first | (cases e; done) | skip
  cases cx; cases cy; cases e
  refine op_notBl pins s σ H _ _ u t Q I rv rw' ⟨_, _, rfl, rfl, ?_⟩
  rw [← Bool.beq_eq_decide_eq]
  exact q _ _ (.inl ⟨rfl, .bl _⟩)
/-- two arguments -/
def r2l (W : Wr) (o : O2) : List V → Hp → VK → Prop := fun vs H Q => ∃ v w, vs = [v, w] ∧ r2 W o v w H Q
theorem cr_min2 (hc : X.calm = true) : CallR X (.builtin "min") (r2l W .min) := by
  intro pins s σ H xs us Q I rv h
  obtain ⟨v, w, rfl, x, y, m, θ, z, cx, cy, e, q, mt⟩ := h
  cases x <;> cases y <;> first | (cases e; done) | skip
  cases cx; cases cy; cases e
  exact call_min2 hc pins s σ H _ us Q I rv ⟨_, _, rfl, q _ _ (.inl ⟨rfl, .int _⟩)⟩
theorem cr_max2 (hc : X.calm = true) : CallR X (.builtin "max") (r2l W .max) := by
  intro pins s σ H xs us Q I rv h
  obtain ⟨v, w, rfl, x, y, m, θ, z, cx, cy, e, q, mt⟩ := h
  cases x <;> cases y <;> first | (cases e; done) | skip
  cases cx; cases cy; cases e
  exact call_max2 hc pins s σ H _ us Q I rv ⟨_, _, rfl, q _ _ (.inl ⟨rfl, .int _⟩)⟩
theorem cr_divmod : CallR X (.builtin "divmod") (r2l W .divmod) := by
  intro pins s σ H xs us Q I rv h
  obtain ⟨v, w, rfl, x, y, m, θ, z, cx, cy, e, q, mt⟩ := h
  cases x <;> cases y <;> first | (cases e; done) | skip
  simp only [op2] at e
  split at e
  · rename_i hb
    cases cx; cases cy; cases e
    exact call_divmod pins s σ H _ us Q I rv ⟨_, _, rfl, hb, fun p hp => q _ _ (.inr ⟨p, _, _, rfl, hp, rfl, rfl, .cons (.int _) (.cons (.int _) .nil)⟩)⟩
  · cases e
/-- what a class of one's own is in the written part -/
structure CF (K : PySem.W.Frag) (C : Addr) : Prop where
  cls : Cls K C
  ha : PySem.W.findIn K (.ref C) "__class__" = some (some (.builtin "object.__class__"))
  hn : PySem.W.specialIn K (.builtin "object.__class__") "__get__" = some (some (.builtin "getset_descriptor.__get__"))
  hk : PySem.W.takesIn K (.builtin "object.__class__") = some true
  hm : PySem.W.mroIn K C (.type "object") = some true
theorem cr_isinst (hK : W.K = X.K) (hC : ∀ c, CF W.K (W.ca c)) : CallR X (.builtin "isinstance") (r2l W .isinst) := by
  intro pins s σ H xs us Q I rv h
  obtain ⟨v, w, rfl, x, y, m, θ, z, cx, cy, e, q, mt⟩ := h
  cases y <;> first | (cases e; done) | skip
  case cls c =>
    cases cy
    cases x <;> first | (cases e; done) | skip
    simp only [op2] at e
    split at e
    · rename_i hc
      cases e
      subst hc
      obtain ⟨a, dx, vfs, rfl, h, _, _⟩ := cx
      have C : ∀ c, CF X.K (W.ca c) := fun c => hK ▸ hC c
      refine call_isi pins s σ H _ us Q I rv ⟨.ref a, .ref (W.ca _), .ref (W.ca _), .ref (W.ca _), true, rfl, .own _, .base (.ins h (C _).cls (C _).ha (C 0).hn (C 0).hk (C _).hm), ?_, q _ _ (.inl ⟨rfl, .bl _⟩)⟩
      unfold PySem.W.kitOne
      rw [if_pos (by simp)]
    · cases e
  cases cy
  rename_i n
  have ck : ClsV (.ty n) (.type n) := .ty n
  have go : ∀ (t : Value) (b : Bool), TyX X.K H v t → PySem.W.kitOne X.K t (.type n) = some b → Q (.bl b) H → wpAny (model X.prog X.w) X.A (call (.builtin "isinstance") us) (EP X pins σ Q) X.xe s := fun t b h1 h2 h3 =>
    call_isi pins s σ H _ us Q I rv ⟨v, .ty n, t, .type n, b, rfl, ck, h1, h2, h3⟩
  cases hn : tyOf n with
  | none => simp only [op2, hn] at e; cases e
  | some t =>
    simp only [op2, hn, Option.map_eq_some_iff] at e
    obtain ⟨b, e, rfl⟩ := e
    have hq := q _ _ (.inl ⟨rfl, .bl b⟩)
    have en : n = t.name := by
      unfold tyOf at hn
      split at hn
      · cases hn; assumption
      · split at hn
        · cases hn; assumption
        · split at hn
          · cases hn; assumption
          · split at hn
            · cases hn; assumption
            · split at hn
              · cases hn; assumption
              · cases hn
    subst en
    cases x <;> first | (cases e; done) | skip
    · cases cx
      refine go _ b (.base .non) ?_ hq
      cases e
      cases t <;> exact kit_ty (by decide +kernel)
    · cases cx
      refine go _ b (.base (.bl _)) ?_ hq
      cases e
      cases t <;> exact kit_ty (by decide +kernel)
    · cases cx
      refine go _ b (.base (.int _)) ?_ hq
      cases e
      cases t <;> exact kit_ty (by decide +kernel)
    · cases cx
      refine go _ b (.base (.str _)) ?_ hq
      cases e
      cases t <;> exact kit_ty (by decide +kernel)
    · obtain ⟨a, vs, rfl, h, rs⟩ := cx
      have ty : TyX X.K H (.ref a) (.type "tuple") := by
        rcases h with (h | ⟨o, h⟩) | ⟨o, its, k, h, hc, _⟩
        · exact .base (.tup h)
        · exact .fTuple h
        · exact .kTuple (hK ▸ h) hc
      refine go _ b ty ?_ hq
      cases e
      cases t <;> exact kit_ty (by decide +kernel)
    · obtain ⟨a, vs, rfl, h, rs⟩ := cx
      refine go _ b (.base (.lst h)) ?_ hq
      cases e
      cases t <;> exact kit_ty (by decide +kernel)
end
end Pv
end

section
set_option Elab.async false
set_option linter.all false
/-! EvG: from the program's text to the small language. -/
namespace Pv
open PySem

/-- what is known where a text stands: the slots' names, the scope, what may be stored, the module's names -/
structure CE where
  N : List Str
  sc : Scope
  sto : Str → Bool
  con : Str → Option D
  fns : Str → Option Nat
  cls : Str → Option Nat
  prom : Str → Bool
  par : Nat → Option (List Str)
  fld : Str → Bool
  fx : List Nat
  tab : Option Nat := none
  tnm : Nat → Nat → Nat → Str := fun _ _ _ => ""
  qual : Str := ""
def ixOf : List Str → Str → Option Nat
  | [], _ => none
  | y :: r, x => if y = x then some 0 else (ixOf r x).map (· + 1)
def CE.isSlot (c : CE) (x : Str) : Bool := match c.sc.names.lookup x with
  | some .local | some .cell | some .free => true
  | _ => false
def CE.isGl (c : CE) (x : Str) : Bool := match c.sc.names.lookup x with
  | some .globalImplicit => true
  | _ => false
def oddName (x : Str) : Bool := x == ("__debug__" : Str) || x == ("__classdict__" : Str) || x == ("__name__" : Str)
def slotOf (c : CE) (x : Str) : Option Nat := if c.isSlot x && !oddName x then ixOf c.N x else none
/-- a built-in's name -/
def isBl (c : CE) (x y : Str) : Bool := x == y && c.isGl x
def binOf : Operator → Option O2
  | .Add => some .add | .Sub => some .sub | .Mult => some .mul | .FloorDiv => some .fdiv | .Mod => some .mod | .Pow => some .pow | .RShift => some .shr | .BitAnd => some .band
  | _ => none
def cmpOf : CmpOp → Option O2
  | .Eq => some .eq | .NotEq => some .ne | .Lt => some .lt | .LtE => some .le | .Gt => some .gt | .GtE => some .ge | .In => some .isin | .NotIn => some .notin | .Is => some .is | .IsNot => some .isnot
def bl1 (c : CE) (x : Str) : Option O1 :=
  if isBl c x "len" then some .len else if isBl c x "sum" then some .sum else if isBl c x "max" then some .max else if isBl c x "min" then some .min
  else if isBl c x "sorted" then some .sorted else if isBl c x "any" then some .any else if isBl c x "all" then some .all else if isBl c x "abs" then some .abs
  else if isBl c x "int" then some .int else if isBl c x "tuple" then some .tuple else if isBl c x "repr" then some .repr else if isBl c x "list" then some .list else none
def bl2 (c : CE) (x : Str) : Option O2 :=
  if isBl c x "max" then some .max else if isBl c x "min" then some .min else if isBl c x "divmod" then some .divmod else if isBl c x "isinstance" then some .isinst else none
def noStar : PySem.Expr → Bool
  | .Starred .. => false
  | _ => true
def notSet : PySem.Expr → Bool
  | .Set .. => false
  | _ => true
def notSlice : PySem.Expr → Bool
  | .Slice .. => false
  | _ => true
def kwOk (kws : List Keyword) : Bool := kws.all (·.arg.isSome)
/-- a test that is read as a test -/
def notIf : PySem.Expr → Bool
  | .IfExp .. => false
  | _ => true
def isTup : PySem.Expr → Bool
  | .Tuple .. => true
  | _ => false
def notCall : PySem.Expr → Bool
  | .Call .. => false
  | _ => true
/-- a comprehension's own names with their slots -/
def ownOf (N : List Str) (sc : Scope) : Option (List (Str × Nat)) := some ((sc.names.filter fun y => y.2 == .local || y.2 == .cell).filterMap fun y => (ixOf N y.1).map fun i => (y.1, i))
def CE.block (c : CE) (sc : Scope) : CE := { c with tab := none, sc := L2.relS sc c.sc, sto := fun x => sc.names.lookup x == some .local || sc.names.lookup x == some .cell }
def sub1 (c : CE) (x : Str) : Option Ty := if isBl c x "int" then some .int else if isBl c x "bool" then some .bool else if isBl c x "str" then some .str else if isBl c x "tuple" then some .tuple else if isBl c x "list" then some .list else none

def unstar : PySem.Expr → PySem.Expr
  | .Starred t _ => t
  | e => e
def isStarE : PySem.Expr → Bool
  | .Starred .. => true
  | _ => false
/-- what stands around the first star -/
def splitStar : List PySem.Expr → Option (List PySem.Expr × PySem.Expr × Pos × List PySem.Expr)
  | [] => none
  | .Starred t p :: r => some ([], t, p, r)
  | e :: r => (splitStar r).map fun x => (e :: x.1, x.2)
theorem splitStar_eq : ∀ {es pre post : List PySem.Expr} {t : PySem.Expr} {p : Pos}, splitStar es = some (pre, t, p, post) → es = pre ++ .Starred t p :: post
  | [], _, _, _, _, h => by cases h
  | e :: r, pre, post, t, p, h => by
    unfold splitStar at h
    split at h
    · rename_i q; cases q
    · rename_i q; cases q; cases h; rfl
    · rename_i _ q; cases q
      simp only [Option.map_eq_some_iff] at h
      obtain ⟨⟨pre', x⟩, h1, h2⟩ := h
      cases h2
      rw [splitStar_eq h1]; rfl
/-- keywords in any order: their places -/
def kwIx (ps ks : List Str) : List Nat := ps.map fun p => (ks.findIdx? (· == p)).getD 0
def kwAny (ps ks : List Str) : Bool := decide (ks.length = ps.length) && (decide ks.Nodup && (decide (∀ k ∈ ks, k ∈ ps) && decide (permA (kwIx ps ks) ks = some ps)))
def inOwn (t : T) (own : List (Str × Nat)) : Bool := (tSlots t).all fun j => (own.map (·.2)).contains j
/-- new objects that a def changes are put into the store -/
def wrapP (c : CE) : List Str → List PySem.Expr → List E → List E
  | p :: ps, e :: es, a :: as => (if c.prom p && !notCall e then .prom a else a) :: wrapP c ps es as
  | _, _, as => as
/-- a lambda's names -/
def frees (sc : Scope) : List Str := sc.names.filterMap fun y => if y.2 = .free then some y.1 else none
def lamN (p : Arguments) (sc : Scope) : List Str := parNames p ++ frees sc ++ sc.names.filterMap fun y => if y.2 = .local ∧ y.1 ∉ parNames p then some y.1 else none
/-- the names in a lambda's body -/
def CE.lam (c : CE) (N : List Str) (scope : Scope) : CE := { c with N := N, sc := scope, fx := [], tab := none, qual := "", sto := fun x => scope.names.lookup x == some .local || scope.names.lookup x == some .cell }
/-- arguments, a lambda the last of them -/
def lamOf : List PySem.Expr → Option (List PySem.Expr × Arguments × PySem.Expr × Scope × Pos)
  | [] => none
  | [.Lambda params body scope pos] => some ([], params, body, scope, pos)
  | e :: r => (lamOf r).map fun x => (e :: x.1, x.2)
def lamOk (c : CE) (t : Nat) (params : Arguments) (scope : Scope) (pos : Pos) : Bool := plainArgs params && NdefX.nscB (lamN params scope) (parNames params) (frees scope) scope && (frees scope).all (fun y => (c.sc.names.lookup y == some .cell) && c.sto y) && decide (c.tnm t pos.line pos.col = c.qual ++ "<lambda>")
mutual
def cE (c : CE) : Nat → PySem.Expr → Option E
  | 0, _ => none
  | n + 1, e => match e with
    | .Name x _ => match slotOf c x with
      | some i => some (if c.prom x then .slotP i else .slot i)
      | none => if c.isGl x && !oddName x then match sub1 c x with
          | some t => some (.const (.ty t.name))
          | none => (c.con x).map .const
        else none
    | .Constant k _ _ => match k with
      | .none => some (.const .non)
      | .bool b => some (.const (.bl b))
      | .int i => some (.const (.int i))
      | .str x => some (.const (.str x))
      | _ => none
    | .BinOp a op b _ => match binOf op, cO c n a, cO c n b with
      | some o, some x, some y => some (.o2 o x y)
      | _, _, _ => none
    | .UnaryOp op a _ => match op, cO c n a with
      | .Not, some x => if notIf a then some (.not x) else none
      | .USub, some x => some (.o1 .neg x)
      | _, _ => none
    | .BoolOp op vs pos => match vs with
      | [a] => if notIf a then cE c n a else none
      | a :: b :: r => if notIf a then match op, cE c n a, cE c n (.BoolOp op (b :: r) pos) with
        | .And, some x, some y => some (.and x y)
        | .Or, some x, some y => some (.or x y)
        | _, _, _ => none
        else none
      | [] => none
    | .Compare a ops bs _ => match ops, bs with
      | [op], [b] => match op, b with
        | .Is, .Constant .none _ _ => (cO c n a).map (.o1 .isN)
        | .IsNot, .Constant .none _ _ => (cO c n a).map (.o1 .notN)
        | op, b => if notSet b then match cmpOf op, cO c n a, cO c n b with
            | some o, some x, some y => some (.o2 o x y)
            | _, _, _ => none
          else none
      | [op, op'], [b, d] => if notSet b && notSet d then match cmpOf op, cmpOf op', cO c n a, cO c n b, cO c n d with
          | some o, some o', some x, some y, some z => some (.chain o o' x y z)
          | _, _, _, _, _ => none
        else none
      | _, _ => none
    | .IfExp t a b _ => if notIf t then match cO c n t, cE c n a, cE c n b with
      | some x, some y, some z => some (.ite x y z)
      | _, _, _ => none
      else none
    | .Tuple es _ _ => if es.all noStar then (es.mapM (cE c n)).map .tup else match es with
      | [.Starred t _, b] => if noStar b then match cO c n t, cE c n b with
          | some x, some y => some (.tupS1 x [y])
          | _, _ => none
        else none
      | [a, .Starred t _] => if noStar a then match cE c n a, cO c n t with
          | some x, some y => some (.tupS [x] y)
          | _, _ => none
        else none
      | es => match splitStar es with
        | some (pre, t, _, post) => if pre.all noStar && post.all noStar then match pre.mapM (cE c n), cO c n t, post.mapM (cE c n) with
            | some xs, some y, some zs => some (.tupM xs y zs)
            | _, _, _ => none
          else none
        | none => none
    | .List es _ => if es.all noStar then (es.mapM (cE c n)).map .lst else none
    | .Subscript a s _ => match s with
      | .Slice lo hi none _ => match cO c n a, cP c n lo, cP c n hi with
        | some x, some y, some z => some (.slice x y z)
        | _, _, _ => none
      | .Slice .. => none
      | s => match cO c n a, cO c n s with
        | some x, some y => some (.o2 .idx x y)
        | _, _ => none
    | .Attribute a f _ => if notCall a && c.fld f then (cO c n a).map fun x => .attr x f else none
    | .Call f as ks _ => match f, ks with
      | .Name x _, [] => if oddName x then none else match as with
        | [a] => if !noStar a then none else match (if isBl c x "sorted" then setArg c a else none) with
          | some a' => (cO c n a').map (.o1 .sortedSet)
          | none => match bl1 c x with
            | some o => (cO c n a).map (.o1 o)
            | none => cCall c n x [a]
        | [a, b] => match bl2 c x with
          | some o => if noStar a && noStar b then match cO c n a, cO c n b with
              | some y, some z => some (.o2 o y z)
              | _, _ => none
            else none
          | none => cCall c n x [a, b]
        | as => cCall c n x as
      | .Name x _, kw :: kws => if !oddName x && c.isGl x && as.all noStar && kwOk (kw :: kws) then match c.fns x with
          | some f => match c.par f, as.mapM (cE c n), (kw :: kws).mapM (fun k => cE c n k.value) with
            | some ps, some xs, some ys => if (kw :: kws).filterMap (·.arg) = ps.drop as.length ∧ ps.Nodup ∧ as.length ≤ ps.length then some (.call f ((xs ++ ys).map .e)) else if as.isEmpty && kwAny ps ((kw :: kws).filterMap (·.arg)) then some (.callK f (ys.map .e) (kwIx ps ((kw :: kws).filterMap (·.arg)))) else none
            | _, _, _ => none
          | none => none
        else none
      | _, _ => none
    | .ListComp elt gens scope _ => match gens with
      | [⟨t, it, ifs, 0⟩] => match ownOf c.N scope with
        | some own => if L2.blkC c.N c.sc scope own && notSet it then
            match cT (c.block scope) n t, cI c n t it, ifs with
            | some t', some it', [] => if inOwn t' own then (cE (c.block scope) n elt).map fun x => .comp (own.map (·.2)) t' it' [] x else none
            | some t', some it', [i] => if !(inOwn t' own && notIf i) then none else match cO (c.block scope) n i, cE (c.block scope) n elt with
              | some i', some x => some (.comp (own.map (·.2)) t' it' [i'] x)
              | _, _ => none
            | _, _, _ => none
          else none
        | none => none
      | _ => none
    | .DictComp k v gens scope _ => match gens with
      | [⟨t, it, ifs, 0⟩] => match ownOf c.N scope with
        | some own => if L2.blkC c.N c.sc scope own && notSet it then
            match cT (c.block scope) n t, cI c n t it, ifs, cE (c.block scope) n k, cE (c.block scope) n v with
            | some t', some it', [], some k', some v' => if inOwn t' own then some (.dcomp (own.map (·.2)) t' it' [] k' v') else none
            | _, _, _, _, _ => none
          else none
        | none => none
      | _ => none
    | _ => none
/-- an operand -/
def cO (c : CE) : Nat → PySem.Expr → Option E
  | 0, _ => none
  | n + 1, e => match e with
    | .Name x p => match slotOf c x with
      | some i => some (.slotB i)
      | none => cE c n (.Name x p)
    | e => cE c n e
/-- a part of a slice -/
def cP (c : CE) : Nat → Option PySem.Expr → Option E
  | 0, _ => none
  | _ + 1, none => some (.const .non)
  | n + 1, some e => match cE c n e with
    | some a => if isNon a then none else some a
    | none => none
/-- a call of a def of the module, or of a local one -/
def cCall (c : CE) : Nat → Str → List PySem.Expr → Option E
  | 0, _, _ => none
  | n + 1, x, as => if as.all noStar && !oddName x then match slotOf c x with
      | some i => (as.mapM (cE c n)).map fun xs => .callv i (xs.map .e)
      | none => if c.isGl x then match c.fns x with
          | some f => match lamOf as with
            | some (es, params, body, scope, pos) => match c.tab with
              | some t => if lamOk c t params scope pos then match es.mapM (cE c n), cE (c.lam (lamN params scope) scope) n body, (frees scope).mapM (ixOf c.N) with
                  | some xs, some b, some caps => some (.call f (xs.map .e ++ [.lam (parNames params).length (lamN params scope).length b caps t]))
                  | _, _, _ => none
                else none
              | none => none
            | none => (as.mapM (cE c n)).map fun xs => .call f ((wrapP c ((c.par f).getD []) as xs).map .e)
          | none => match c.cls x with
            | some k => (as.mapM (cE c n)).map fun xs => .new k (xs.map .e)
            | none => none
        else none
    else none
/-- what is walked -/
def cI (c : CE) : Nat → PySem.Expr → PySem.Expr → Option It
  | 0, _, _ => none
  | n + 1, t, e => match e with
    | .Call (.Name x p) as [] pos => if !(as.all noStar) then none
      else if isBl c x "range" then match as.mapM (cE c n) with
        | some xs => if xs.length == 1 || xs.length == 2 || xs.length == 3 then some (.range xs) else none
        | none => none
      else if isBl c x "zip" then match as.mapM (cE c n) with
        | some [y, z] => if isTup t then some (.zip y z) else none
        | _ => none
      else if isBl c x "enumerate" then match as.mapM (cE c n) with
        | some [y] => if isTup t then some (.enum y) else none
        | _ => none
      else (cE c n (.Call (.Name x p) as [] pos)).map .seq
    | e => (cE c n e).map .seq
/-- a target -/
def cT (c : CE) : Nat → PySem.Expr → Option T
  | 0, _ => none
  | n + 1, e => match e with
    | .Name x _ => if c.sto x then (slotOf c x).map .slot else none
    | .Tuple es _ _ => if es.all noStar then (es.mapM (cT c n)).map .tup else if (es.map unstar).all noStar then match es.findIdx? isStarE, (es.map unstar).mapM (cT c n) with
        | some k, some ts => some (.star ts k)
        | _, _ => none
      else none
    | .Subscript o i _ => match o with
      | .Name x _ => if notSlice i then match slotOf c x, cE c n i with
        | some j, some i' => some (.sub j i')
        | _, _ => none
        else none
      | _ => none
    | _ => none
/-- set(a) -/
def setArg (c : CE) : PySem.Expr → Option PySem.Expr
  | .Call (.Name x _) [a] [] _ => if isBl c x "set" && noStar a then some a else none
  | _ => none
end
end Pv
end

section
set_option Elab.async false
set_option linter.all false
set_option maxRecDepth 100000
set_option maxHeartbeats 4000000
/-! EvH: expressions: what each form asks, from its parts. -/
namespace Pv
open PySem PySem.Spec PyProof.Rows L2

/-- an operand's reading -/
def tO (W : Wr) (g : G) (a : E) : TE := match isBor a with
  | some i => tVar i
  | none => tE W (ev g a)
section
variable {W : Wr} {g : G} {F : Fb} {θ θ' : List Addr} {s s' : S} {σ : L2.St} {H H' : Hp} {m0 : Fb} {θ0 : List Addr} {H0 : Hp}

theorem rdB_some {i : Nat} {x : D} (R : Rep W F θ s σ H) (e : rdB s i = some x) : ∃ v, σ[i]? = some (some v) := by
  unfold rdB at e
  cases q : getN s.ρ i with
  | no => rw [q] at e; cases e
  | clo f c => rw [q] at e; cases e
  | val y => obtain ⟨v, h, _⟩ := R.val q; exact ⟨v, h⟩
  | own o => obtain ⟨a, h, _⟩ := R.own q; exact ⟨_, h⟩
theorem opd_bind {α : Type} {a : E} {k : D → S → Out α} {P : α → S → Prop} {R' : VK} (R : Rep W F θ s σ H) (h : OkP P ((opd a (ev g a) s).bind k))
    (hk : ∀ x s' v H' θ', Rep W F θ' s' σ H' → Keep (M0 θ s.ρ σ) θ H (M0 θ' s'.ρ σ) θ' H' → Opn W F θ' s' σ H' a x v → OkP P (k x s') → R' v H') : tO W g a σ H R' := by
  unfold tO
  unfold opd at h
  cases e : isBor a with
  | some i =>
    rw [e] at h
    simp only at h
    cases q : rdB s i with
    | none => rw [q] at h; exact h.elim
    | some x =>
      rw [q] at h
      obtain ⟨v, hv⟩ := rdB_some R q
      exact ⟨v, hv, hk _ _ v H θ R .refl (by unfold Opn; rw [e]; exact hv) h⟩
  | none =>
    rw [e] at h
    simp only at h
    refine tE_of R (OkP.bind (OkP.bind h)) fun x s' v H' θ' rx q => ?_
    exact hk x.frz s' v H' θ' rx.rep rx.keep (by unfold Opn; rw [e]; exact rx.val) q

/-- what is wanted at the end, from an earlier start -/
theorem PX.from {σ : L2.St} {Q : VK} {x : FX} {m1 : Fb} {θ1 : List Addr} {H1 : Hp} (h : PX W F m0 θ0 H0 σ Q x s) (k : Keep m0 θ0 H0 m1 θ1 H1) : PX W F m1 θ1 H1 σ Q x s :=
  fun v H θ rx => h v H θ (rx.from k)
theorem PX.give {σ : L2.St} {Q : VK} {x : FX} {v : V} (h : PX W F m0 θ0 H0 σ Q x s) (rx : RX W F m0 θ0 H0 θ s σ H x v) : Q v H := h v H θ rx
/-- an expression inside another -/
theorem tE_bind {α : Type} {r : S → Out FX} {k : FX → S → Out α} {P : α → S → Prop} {R' : VK} (R : Rep W F θ s σ H) (h : OkP P ((r s).bind k))
    (hk : ∀ x s' v H' θ', RX W F (M0 θ s.ρ σ) θ H θ' s' σ H' x v → OkP P (k x s') → R' v H') : tE W r σ H R' :=
  tE_of R (OkP.bind h) fun x s' v H' θ' rx q => hk x s' v H' θ' rx q
theorem OkP.liftD {P : FX → S → Prop} {o : Option FX} (h : OkP P (Pv.lift s o)) : ∃ z, o = some z ∧ P z s := OkP.lift h
end

section
variable {X : Cx} {W : Wr} {g : G}
theorem mono {X : Cx} {e : Expr} {t t' : TE} (h : PE X e t) (i : ∀ σ H Q, t' σ H Q → t σ H Q) : PE X e t' := ⟨fun pins s σ H Q I q => h.run pins s σ H Q I (i σ H Q q)⟩
/-! ### names, constants -/
theorem ixOf_get : ∀ {N : List Str} {x : Str} {i : Nat}, ixOf N x = some i → N[i]? = some x
  | [], _, _, h => by simp [ixOf] at h
  | y :: r, x, i, h => by
    simp only [ixOf] at h
    split at h
    · rename_i e; cases h; rw [e]; rfl
    · simp only [Option.map_eq_some_iff] at h
      obtain ⟨j, e, rfl⟩ := h
      simpa using ixOf_get e
theorem ps_slot {i : Nat} {x : Str} {pos : Pos} (h : PE X (.Name x pos) (tVar i)) : PE X (.Name x pos) (tE W (ev g (.slot i))) := by
  refine mono h fun σ H Q hq => ?_
  obtain ⟨F, θ, s, R, q⟩ := hq
  have q : OkP _ (rdF s i) := q
  unfold rdF at q
  cases e : getN s.ρ i with
  | no => rw [e] at q; exact q.elim
  | clo _ _ => rw [e] at q; exact q.elim
  | val d =>
    rw [e] at q
    obtain ⟨v, hv, r⟩ := R.val e
    exact ⟨v, hv, q v H θ ⟨R, .refl, r⟩⟩
  | own o =>
    rw [e] at q
    obtain ⟨a, ha, R', r⟩ := R.freeze e
    refine ⟨_, ha, q _ H θ ⟨R', ?_, r⟩⟩
    exact keepLess fun b z => z.imp id fun z => own_set_no (fun o' q => by cases q) z
theorem ps_slotP {i : Nat} {x : Str} {pos : Pos} (h : PE X (.Name x pos) (tVar i)) : PE X (.Name x pos) (tE W (ev g (.slotP i))) := by
  refine mono h fun σ H Q hq => ?_
  obtain ⟨F, θ, s, R, q⟩ := hq
  have q : OkP _ (rdP s i) := q
  unfold rdP at q
  cases e : getN s.ρ i with
  | no => rw [e] at q; exact q.elim
  | clo _ _ => rw [e] at q; exact q.elim
  | val d =>
    rw [e] at q
    obtain ⟨v, hv, r⟩ := R.val e
    exact ⟨v, hv, q v H θ ⟨R, .refl, r⟩⟩
  | own o =>
    rw [e] at q
    obtain ⟨a, ha, R', r, sub⟩ := R.promote e
    refine ⟨_, ha, q _ H (θ ++ [a]) ⟨R', ⟨fun _ _ e _ => e, fun b _ _ z => sub b z, fun l b e => ?_⟩, r⟩⟩
    rw [List.getElem?_append_left (List.getElem?_eq_some_iff.mp e).1]; exact e
theorem pe_const {e : Expr} {d : D} {v : V} (h : PE X e (tC v)) (r : ∀ m θ H, RepV W m θ H d v) : PE X e (tE W (ev g (.const d))) := by
  refine mono h fun σ H Q hq => ?_
  obtain ⟨F, θ, s, R, q⟩ := hq
  exact q v H θ ⟨R, .refl, r _ _ _⟩
/-! ### operators -/
theorem pe_o2 {a b : E} {ea eb e : Expr} {o : O2} (ha : PE X ea (tO W g a)) (hb : PE X eb (tO W g b)) (he : ∀ {ta tb : TE}, PE X ea ta → PE X eb tb → PE X e (tOp (r2 W o) ta tb)) : PE X e (tE W (ev g (.o2 o a b))) := by
  refine mono (he ha hb) fun σ H Q hq => ?_
  obtain ⟨F, θ, s, R, q⟩ := hq
  refine opd_bind R q fun x s1 v H1 θ1 R1 k1 ox q1 => ?_
  refine opd_bind R1 q1 fun y s2 w H2 θ2 R2 k2 oy q2 => ?_
  obtain ⟨z, ez, q3⟩ := OkP.liftD q2
  simp only [Option.bind_eq_some_iff] at ez
  obtain ⟨dx, ex, dy, ey, ez⟩ := ez
  refine ⟨dx, dy, _, θ2, z, fin_cn R2 (ox.later R1 k2) ex, fin_cn R2 oy ey, ez, fun w' H' r => ?_, fun a z => R2.mt_there z⟩
  exact q3 _ _ _ (r.rx R2 (k1.trans k2))
theorem pe_o2l {a b : E} {ea eb e : Expr} {o : O2} (ha : PE X ea (tO W g a)) (hb : PE X eb (tO W g b)) (he : ∀ {ta tb : TE}, PE X ea ta → PE X eb tb → PE X e (fun σ H Q => tCons ta (tCons tb tNil) σ H fun vs H1 => r2l W o vs H1 Q)) : PE X e (tE W (ev g (.o2 o a b))) := by
  refine mono (he ha hb) fun σ H Q hq => ?_
  obtain ⟨F, θ, s, R, q⟩ := hq
  refine opd_bind R q fun x s1 v H1 θ1 R1 k1 ox q1 => ?_
  refine opd_bind R1 q1 fun y s2 w H2 θ2 R2 k2 oy q2 => ?_
  obtain ⟨z, ez, q3⟩ := OkP.liftD q2
  simp only [Option.bind_eq_some_iff] at ez
  obtain ⟨dx, ex, dy, ey, ez⟩ := ez
  refine ⟨v, w, rfl, dx, dy, _, θ2, z, fin_cn R2 (ox.later R1 k2) ex, fin_cn R2 oy ey, ez, fun w' H' r => ?_, fun a z => R2.mt_there z⟩
  exact q3 _ _ _ (r.rx R2 (k1.trans k2))
theorem pe_o1l {a : E} {ea e : Expr} {o : O1} (ha : PE X ea (tO W g a)) (he : ∀ {ta : TE}, PE X ea ta → PE X e (fun σ H Q => tCons ta tNil σ H fun vs H1 => r1 W g.repr o vs H1 Q)) : PE X e (tE W (ev g (.o1 o a))) := by
  refine mono (he ha) fun σ H Q hq => ?_
  obtain ⟨F, θ, s, R, q⟩ := hq
  refine opd_bind R q fun x s1 v H1 θ1 R1 k1 ox q1 => ?_
  obtain ⟨z, ez, q3⟩ := OkP.liftD q1
  simp only [Option.bind_eq_some_iff] at ez
  obtain ⟨dx, ex, ez⟩ := ez
  refine ⟨dx, v, _, θ1, z, rfl, fin_cn R1 ox ex, ez, fun w' H' r => ?_, fun a z => R1.mt_there z⟩
  exact q3 _ _ _ (r.rx R1 k1)
/-- any unary thing by its value -/
theorem pe_o1v {a : E} {ea e : Expr} {o : O1} (ha : PE X ea (tO W g a)) (he : ∀ {ta : TE}, PE X ea ta → PE X e (fun σ H Q => ta σ H fun v H1 => r1 W g.repr o [v] H1 Q)) : PE X e (tE W (ev g (.o1 o a))) := by
  refine mono (he ha) fun σ H Q hq => ?_
  obtain ⟨F, θ, s, R, q⟩ := hq
  refine opd_bind R q fun x s1 v H1 θ1 R1 k1 ox q1 => ?_
  obtain ⟨z, ez, q3⟩ := OkP.liftD q1
  simp only [Option.bind_eq_some_iff] at ez
  obtain ⟨dx, ex, ez⟩ := ez
  refine ⟨dx, v, _, θ1, z, rfl, fin_cn R1 ox ex, ez, fun w' H' r => ?_, fun a z => R1.mt_there z⟩
  exact q3 _ _ _ (r.rx R1 k1)
/-! ### tests -/
/-- a test's reading -/
def tT (W : Wr) (g : G) (a : E) : TT := fun σ H Q => ∃ F θ s, Rep W F θ s σ H ∧ OkP (fun b s' => ∀ H' θ', Rep W F θ' s' σ H' → Keep (M0 θ s.ρ σ) θ H (M0 θ' s'.ρ σ) θ' H' → Q b H') (tst a (ev g a) s)
theorem tru_of {m : Fb} {θ : List Addr} {H : Hp} {d : D} {v : V} {b : Bool} (hK : W.K = X.K) (c : Cn W m θ H d v) (e : truth d = some b) : TruV X.K v H b := by
  cases d <;> first | (cases e; done) | skip
  · cases c; cases e; exact rfl
  · cases c; cases e; exact rfl
  · cases c; cases e; exact rfl
  · simp only [truth] at e
    split at e
    · rename_i hl
      cases c; cases e
      exact ⟨by rw [← LINE_eq]; exact hl, rfl⟩
    · cases e
  · obtain ⟨a, vs, rfl, h, rs⟩ := c
    cases e
    exact .inr (.inl ⟨vs, hK ▸ h, by cases rs <;> rfl⟩)
  · obtain ⟨a, vs, rfl, h, rs⟩ := c
    cases e
    exact .inl ⟨vs, .of h, by cases rs <;> rfl⟩
  · obtain ⟨a, vs, rfl, h, rs⟩ := c
    cases e
    exact .inl ⟨vs, hK ▸ h, by cases rs <;> rfl⟩
  · obtain ⟨a, vkvs, rfl, h, e', rs⟩ := c
    cases e
    refine .inr (.inr ⟨vkvs, h, ?_⟩)
    rename_i kvs
    have hl : vkvs.length = kvs.length := by simpa using congrArg List.length e'
    cases kvs <;> cases vkvs <;> first | rfl | cases hl
theorem pt_plain (hK : W.K = X.K) {a : E} {ea : Expr} (ha : PE X ea (tO W g a)) (he : ∀ whole, isTrue ea X.env whole = (do let v ← whole; standAt ea.pos; holding [v] (truthy v))) : PT X ea (tT W g a) := by
  have h := pt_truth ha he
  refine ⟨fun pins s σ H Q I hq => h.run pins s σ H Q I ?_⟩
  obtain ⟨F, θ, s, R, q⟩ := hq
  refine opd_bind R q fun x s1 v H1 θ1 R1 k1 ox q1 => ?_
  obtain ⟨b, eb, q3⟩ := OkP.lift q1
  simp only [Option.bind_eq_some_iff] at eb
  obtain ⟨d, ed, eb⟩ := eb
  exact ⟨b, tru_of hK (fin_cn R1 ox ed) eb, q3 _ _ R1 k1⟩
/-- not, as a value -/
theorem pe_notV (hK : W.K = X.K) {a : E} {ea : Expr} {pos : Pos} (ha : PE X ea (tO W g a)) : PE X (.UnaryOp .Not ea pos) (tE W (ev g (.not a))) := by
  refine ⟨fun pins s σ H Q I hq => ?_⟩
  obtain ⟨F, θ, s', R, q⟩ := hq
  refine UnaryOp_ (thn (ha.run pins s σ H (fun v H1 => ∃ b, TruV X.K v H1 b ∧ Q (.bl (!b)) H1) I ?_) fun v s1 ⟨x, H1, I1, r1, b, t1, q1⟩ => not_of (thn (tru_ok pins s1 σ H1 x v (fun c H2 => Q (.bl (!c)) H2) I1 r1 ⟨b, t1, q1⟩) fun c s2 ⟨H2, I2, q2⟩ => ⟨.bl (!c), H2, I2, rfl, q2⟩))
  have q := OkP.bind q
  unfold tst at q
  refine opd_bind R q fun x s1 v H1 θ1 R1 k1 ox q1 => ?_
  obtain ⟨b, eb, q3⟩ := OkP.lift q1
  simp only [Option.bind_eq_some_iff] at eb
  obtain ⟨d, ed, eb⟩ := eb
  exact ⟨b, tru_of hK (fin_cn R1 ox ed) eb, q3 _ _ _ ⟨R1, k1, .bl _⟩⟩
theorem bool_x {x : FX} {α : Type} {P : α → S → Prop} {A B : Out α} (q : OkP P (match x with
      | .d (.bl true) => A
      | .d (.bl false) => B
      | _ => .err)) : (x = .d (.bl true) ∧ OkP P A) ∨ (x = .d (.bl false) ∧ OkP P B) := by
  cases x with
  | f o => exact q.elim
  | d d =>
    cases d with
    | bl b =>
      cases b
      · exact .inr ⟨rfl, q⟩
      · exact .inl ⟨rfl, q⟩
    | _ => exact q.elim
theorem pt_not2 {a : E} {ea : Expr} {pos : Pos} (ha : PT X ea (tT W g a)) : PT X (.UnaryOp .Not ea pos) (tT W g (.not a)) := by
  have h := pt_not (pos := pos) ha
  refine ⟨fun pins s σ H Q I hq => h.run pins s σ H Q I ?_⟩
  obtain ⟨F, θ, s', R, q⟩ := hq
  have q : OkP (fun b s'_1 => ∀ (H' : Hp) (θ' : List Addr), Rep W F θ' s'_1 σ H' → Keep (M0 θ s'.ρ σ) θ H (M0 θ' s'_1.ρ σ) θ' H' → Q b H') ((tst a (ev g a) s').bind fun b s1 => .ok (!b) s1) := by
    have e : tst (.not a) (ev g (.not a)) s' = ((tst a (ev g a) s').bind fun b s1 => .ok (!b) s1) := by
      show ((((tst a (ev g a) s').bind fun (t : Bool) s => (Out.ok (FX.d (D.bl (!t))) s : Out FX)).bind fun (x : FX) s => (Out.ok x.frz s : Out D)).bind fun (x : D) s => lift s ((view s x).bind truth)) = _
      cases tst a (ev g a) s' <;> rfl
    rw [e] at q
    exact q
  exact ⟨F, θ, s', R, (OkP.bind q).imp fun b s1 q1 => q1⟩
theorem pe_and2 {a b : E} {ea eb : Expr} {rest : List Expr} {pos : Pos} (ha : PE X ea (tE W (ev g a))) (hb : PE X (.BoolOp .And (eb :: rest) pos) (tE W (ev g b))) : PE X (.BoolOp .And (ea :: eb :: rest) pos) (tE W (ev g (.and a b))) := by
  refine mono (L2.pe_and ha hb) fun σ H Q hq => ?_
  obtain ⟨F, θ, s, R, q⟩ := hq
  refine tE_bind R q fun x s1 v H1 θ1 rx q1 => ?_
  split at q1
  · cases rx.2.2
    refine ⟨true, rfl, ?_⟩
    rw [if_pos rfl]
    exact ⟨F, θ1, s1, rx.rep, q1.imp fun z s2 p => p.from rx.keep⟩
  · cases rx.2.2
    refine ⟨false, rfl, ?_⟩
    rw [if_neg (by decide)]
    exact q1 _ _ _ rx
  · exact q1.elim
theorem pe_or2 {a b : E} {ea eb : Expr} {rest : List Expr} {pos : Pos} (ha : PE X ea (tE W (ev g a))) (hb : PE X (.BoolOp .Or (eb :: rest) pos) (tE W (ev g b))) : PE X (.BoolOp .Or (ea :: eb :: rest) pos) (tE W (ev g (.or a b))) := by
  refine mono (L2.pe_or ha hb) fun σ H Q hq => ?_
  obtain ⟨F, θ, s, R, q⟩ := hq
  refine tE_bind R q fun x s1 v H1 θ1 rx q1 => ?_
  split at q1
  · cases rx.2.2
    refine ⟨true, rfl, ?_⟩
    rw [if_pos rfl]
    exact q1 _ _ _ rx
  · cases rx.2.2
    refine ⟨false, rfl, ?_⟩
    rw [if_neg (by decide)]
    exact ⟨F, θ1, s1, rx.rep, q1.imp fun z s2 p => p.from rx.keep⟩
  · exact q1.elim
/-- and, or as tests -/
theorem tst_ev {a : E} {s : S} (h : isBor a = none) : tst a (ev g a) s = (ev g a s).bind fun x s => lift s ((view s x.frz).bind truth) := by
  unfold tst opd fin
  rw [h]
  cases ev g a s <;> rfl
theorem pw_and2 {a b : E} {ea eb : Expr} {rest : List Expr} {pos : Pos} (na : isBor a = none) (nb : isBor b = none) (ha : PT X ea (tT W g a)) (hb : PW X (.BoolOp .And (eb :: rest) pos) (tT W g b)) : PW X (.BoolOp .And (ea :: eb :: rest) pos) (tT W g (.and a b)) := by
  have h := pw_and (pos := pos) ha hb
  refine ⟨fun wh pins s σ H Q I hq => h.run wh pins s σ H Q I ?_⟩
  obtain ⟨F, θ, s', R, q⟩ := hq
  rw [tst_ev rfl] at q
  have q := OkP.bind (OkP.bind q)
  refine ⟨F, θ, s', R, ?_⟩
  rw [tst_ev na]
  cases e : ev g a s' with
  | exc _ _ _ => rw [e] at q; exact q.elim
  | err => rw [e] at q; exact q.elim
  | ok x s1 =>
    rw [e] at q
    rcases bool_x q with ⟨rfl, q2⟩ | ⟨rfl, q2⟩
    · refine (show OkP _ (Out.ok true s1) from fun H' θ' R1 k1 => ?_)
      show if true = true then _ else _
      rw [if_pos rfl]
      refine ⟨F, θ', s1, R1, ?_⟩
      rw [tst_ev nb]
      cases e2 : ev g b s1 with
      | exc _ _ _ => rw [e2] at q2; exact q2.elim
      | err => rw [e2] at q2; exact q2.elim
      | ok y s2 =>
        rw [e2] at q2
        exact OkP.imp q2 fun c s3 p H2 θ2 R2 k2 => p H2 θ2 R2 (k1.trans k2)
    · refine (show OkP _ (Out.ok false s1) from fun H' θ' R1 k1 => ?_)
      show if false = true then _ else _
      rw [if_neg (by decide)]
      exact q2 H' θ' R1 k1
theorem pw_or2 {a b : E} {ea eb : Expr} {rest : List Expr} {pos : Pos} (na : isBor a = none) (nb : isBor b = none) (ha : PT X ea (tT W g a)) (hb : PW X (.BoolOp .Or (eb :: rest) pos) (tT W g b)) : PW X (.BoolOp .Or (ea :: eb :: rest) pos) (tT W g (.or a b)) := by
  have h := pw_or (pos := pos) ha hb
  refine ⟨fun wh pins s σ H Q I hq => h.run wh pins s σ H Q I ?_⟩
  obtain ⟨F, θ, s', R, q⟩ := hq
  rw [tst_ev rfl] at q
  have q := OkP.bind (OkP.bind q)
  refine ⟨F, θ, s', R, ?_⟩
  rw [tst_ev na]
  cases e : ev g a s' with
  | exc _ _ _ => rw [e] at q; exact q.elim
  | err => rw [e] at q; exact q.elim
  | ok x s1 =>
    rw [e] at q
    rcases bool_x q with ⟨rfl, q2⟩ | ⟨rfl, q2⟩
    · refine (show OkP _ (Out.ok true s1) from fun H' θ' R1 k1 => ?_)
      show if true = true then _ else _
      rw [if_pos rfl]
      exact q2 H' θ' R1 k1
    · refine (show OkP _ (Out.ok false s1) from fun H' θ' R1 k1 => ?_)
      show if false = true then _ else _
      rw [if_neg (by decide)]
      refine ⟨F, θ', s1, R1, ?_⟩
      rw [tst_ev nb]
      cases e2 : ev g b s1 with
      | exc _ _ _ => rw [e2] at q2; exact q2.elim
      | err => rw [e2] at q2; exact q2.elim
      | ok y s2 =>
        rw [e2] at q2
        exact OkP.imp q2 fun c s3 p H2 θ2 R2 k2 => p H2 θ2 R2 (k1.trans k2)
theorem pe_ite2 {c a b : E} {ec ea eb : Expr} {pos : Pos} (hc : PT X ec (tT W g c)) (ha : PE X ea (tE W (ev g a))) (hb : PE X eb (tE W (ev g b))) : PE X (.IfExp ec ea eb pos) (tE W (ev g (.ite c a b))) := by
  refine mono (pe_ifExp hc ha hb) fun σ H Q hq => ?_
  obtain ⟨F, θ, s, R, q⟩ := hq
  refine ⟨F, θ, s, R, (OkP.bind q).imp fun t s1 q1 H1 θ1 R1 k1 => ?_⟩
  cases t with
  | true =>
    rw [if_pos rfl] at q1 ⊢
    exact ⟨F, θ1, s1, R1, q1.imp fun z s2 p => p.from k1⟩
  | false =>
    rw [if_neg (by decide)] at q1 ⊢
    exact ⟨F, θ1, s1, R1, q1.imp fun z s2 p => p.from k1⟩
end
end Pv
end

section
set_option Elab.async false
set_option linter.all false
set_option maxRecDepth 100000
set_option maxHeartbeats 4000000
/-! EvSet: set(list of texts), and sorted of it. -/
namespace Pv
open PySem PySem.Spec PyProof.Rows L2
def keyT (e : Int × Value) : Str := match e.2 with
  | .str k _ => k
  | _ => Str.empty
def GoodT (w : World) (e : Int × Value) : Prop := ∃ k tk, e.2 = Value.str k tk ∧ e.1 = hashStr w k
/-- the set of texts at a, told by its members in some order -/
def TxR (w : World) (h : Heap) (a : Addr) (l : List Str) : Prop :=
  ∃ o es ep t, h.get? a = some o ∧ o.ExactSet ∧ o.data = .set es ep t ∧ (∀ e ∈ es.toList, GoodT w e) ∧ (es.toList.map keyT).Perm l ∧ l.Nodup ∧
    es.size < scanBound ∧ t.fits es.size = true ∧ Ris t.place.toList ∧ (w.params.followText "set-order" = true ∨ t.led = true)
section
variable {P : Program} {w : World} {h h' : Heap} {a : Addr} {l : List Str}
theorem TxR.at (R : TxR w h a l) (k : ∀ o, h.get? a = some o → h'.get? a = some o) : TxR w h' a l := by
  obtain ⟨o, es, ep, t, ho, r⟩ := R
  exact ⟨o, es, ep, t, k o ho, r⟩
theorem goodT_elems {l : List (Int × Value)} (g : ∀ e ∈ l, GoodT w e) : ElemsOf (PySem.strKind P w) l := fun e he => by
  obtain ⟨k, tk, h1, h2⟩ := g e he
  exact ⟨⟨k, by rw [h1]; exact strKind_is P w k tk, h2⟩, by rw [h1] <;> rfl⟩
theorem goodT_is {e : Int × Value} (g : GoodT w e) (k : Str) : (PySem.strKind P w).is k e.2 = true ↔ keyT e = k := by
  obtain ⟨k0, tk, h1, _⟩ := g
  unfold keyT
  rw [h1]
  show ((Value.isStrOf k (.str k0 tk)) = true) ↔ k0 = k
  constructor
  · intro z
    obtain ⟨t, e⟩ := Value.isStrOf_shape z
    injection e with e1 e2
  · rintro rfl
    exact strKind_is P w k0 tk
theorem goodT_mem {l : List (Int × Value)} (g : ∀ e ∈ l, GoodT w e) (k : Str) : k ∈ l.map keyT ↔ ∃ e ∈ l, (PySem.strKind P w).is k e.2 = true := by
  rw [List.mem_map]
  constructor
  · rintro ⟨e, he, q⟩
    exact ⟨e, he, (goodT_is (g e he) k).2 q⟩
  · rintro ⟨e, he, q⟩
    exact ⟨e, he, (goodT_is (g e he) k).1 q⟩
end
section
variable {P : Program} {w : World} {A : Around} {E : Value → Shared → Prop} {s : Shared} {a : Addr} {l : List Str}
theorem tx_add_tail {g : Bool → Sem Unit} (hg : ∀ (b : Bool) (s₁ : Shared) (Q' : Unit → Shared → Prop), Q' () s₁ → wpAny (model P w) A (g b) Q' E s₁)
    {o : Obj} {es : Array (Int × Value)} {ep : Nat} {t : SetTable} (ho : s.heap.get? a = some o) (hex : o.ExactSet) (hd : o.data = .set es ep t)
    {es1 : Array (Int × Value)} {t2 : SetTable} (g1 : ∀ e ∈ es1.toList, GoodT w e) (p1 : (es1.toList.map keyT).Perm l) (nd : l.Nodup)
    (hb1 : es1.size < scanBound) (hf2 : t2.fits es1.size = true) (hr : Ris t2.place.toList) (hl : w.params.followText "set-order" = true ∨ t2.led = true) {wasDummy : Bool} {R : Option Bool → Shared → Prop}
    (hR : ∀ h', Heap.SameBut a s.heap h' → TxR w h' a l → R (some true) { s with heap := h' }) :
    wpAny (model P w) A (do
        storeSet a es1 t2
        if (!wasDummy && t2.tooFull) = true then do
            g (relayAll t2 es1 (SetTable.grown es1.size)).2.2
            storeSet a (relayAll t2 es1 (SetTable.grown es1.size)).1 (relayAll t2 es1 (SetTable.grown es1.size)).2.1
            pure (some true)
          else pure (some true)) R E s := by
  refine wpAny_bind (wpAny_storeSet_of ho hd ?_ (fits_of_scanBound hb1))
  have ho1 := store_at (es' := es1) (t' := t2) ho hd
  have sb1 := Heap.SameBut.update s.heap a (Obj.putSet es1 t2)
  split
  · have pm := relayAll_perm t2 es1 (SetTable.grown es1.size)
    have hf3 := relayAll_fits t2 es1 (SetTable.grown es1.size)
    have hr3 := relayAll_ris t2 es1 (SetTable.grown es1.size)
    have hl3 := relayAll_led t2 es1 (SetTable.grown es1.size)
    generalize relayAll t2 es1 (SetTable.grown es1.size) = Z at pm hf3 hr3 hl3 ⊢
    obtain ⟨es2, t3, gave⟩ := Z
    dsimp only at pm hf3 hr3 hl3 ⊢
    have hsz : es2.size = es1.size := by rw [← Array.length_toList, pm.length_eq, Array.length_toList]
    have hb2 : es2.size < scanBound := by rw [hsz]; exact hb1
    refine wpAny_bind (hg _ _ _ ?_)
    refine wpAny_bind (wpAny_storeSet_of ho1 rfl ?_ (fits_of_scanBound hb2))
    have ho2 := store_at (es' := es2) (t' := t3) ho1 rfl
    refine wpAny_pure (hR _ (sb1.trans (Heap.SameBut.update _ a _)) ?_)
    exact ⟨_, es2, _, t3, ho2, hex, rfl, fun e he => g1 e (pm.mem_iff.mp he), (pm.map keyT).trans p1, nd, hb2, hf3, hr3, hl.imp id fun z => by rw [hl3]; exact z⟩
  · exact wpAny_pure (hR _ sb1 ⟨_, es1, _, t2, ho1, hex, rfl, g1, p1, nd, hb1, hf2, hr, hl⟩)
theorem tx_add_hashed {k : Str} {tk : Tok} {Q : Bool → Shared → Prop} (R : TxR w s.heap a l) (room : l.length + 1 < scanBound)
    (hQ : ∀ b h', Heap.SameBut a s.heap h' → TxR w h' a (if k ∈ l then l else k :: l) → Q b { s with heap := h' }) :
    wpAny (model P w) A (setAddHashed a (.str k tk) ((PySem.strKind P w).hash k)) Q E s := by
  obtain ⟨o, es, ep, t, ho, hex, hd, g, pl, nd, hb, hf, hr, hl⟩ := R
  have hkey : (PySem.strKind P w).is k (.str k tk) = true := strKind_is P w k tk
  have hsc : (Value.str k tk).scannable = true := rfl
  have hel : ElemsOf (PySem.strKind P w) es.toList := goodT_elems g
  unfold setAddHashed setAddHashedIn
  refine wpAny_holding (wpAny_bind (wpAny_setState_of ho hd hf ?_))
  dsimp only
  rw [byScan_of hsc hb hel]
  simp only [↓reduceIte]
  unfold setAddByScan
  refine wpAny_bind ?_
  refine wpAny_bind (wpAny_rule ?_)
  refine wpAny_bind (wpAny_setScan_of hkey ho hd hf hel ?_)
  cases hfi : List.findIdx? (fun e => (PySem.strKind P w).is k e.2) es.toList with
  | some j =>
    dsimp only
    obtain ⟨hj, pj, _⟩ := List.findIdx?_eq_some_iff_getElem.mp hfi
    have hkl : k ∈ l := pl.mem_iff.mp ((goodT_mem (P := P) (w := w) g k).2 ⟨es.toList[j], List.getElem_mem hj, pj⟩)
    refine wpAny_pure (wpAny_pure ?_)
    exact hQ _ s.heap (Heap.SameBut.refl a s.heap) (by rw [if_pos hkl]; exact ⟨o, es, ep, t, ho, hex, hd, g, pl, nd, hb, hf, hr, hl⟩)
  | none =>
    dsimp only
    have hnk : k ∉ es.toList.map keyT := fun z => by
      obtain ⟨e, he, q⟩ := (goodT_mem (P := P) (w := w) g k).1 z
      have c := List.findIdx?_eq_none_iff.mp hfi e he
      rw [q] at c
      cases c
    have hkl : k ∉ l := fun z => hnk (pl.mem_iff.mpr z)
    have hgw : ∀ (b : Bool) {s₁ : Shared} {Q' : Unit → Shared → Prop}, Q' () s₁ → wpAny (model P w) A (match b with | true => rule "set.scan.the-table-gave-way" | false => pure ()) Q' E s₁ :=
      fun b s₁ Q' q => by cases b <;> first | exact wpAny_pure q | exact wpAny_rule q
    have pm := layNew_perm t es ((PySem.strKind P w).hash k) (.str k tk)
    have hf1 := layNew_fits t es ((PySem.strKind P w).hash k) (.str k tk)
    have hr1 := layNew_ris t es ((PySem.strKind P w).hash k) (.str k tk) hr
    have hl1 := layNew_led t es ((PySem.strKind P w).hash k) (.str k tk)
    generalize layNew t es ((PySem.strKind P w).hash k) (.str k tk) = Z at pm hf1 hr1 hl1 ⊢
    obtain ⟨es1, t1, wasDummy, gave⟩ := Z
    dsimp only at pm hf1 hr1 hl1 ⊢
    rw [Array.toList_push] at pm
    have pc : es1.toList.Perm (((PySem.strKind P w).hash k, Value.str k tk) :: es.toList) := pm.trans (List.perm_append_singleton _ _)
    have pk : (es1.toList.map keyT).Perm (k :: l) := (pc.map keyT).trans (List.Perm.cons _ pl)
    have g1 : ∀ e ∈ es1.toList, GoodT w e := fun e he => by
      rcases List.mem_cons.mp (pc.mem_iff.mp he) with z | z
      · rw [z]; exact ⟨k, tk, rfl, rfl⟩
      · exact g e z
    have nd1 : (k :: l).Nodup := List.nodup_cons.mpr ⟨hkl, nd⟩
    have hsz : es1.size = l.length + 1 := by
      have := pk.length_eq
      rw [List.length_map, Array.length_toList] at this
      exact this
    have hb1 : es1.size < scanBound := by rw [hsz]; exact room
    have hled : w.params.followText "set-order" = true ∨ t1.led = true := hl.imp id fun z => by rw [hl1]; exact z
    have fin : ∀ h', Heap.SameBut a s.heap h' → TxR w h' a (k :: l) → Q true { s with heap := h' } := fun h' sb r => hQ _ h' sb (by rw [if_neg hkl]; exact r)
    refine wpAny_bind (hgw _ ?_)
    split
    · refine wpAny_bind ?_
      rw [hashByValue_scannable 8 hsc]
      refine wpAny_pure ?_
      refine tx_add_tail ?_ ho hex hd g1 pk nd1 hb1 ?_ ?_ ?_ ?_
      · intro b s₁ Q' q; cases b <;> first | exact wpAny_pure q | exact wpAny_rule q
      · first | (split <;> first | exact hf1 | exact SetTable.fits_plain_off hf1) | exact hf1
      · first | (split <;> exact hr1) | exact hr1
      · first | (split <;> exact hled) | exact hled
      · intro h' sb r; dsimp only; exact wpAny_pure (fin h' sb r)
    · refine wpAny_bind (wpAny_pure ?_)
      simp only [↓reduceIte]
      refine tx_add_tail ?_ ho hex hd g1 pk nd1 hb1 hf1 hr1 hled ?_
      · intro b s₁ Q' q; cases b <;> first | exact wpAny_pure q | exact wpAny_rule q
      · intro h' sb r; dsimp only; exact wpAny_pure (fin h' sb r)
end
/-- the members behind i items -/
def memS (xs : List Str) : Nat → List Str
  | 0 => []
  | i + 1 => let l := memS xs i; let k := xs.getD i Str.empty; if k ∈ l then l else k :: l
theorem memS_len (xs : List Str) : ∀ i, (memS xs i).length ≤ i
  | 0 => Nat.le_refl _
  | i + 1 => by
    have := memS_len xs i
    show (if _ then _ else _ : List Str).length ≤ _
    split
    · omega
    · simp; omega
theorem memS_nd (xs : List Str) : ∀ i, (memS xs i).Nodup
  | 0 => List.nodup_nil
  | i + 1 => by
    show (if _ then _ else _ : List Str).Nodup
    split
    · exact memS_nd xs i
    · rename_i h; exact List.nodup_cons.mpr ⟨h, memS_nd xs i⟩
theorem memS_mem (xs : List Str) (k : Str) : ∀ i, i ≤ xs.length → (k ∈ memS xs i ↔ k ∈ xs.take i)
  | 0, _ => by simp [memS]
  | i + 1, hi => by
    have ih := memS_mem xs k i (by omega)
    have e : xs.take (i + 1) = xs.take i ++ [xs.getD i Str.empty] := by
      rw [List.take_succ, List.getD_eq_getElem?_getD, List.getElem?_eq_getElem (by omega)]; rfl
    rw [e, List.mem_append, List.mem_singleton, ← ih]
    show k ∈ (if _ then _ else _ : List Str) ↔ _
    split
    · rename_i h
      constructor
      · exact .inl
      · rintro (z | rfl)
        · exact z
        · exact h
    · rw [List.mem_cons]; exact Or.comm
section
variable {prog : Program} {w : World} {A : Around} {R : Result → Shared → Prop} {I : Addr} {fp wr : List Addr} {G : Array GenState → Array GenState → Prop} {n : Nat} {P : Nat → Value → Prop} {St : Nat → Shared → Prop}
theorem loopT (W : WalksS prog w A.in1 I fp wr G n P St) (S : Addr) (hSf : S ∉ fp) (xs : List Str) (hsz : xs.length = n) (hn1 : n < 4000)
    (hval : ∀ i v, P i v → ∃ t, v = .str (xs.getD i Str.empty) t) :
    ∀ (k i : Nat) (s : Shared), n - i = k → i ≤ n → St i s → TxR w s.heap S (memS xs i) →
      (∀ s', Moved (S :: wr) G s s' → TxR w s'.heap S (memS xs n) → R (.ok (.ret .none)) s') →
      codeAny (model prog w) A (.builtin "set.update.loop" ⟨[.ref S, .ref I], []⟩) R s := by
  have hSw : S ∉ wr := fun h => hSf (W.sub _ h)
  have hsub : ∀ b ∈ wr, b ∈ S :: wr := fun b hb => List.mem_cons_of_mem _ hb
  intro k
  induction k with
  | zero =>
    intro i s hk hi hst hS hR
    have hin : i = n := by omega
    subst hin
    refine codeAny_builtin PyProof.Rows.F.entry_set_update_loop ?_
    rw [Around.under_plainId PyProof.Rows.F.plain_set_update_loop _]
    show wpAny _ A.in1 (pyNext (.ref I) >>= _) _ _ s
    refine wpAny_bind (W.done s _ _ hst fun s' hm => ?_)
    show wpAny _ A.in1 (ret Value.none) _ _ s'
    exact wpAny_pure (hR s' (hm.mono hsub) (hS.at fun o e => hm.heap S _ hSw e))
  | succ k ih =>
    intro i s hk hi hst hS hR
    have hlt : i < n := by omega
    refine codeAny_builtin PyProof.Rows.F.entry_set_update_loop ?_
    rw [Around.under_plainId PyProof.Rows.F.plain_set_update_loop _]
    show wpAny _ A.in1 (pyNext (.ref I) >>= _) _ _ s
    refine wpAny_bind (W.item i s _ _ hlt hst fun v s' hP hst' hm => ?_)
    obtain ⟨t, rfl⟩ := hval i v hP
    have hS' : TxR w s'.heap S (memS xs i) := hS.at fun o e => hm.heap S _ hSw e
    show wpAny _ A.in1 (holding [Value.str (xs.getD i Str.empty) t] (setAdd S (.str (xs.getD i Str.empty) t)) >>= _) _ _ s'
    refine wpAny_bind (wpAny_holding ?_)
    unfold setAdd
    refine wpAny_holding ?_
    refine wpAny_bind ((PySem.strKind prog w).pyHash (k := xs.getD i Str.empty) (strKind_is _ _ _ _) ?_)
    have hlen := memS_len xs i
    refine tx_add_hashed (s := { s' with toks := s'.toks + 1 }) hS' (by unfold scanBound; omega) fun b h' hsb hS2 => ?_
    refine wpAny_pure ⟨plainId_quiet PyProof.Rows.F.plain_set_update_loop _, ih (i + 1) _ (by omega) hlt (W.frame _ s' _ _ hst' (Nat.le_succ _) fun b hb o e => ?_) hS2 fun s'' hm'' hS'' => ?_⟩
    · rw [hsb.2 b (fun h : b = S => hSf (by rw [← h]; exact hb))]; exact e
    · refine hR s'' (Moved.trans W.gtrans ((hm.mono hsub).then_heap (Nat.le_succ _) fun b o hb e => ?_) hm'') hS''
      rw [hsb.2 b (fun h : b = S => hb (by rw [h]; exact List.mem_cons_self))]; exact e
end
end Pv
end

section
set_option Elab.async false
set_option linter.all false
set_option maxRecDepth 100000
set_option maxHeartbeats 4000000
/-! EvSet2: sorted(set(texts)). -/
namespace Pv
open PySem PySem.Spec PyProof.Rows L2
section
variable {P : Program} {w : World} {A : Around} {E : Value → Shared → Prop} {s : Shared}
theorem code_set_ledA (a : Value) {Q₁ : Value → Shared → Prop}
    (h : Q₁ (.ref s.heap.objs.size) { s with heap := s.heap.push { cls := .type "set", dict := none, data := .set #[] 0 (.fresh 0 0 (!w.params.followText "set-order")) } }) :
    codeAny (model P w) A (.call (.builtin "set.__new__") ⟨[.type "set", a], []⟩) (wants Q₁ E) s := by
  refine codeAny_of_tree ?_
  show wpAny _ A.in1 (do checkBuiltinCall "set.__new__" ⟨[.type "set", a], []⟩; again (.builtin "set.__new__" ⟨[.type "set", a], []⟩)) _ _ s
  refine wpAny_bind (wpAny_of_eq (PySem.F.newCall_set_1 a) (wpAny_pure ⟨plainId_quiet PySem.F.plain_set_new _, codeAny_builtin PySem.F.entry_set_new ?_⟩))
  rw [Around.under_plainId PySem.F.plain_set_new _]
  unfold Builtin.«set.__new__» Builtin.Frozenset.newClass
  have hsub := sub_set_self
  obtain ⟨hp, g, d, tk, os⟩ := s
  dsimp only
  wp_walk
  refine wpAny_askSetting (wpAny_pure ?_)
  dsimp only
  simp only [newObj]
  refine wpAny_bind (wpAny_alloc (wpAny_pure ?_))
  exact wpAny_pure h
theorem tx_fresh {h : Heap} (w : World) : TxR w (h.push { cls := .type "set", dict := none, data := .set #[] 0 (.fresh 0 0 (!w.params.followText "set-order")) }) h.objs.size [] :=
  ⟨_, #[], 0, _, Heap.get?_push_size _ rfl, ⟨rfl, rfl, rfl⟩, rfl, (fun e he => by simp at he), .nil, List.nodup_nil, (by decide), (by rfl), List.Pairwise.nil, by
    show _ ∨ (!w.params.followText "set-order") = true
    cases w.params.followText "set-order"
    · exact .inr rfl
    · exact .inl rfl⟩
set_option maxHeartbeats 3200000 in
theorem call_set_listT {l : Addr} {items : Array Value} {xs : List Str} {Q : Value → Shared → Prop}
    (hh : A.handled = none) (hl : s.heap.IsList l items) (hi : PyProof.Rows.StrsAre items.toList xs) (hn1 : xs.length < 4000)
    (h : ∀ (h' : Heap) (tk : Nat), TxR w h' s.heap.objs.size (memS xs xs.length) → (∀ b o, b < s.heap.objs.size → s.heap.get? b = some o → h'.get? b = some o) → Q (.ref s.heap.objs.size) { s with heap := h', toks := tk }) :
    wpAny (model P w) A (call (.type "set") [.ref l]) Q E s := by
  obtain ⟨c, tl, hmro⟩ := PySem.F.called_set.mro
  have hmade := PySem.F.called_set.made
  have hsub := PySem.F.called_set.sub
  refine wpAny_call (codeAny_of_tree ?_)
  show wpAny _ _ (callAny (.type "set") _) _ _ _
  refine wpAny_pure ⟨Code.quiet_builtin _ (by decide +kernel), codeAny_builtin PySem.F.entry_type_call ?_⟩
  rw [Around.under_plain (weight_type_call_type "set" [.ref l] []) rfl]
  have h1 := PySem.F.called_set.notType
  have h2 := PySem.F.called_set.canCreate
  have hct := PySem.F.typeCall_set_1 (.ref l)
  repeat (any_goals (first | assumption | wp_step))
  refine codeAny_mono (code_set_ledA (.ref l) (E := E) (Q₁ := fun obj s₁ => obj = .ref s.heap.objs.size ∧ s₁ = { s with heap := s.heap.push { cls := .type "set", dict := none, data := .set #[] 0 (.fresh 0 0 (!w.params.followText "set-order")) } }) ⟨rfl, rfl⟩) fun r s₁ hr => ?_
  cases r with
  | error e => exact hr
  | ok fl =>
    cases fl with
    | ret obj =>
      obtain ⟨rfl, rfl⟩ := hr
      have hF : TxR w (s.heap.push { cls := .type "set", dict := none, data := .set #[] 0 (.fresh 0 0 (!w.params.followText "set-order")) }) s.heap.objs.size [] := tx_fresh w
      generalize (!w.params.followText "set-order") = led at hF ⊢
      have hS : (s.heap.push { cls := .type "set", dict := none, data := .set #[] 0 (.fresh 0 0 led) }).get? s.heap.objs.size = some { cls := .type "set", dict := none, data := .set #[] 0 (.fresh 0 0 led) } := Heap.get?_push_size _ rfl
      have hT : Shared.TypeIs { s with heap := s.heap.push { cls := .type "set", dict := none, data := .set #[] 0 (.fresh 0 0 led) } } (.ref s.heap.objs.size) "set" := ⟨_, hS, rfl⟩
      have hli := PySem.F.called_set.init.lookup
      have hbi := PySem.F.called_set.init.bind (.ref s.heap.objs.size)
      repeat (any_goals (first | assumption | wp_step))
      refine codeAny_mono (codeAny_call_builtin (R := wants (fun r s₂ => r = .none ∧ ∃ h' tk, s₂ = { s with heap := h', toks := tk } ∧
          TxR w h' s.heap.objs.size (memS xs xs.length) ∧ (∀ b o, b < s.heap.objs.size → s.heap.get? b = some o → h'.get? b = some o)) E) PySem.F.called_set.init.plain PySem.F.entry_set_init (check_set_init_1 hT ?_)) fun r₂ s₂ hr₂ => ?_
      · obtain ⟨ol, hol, hcl, nl, hdl⟩ := hl
        obtain ⟨ocls, odict, odata, oslots⟩ := ol
        simp only at hcl hdl
        subst hcl; subst hdl
        have hol' : (s.heap.push { cls := .type "set", dict := none, data := .set #[] 0 (.fresh 0 0 led) }).get? l = some { cls := .type "list", dict := odict, data := .seq items nl, slots := oslots } := Heap.get?_push_of_some _ hol
        have hsls := PySem.F.sub_list_set
        have hslf := PySem.F.sub_list_frozenset
        have hne : (Value.type "list" == Value.type "dict") = false := by decide
        have hl1 : (s.heap.push { cls := .type "set", dict := none, data := .set #[] 0 (.fresh 0 0 led) }).IsList l items := ⟨_, hol', rfl, nl, rfl⟩
        unfold Builtin.«set.__init__» noKeywords Builtin.Frozenset.updateFrom
        generalize hPI : pyIter = PI
        wp_walk
        subst hPI
        refine wpAny_pyIter_list hl1 ?_
        refine wpAny_bind (wpAny_runValue ?_)
        have hlS : l < s.heap.objs.size := Heap.lt_size hol
        have hh3 : A.in1.in1.in1.handled = none := by simp [hh]
        have hneI : l ≠ (s.heap.push { cls := .type "set", dict := none, data := .set #[] 0 (.fresh 0 0 led) }).objs.size := by
          rw [Heap.size_push]; exact Nat.ne_of_lt (Nat.lt_succ_of_lt hlS)
        have hSf : s.heap.objs.size ∉ [(s.heap.push { cls := .type "set", dict := none, data := .set #[] 0 (.fresh 0 0 led) }).objs.size, l] := by
          rw [Heap.size_push]; simp only [List.mem_cons, List.mem_singleton, List.not_mem_nil, or_false, not_or]
          exact ⟨Nat.ne_of_lt (Nat.lt_succ_self _), Nat.ne_of_gt hlS⟩
        have hsz : xs.length = items.size := by rw [← StrsAre.len_eq hi, Array.length_toList]
        have hval : ∀ (i : Nat) (v : Value), items[i]? = some v → ∃ t, v = .str (xs.getD i Str.empty) t := fun i v hv => SS.strs_at hi i v (by rw [Array.getElem?_toList]; exact hv)
        rw [hsz]
        refine loopT ((Walks.list hh3 _ l hneI items).toS) s.heap.objs.size
          hSf xs hsz (by rw [← hsz]; exact hn1) hval (items.size - 0) 0 _ (by omega) (Nat.zero_le _)
          ⟨⟨_, Heap.get?_push_size _ rfl, rfl, rfl⟩, (hl1.push _)⟩ ?hS0 ?hR
        case hS0 => exact hF.at fun o e => Heap.get?_push_of_some _ e
        case hR =>
          intro s' hm hS'
          obtain ⟨h', g', d', tk', os'⟩ := s'
          have eg : g' = s.gens := hm.gens
          have ed : d' = s.drawn := hm.drawn
          have eo : os' = s.os := hm.os
          subst eg; subst ed; subst eo
          show wpAny _ _ _ _ _ _
          refine wpAny_pure ?_
          show wpAny _ _ (ret Value.none) _ _ _
          refine wpAny_pure ⟨rfl, h', tk', rfl, hS', fun b o hb e => ?_⟩
          have hb1 : b ≠ s.heap.objs.size := Nat.ne_of_lt hb
          have hb2 : b ≠ (s.heap.push { cls := .type "set", dict := none, data := .set #[] 0 (.fresh 0 0 led) }).objs.size := by
            rw [Heap.size_push]; exact Nat.ne_of_lt (Nat.lt_succ_of_lt hb)
          exact hm.heap b o (by simp only [List.mem_cons, List.mem_singleton, List.not_mem_nil, or_false, not_or]; exact ⟨hb1, hb2⟩) (Heap.get?_push_of_some _ (Heap.get?_push_of_some _ e))
      · cases r₂ with
        | error e => exact hr₂
        | ok fl₂ =>
          cases fl₂ with
          | ret r =>
            obtain ⟨rfl, h', tk, rfl, hS', hk'⟩ := hr₂
            repeat (any_goals (first | assumption | wp_step))
            exact h _ _ hS' hk'
          | _ => exact hr₂.elim
    | _ => exact hr.elim
theorem strsT_of : ∀ {vs : List Value} {es : List (Int × Value)}, vs.Perm (es.map (·.2)) → (∀ e ∈ es, GoodT w e) → ∃ ks : List Str, StrsAre vs ks ∧ ks.Perm (es.map keyT) := by
  intro vs es pm g
  have hv : ∀ v ∈ vs, ∃ k tk, v = Value.str k tk := fun v hv => by
    obtain ⟨e, he, q⟩ := List.mem_map.mp (pm.mem_iff.mp hv)
    obtain ⟨k, tk, h1, _⟩ := g e he
    exact ⟨k, tk, by rw [← q]; exact h1⟩
  let f : Value → Str := fun v => match v with
    | .str k _ => k
    | _ => Str.empty
  have all : ∀ l : List Value, (∀ v ∈ l, ∃ k tk, v = Value.str k tk) → StrsAre l (l.map f) := by
    intro l
    induction l with
    | nil => intro _; exact .nil
    | cons v l ih =>
      intro h
      obtain ⟨k, tk, rfl⟩ := h v List.mem_cons_self
      exact .cons k tk (ih fun u hu => h u (List.mem_cons_of_mem _ hu))
  refine ⟨vs.map f, all vs hv, ?_⟩
  have q := pm.map f
  rw [List.map_map] at q
  exact q
theorem sorted_setT {a : Addr} {l : List Str} {Q : Value → Shared → Prop} (R : TxR w s.heap a l) (hh : A.handled = none) (h64 : l.length < 64)
    (hQ : ∀ s' p (out : Array Value) (c : Nat) (ys : List Str), (∀ b o, s.heap.get? b = some o → s'.heap.get? b = some o) → s'.gens = s.gens → s'.os = s.os → s.heap.objs.size ≤ p →
      s'.heap.get? p = some (seqObj "list" out c) → StrsAre out.toList ys → ys.Perm l → sortedS ys = true → Q (.ref p) s') :
    wpAny (model P w) A (call (.builtin "sorted") [.ref a]) Q E s := by
  obtain ⟨o, es, ep, t, ho, hex, hd, g, pl, nd, hb, hf, hr, hl⟩ := R
  refine Calls.call_function_entry kind_sorted plain_sorted entry_sorted (args_sorted1 _) ?_
  unfold Builtin.«sorted»
  refine wpAny_bind (m := checkCount "sorted" 1 1 _) (wpAny_pure ?_)
  refine wpAny_bind (collect_set (A := A.in1) hh ⟨o, ho, hex.1, hd⟩ hf hb hr hl fun s1 vs k1 hz g1 o1 pm => ?_)
  obtain ⟨ks, hS, pk⟩ := strsT_of pm g
  have hvl : vs.length < 64 := by
    rw [StrsAre.len_eq hS, (pk.trans pl).length_eq]; exact h64
  refine wpAny_bind (wpAny_newList ?_ (by rw [sizeLine_eq]; omega))
  have hoL : (s1.heap.push (seqObj "list" vs.toArray 0)).get? s1.heap.objs.size = some (seqObj "list" vs.toArray 0) := Heap.get?_push_size _ rfl
  refine wpAny_bind (wpAny_holding (wpAny_call_entry slot_list_sort ⟨_, hoL, rfl⟩ entry_list_sort
    (list_sort_treeK strKind_oneLt (s := { s1 with heap := s1.heap.push (seqObj "list" vs.toArray 0) }) hoL hS.keysOf (fun v₁ v₂ rest e => keyKind_strs (by rw [← e]; exact hS)) hvl fun st' hp hs => ⟨_, rfl, ?_⟩) (args_list_sort _)))
  obtain ⟨ys, q1, q2, q3⟩ := sorted_out_str hS hp hs
  obtain ⟨e', he'⟩ := sortedHeap_at (vs := vs) (out := (arrOf st').map (·.2)) hoL
  refine wpAny_pure ⟨_, rfl, hQ _ s1.heap.objs.size ((arrOf st').map (·.2)) e' ys (fun b u e => ?_) g1 o1 hz he' q1 (q2.trans (pk.trans pl)) q3⟩
  have q := k1 b u e
  have hlt := Heap.lt_size q
  show (sortedHeap (s1.heap.push (seqObj "list" vs.toArray 0)) s1.heap.objs.size vs ((arrOf st').map (·.2))).get? b = some u
  rw [sortedHeap_old (Nat.ne_of_lt hlt) (by rw [size_push']; exact Nat.lt_succ_of_lt hlt)]
  exact Heap.get?_push_of_some _ q
end
end Pv
end

section
set_option Elab.async false
set_option linter.all false
set_option maxRecDepth 100000
set_option maxHeartbeats 4000000
/-! EvSet3: the rule of sorted(set(texts)). -/
namespace Pv
open PySem PySem.Spec PyProof.Rows L2
theorem dedup_mem {x : Str} : ∀ l : List Str, x ∈ dedup l ↔ x ∈ l
  | [] => Iff.rfl
  | y :: r => by
    unfold dedup
    split
    · rename_i h
      have h : y ∈ r := by simpa using h
      rw [dedup_mem r, List.mem_cons]
      exact ⟨.inr, fun z => z.elim (fun e => e ▸ h) id⟩
    · rw [List.mem_cons, List.mem_cons, dedup_mem r]
theorem dedup_nd : ∀ l : List Str, (dedup l).Nodup
  | [] => List.nodup_nil
  | y :: r => by
    unfold dedup
    split
    · exact dedup_nd r
    · rename_i h
      refine List.nodup_cons.mpr ⟨fun z => h ?_, dedup_nd r⟩
      rw [dedup_mem] at z
      simpa using z
theorem memS_dedup (xs : List Str) : (memS xs xs.length).Perm (dedup xs) := by
  refine (List.perm_ext_iff_of_nodup (memS_nd xs _) (dedup_nd xs)).mpr fun k => ?_
  rw [memS_mem xs k xs.length (Nat.le_refl _), dedup_mem, List.take_length]
/-- what sorted(set(a)) asks and gives -/
def tSetS (ta : TE) : TE := fun σ H Q => ta σ H fun x H1 => ∃ (l : Addr) (xs : List Str), x = .ref l ∧ H1 l = some (.lst (xs.map .str)) ∧ xs.length < 64 ∧ ∀ p, H1 p = none → Q (.ref p) (upd H1 p (.lst ((sortS (dedup xs)).map .str)))
theorem rising_pwT : ∀ (l : List Str) (p : Str), PyProof.Rows.risingS p l = true → (p :: l).Pairwise leS
  | [], p, _ => by simp
  | x :: r, p, h => by
    have lib : ∀ a b, PySem.Spec.ltCps a b = ltC a b := by
      intro a
      induction a with
      | nil => intro b; cases b <;> rfl
      | cons a r ih => intro b; cases b with
        | nil => rfl
        | cons b t => simp only [PySem.Spec.ltCps, ltC, ih t]
    simp only [PyProof.Rows.risingS, Bool.and_eq_true, Bool.not_eq_true', lib] at h
    have ih := rising_pwT r x h.2
    refine List.pairwise_cons.mpr ⟨fun z hz => ?_, ih⟩
    rcases List.mem_cons.mp hz with rfl | hz
    · exact h.1
    · exact leS_trans _ _ _ h.1 ((List.pairwise_cons.mp ih).1 z hz)
theorem sorted_pwT : ∀ l : List Str, PyProof.Rows.sortedS l = true → l.Pairwise leS
  | [], _ => .nil
  | x :: r, h => rising_pwT r x h
theorem pe_setS {X : Cx} {a : Expr} {ta : TE} {p p2 q pos : Pos} (hc : X.calm = true) (hg : Gl X "sorted") (hm : X.mg "sorted" = none) (hg2 : Gl X "set") (hm2 : X.mg "set" = none) (ha : PE X a ta)
    (na : starEach [a] X.env = (false, eval a X.env) :: starEach [] X.env) : PE X (.Call (.Name "sorted" p) [.Call (.Name "set" p2) [a] [] q] [] pos) (tSetS ta) := by
  refine ⟨fun pins s σ H Q I h => ?_⟩
  refine Call_ (ld_blt I hg hm PyProof.Rows.boot_sorted ?_)
  refine PyProof.Rows.callWith_builtin1 (PyProof.Rows.args_cons ?_ rfl) rfl rfl
  refine Call_ (ld_blt I hg2 hm2 PyProof.Rows.boot_set ?_)
  refine PyProof.Rows.callWith_type1 (PyProof.Rows.args_cons (thn (ha.run pins s σ H _ I h) fun v s1 ⟨x, H1, I1, r1, q1⟩ => PyProof.Rows.args_nil ?_) na) na rfl
  obtain ⟨l, xs, rfl, hq, h1, q1⟩ := q1
  cases r1
  obtain ⟨its, r, pl, hz⟩ := I1.list (.of hq)
  refine call_set_listT (I1.ok.hd hc) pl.isList (by simpa using strsAre_of r) (by omega) fun h' tk hS hk => ?_
  refine PyProof.Rows.args_nil ?_
  have I2 : Inv X pins σ H1 { s1 with heap := h', toks := tk } := I1.kept fun b o e => hk b o (Heap.lt_size e) e
  have pm := memS_dedup xs
  have h64 : (memS xs xs.length).length < 64 := Nat.lt_of_le_of_lt (memS_len xs _) h1
  refine sorted_setT (s := { s1 with heap := h', toks := tk }) hS (I1.ok.hd hc) h64 fun s' p out c ys k g o hp hg' hout pys srt => ?_
  have eys : ys = sortS (dedup xs) := sortS_uniq (pys.trans pm) (sorted_pwT _ srt)
  subst eys
  have hn : H1 p = none := I2.hok.fresh hp
  have hlen : ((sortS (dedup xs)).map V.str).length ≤ sizeLine := by
    rw [List.length_map, pys.length_eq, sizeLine_eq]; omega
  have J : Inv X pins σ (upd H1 p (.lst ((sortS (dedup xs)).map V.str))) { s1 with heap := s'.heap, gens := s'.gens, drawn := s'.drawn, toks := s'.toks } :=
    L2.Inv.call (s := { s1 with heap := h', toks := tk }) (ch := []) I2 (Un.laid k hp hn) (I2.hok.laid k hp ⟨hlen, out.toList, c, vals_of_strs hout, hg'⟩) (by rw [g]; exact I2.bare) (fun _ z => nomatch z)
  have e : s' = { s1 with heap := s'.heap, gens := s'.gens, drawn := s'.drawn, toks := s'.toks } := by
    cases s'
    cases s1
    cases o
    rfl
  rw [e]
  exact ⟨.ref p, _, J, rfl, q1 p hn⟩
section
variable {X : Cx} {W : Wr} {g : G}
theorem pe_setS2 (hc : X.calm = true) (hg : Gl X "sorted") (hm : X.mg "sorted" = none) (hg2 : Gl X "set") (hm2 : X.mg "set" = none) {ea : Expr} {a : E} {p p2 q pos : Pos} (hn : noStar ea = true) (ha : PE X ea (tO W g a)) : PE X (.Call (.Name "sorted" p) [.Call (.Name "set" p2) [ea] [] q] [] pos) (tE W (ev g (.o1 .sortedSet a))) := by
  refine mono (pe_setS hc hg hm hg2 hm2 ha (by cases ea <;> first | rfl | cases hn)) fun σ H Q hq => ?_
  obtain ⟨F, θ, s, R, q⟩ := hq
  refine opd_bind R q fun x s1 v H1 θ1 R1 k1 ox q1 => ?_
  obtain ⟨z, ez, q3⟩ := OkP.liftD q1
  simp only [Option.bind_eq_some_iff] at ez
  obtain ⟨dx, ex, ez⟩ := ez
  have cn := fin_cn R1 ox ex
  cases dx <;> first | (cases ez; done) | skip
  rename_i xs
  simp only [op1] at ez
  split at ez
  · rename_i ss hss
    split at ez
    · rename_i hl
      cases ez
      obtain ⟨b, vs, rfl, hb, rs⟩ := cn
      have := strs_rep hss rs
      subst this
      exact ⟨b, ss, rfl, hb, hl, fun p hp => q3 _ _ _ (RX.newL R1 k1 hp (repS _))⟩
    · cases ez
  · cases ez
end
end Pv
end

section
set_option Elab.async false
set_option linter.all false
set_option maxRecDepth 100000
set_option maxHeartbeats 4000000
/-! EvI: expressions, further: displays, subscripts, calls. -/
namespace Pv
open PySem PySem.Spec PyProof.Rows L2
section
variable {X : Cx} {W : Wr} {g : G}
theorem bool_x' {x : Option FX} {α : Type} {P : α → S → Prop} {A B : Out α} (q : OkP P (match x with
      | some (.d (.bl true)) => A
      | some (.d (.bl false)) => B
      | _ => .err)) : (x = some (.d (.bl true)) ∧ OkP P A) ∨ (x = some (.d (.bl false)) ∧ OkP P B) := by
  cases x with
  | none => exact q.elim
  | some x =>
    cases x with
    | f o => exact q.elim
    | d d =>
      cases d with
      | bl b =>
        cases b
        · exact .inr ⟨rfl, q⟩
        · exact .inl ⟨rfl, q⟩
      | _ => exact q.elim
theorem star_of {e : Expr} {es : List Expr} {env : Env} (h : noStar e = true) : starEach (e :: es) env = (false, eval e env) :: starEach es env := by
  cases e <;> first | rfl | cases h
theorem stars_of {es : List Expr} {env : Env} {pos : Pos} (h : es.all noStar = true) : (backTo pos (starEach es env)).any (·.1) = false := by
  induction es with
  | nil => rfl
  | cons e es ih =>
    rw [List.all_cons, Bool.and_eq_true] at h
    rw [star_of h.1]
    have := ih h.2
    show (false || _) = false
    rw [Bool.false_or]
    exact this
/-- several expressions -/
def tEs (W : Wr) (g : G) (as : List E) : TA := fun σ H Q => ∃ F θ s, Rep W F θ s σ H ∧
  OkP (fun xs s' => ∀ vs H' θ', Rep W F θ' s' σ H' → Keep (M0 θ s.ρ σ) θ H (M0 θ' s'.ρ σ) θ' H' → RepVs W (Mt F θ' s'.ρ σ) θ' H' xs vs → Q vs H') (evs g as s)
theorem pa_nil' : PA X [] (tEs W g []) := ⟨fun pos pins s σ H Q I hq => pa_nil.run pos pins s σ H Q I (by
  obtain ⟨F, θ, s', R, q⟩ := hq
  exact q [] H θ R .refl .nil)⟩
theorem pa_cons' {a : E} {as : List E} {e : Expr} {es : List Expr} (hn : noStar e = true) (ha : PE X e (tE W (ev g a))) (hr : PA X es (tEs W g as)) : PA X (e :: es) (tEs W g (a :: as)) := by
  have h := pa_cons ha hr (star_of hn)
  refine ⟨fun pos pins s σ H Q I hq => h.run pos pins s σ H Q I ?_⟩
  obtain ⟨F, θ, s', R, q⟩ := hq
  refine tE_bind R q fun x s1 v H1 θ1 rx q1 => ?_
  refine ⟨F, θ1, s1, rx.rep, (OkP.bind q1).imp fun xs s2 q2 vs H2 θ2 R2 k2 rs => ?_⟩
  exact q2 (v :: vs) H2 θ2 R2 (rx.keep.trans k2) (.cons (rx.val.keep (Keep.mt rx.rep k2)) rs)
theorem pa_list {es : List Expr} {as : List E} {c : CE} {n : Nat} (hn : es.all noStar = true) (h : es.mapM (cE c n) = some as) (he : ∀ e a, cE c n e = some a → PE X e (tE W (ev g a))) : PA X es (tEs W g as) := by
  induction es generalizing as with
  | nil => simp at h; subst h; exact pa_nil'
  | cons e es ih =>
    rw [List.all_cons, Bool.and_eq_true] at hn
    rw [List.mapM_cons] at h
    simp only [Option.bind_eq_bind, Option.bind_eq_some_iff, Option.pure_def, Option.some.injEq] at h
    obtain ⟨a, h1, bs, h2, rfl⟩ := h
    exact pa_cons' hn.1 (he e a h1) (ih hn.2 h2)
theorem pa_pre {es rest : List Expr} {as : List E} {t : TA} {c : CE} {n : Nat} (hn : es.all noStar = true) (h : es.mapM (cE c n) = some as) (he : ∀ e a, cE c n e = some a → PE X e (tE W (ev g a))) (hr : PA X rest t) :
    PA X (es ++ rest) (fun σ H Q => tEs W g as σ H fun vs H1 => t σ H1 fun ws H2 => Q (vs ++ ws) H2) := by
  induction es generalizing as with
  | nil =>
    simp at h; subst h
    refine ⟨fun pos pins s σ H Q I hq => hr.run pos pins s σ H Q I ?_⟩
    obtain ⟨F, θ, s', R, q⟩ := hq
    exact q [] H θ R .refl .nil
  | cons e es ih =>
    rw [List.all_cons, Bool.and_eq_true] at hn
    rw [List.mapM_cons] at h
    simp only [Option.bind_eq_bind, Option.bind_eq_some_iff, Option.pure_def, Option.some.injEq] at h
    obtain ⟨a, h1, bs, h2, rfl⟩ := h
    have h0 := pa_cons (he e a h1) (ih hn.2 h2) (star_of hn.1)
    refine ⟨fun pos pins s σ H Q I hq => h0.run pos pins s σ H Q I ?_⟩
    obtain ⟨F, θ, s', R, q⟩ := hq
    refine tE_bind R q fun x s1 v H1 θ1 rx q1 => ?_
    exact ⟨F, θ1, s1, rx.rep, (OkP.bind q1).imp fun xs s2 q2 vs H2 θ2 R2 k2 rs => q2 (v :: vs) H2 θ2 R2 (rx.keep.trans k2) (.cons (rx.val.keep (Keep.mt rx.rep k2)) rs)⟩
theorem pe_tup2 {es : List Expr} {as : List E} {x1 : Nat} {pos : Pos} (h : PA X es (tEs W g as)) : PE X (.Tuple es x1 pos) (tE W (ev g (.tup as))) := by
  refine mono (pe_tup h) fun σ H Q hq => ?_
  obtain ⟨F, θ, s, R, q⟩ := hq
  refine ⟨F, θ, s, R, (OkP.bind q).imp fun xs s1 q1 vs H1 θ1 R1 k1 rs => ?_⟩
  split at q1
  · rename_i hl
    exact ⟨by rw [← LINE_eq, ← rs.length]; exact hl, fun p hp => q1 _ _ _ (RX.newT R1 k1 hp rs)⟩
  · exact q1.elim
theorem pe_lst2 {es : List Expr} {as : List E} {pos : Pos} (h : PA X es (tEs W g as)) : PE X (.List es pos) (tE W (ev g (.lst as))) := by
  refine mono (pe_lst h) fun σ H Q hq => ?_
  obtain ⟨F, θ, s, R, q⟩ := hq
  refine ⟨F, θ, s, R, (OkP.bind q).imp fun xs s1 q1 vs H1 θ1 R1 k1 rs => ?_⟩
  split at q1
  · rename_i hl
    exact ⟨by rw [← LINE_eq, ← rs.length]; exact hl, fun p hp => q1 _ _ _ (RX.newL R1 k1 hp rs)⟩
  · exact q1.elim
/-! ### one operand -/
theorem ur_neg {rp : D → Option Str} : UnR X (unaryOp .USub) (fun v H Q => r1 W rp .neg [v] H Q) := by
  intro pins s σ H v u Q I rv h
  obtain ⟨x, v', m, θ, z, hv, c, e, q, mt⟩ := h
  cases hv
  cases x <;> first | (cases e; done) | skip
  cases c; cases e
  exact un_neg pins s σ H _ u Q I rv ⟨_, rfl, q _ _ (.inl ⟨rfl, .int _⟩)⟩
theorem pe_neg {a : E} {ea : Expr} {pos : Pos} (ha : PE X ea (tO W g a)) : PE X (.UnaryOp .USub ea pos) (tE W (ev g (.o1 .neg a))) :=
  pe_o1v ha fun {ta} h => pe_un ur_neg h
theorem isN_dec {m : Fb} {θ : List Addr} {H : Hp} {x : D} {v : V} {rp : D → Option Str} {z : FX} (c : Cn W m θ H x v) (e : op1 rp .isN x = some z) : z = .d (.bl (decide (v = .non))) := by
  cases x <;> cases e
  · cases c; rfl
  · cases c; rfl
  · cases c; rfl
  · cases c; rfl
  · obtain ⟨_, _, rfl, _⟩ := c; rfl
  · obtain ⟨_, _, rfl, _⟩ := c; rfl
  · obtain ⟨_, _, rfl, _⟩ := c; rfl
  · obtain ⟨_, _, rfl, _⟩ := c; rfl
  · cases c; rfl
  · cases c; rfl
  · cases c; rfl
  · obtain ⟨_, _, _, rfl, _⟩ := c; rfl
  · exact c.elim
  · cases c; rfl
theorem notN_dec {m : Fb} {θ : List Addr} {H : Hp} {x : D} {v : V} {rp : D → Option Str} {z : FX} (c : Cn W m θ H x v) (e : op1 rp .notN x = some z) : z = .d (.bl (!decide (v = .non))) := by
  cases x <;> cases e
  · cases c; rfl
  · cases c; rfl
  · cases c; rfl
  · cases c; rfl
  · obtain ⟨_, _, rfl, _⟩ := c; rfl
  · obtain ⟨_, _, rfl, _⟩ := c; rfl
  · obtain ⟨_, _, rfl, _⟩ := c; rfl
  · obtain ⟨_, _, rfl, _⟩ := c; rfl
  · cases c; rfl
  · cases c; rfl
  · cases c; rfl
  · obtain ⟨_, _, _, rfl, _⟩ := c; rfl
  · exact c.elim
  · cases c; rfl
theorem pc_isN' {a : Expr} {ta : TE} {j : Nat} {pos' : Pos} {rp : D → Option Str} (ha : PE X a ta) : PC X .Is a (.Constant .none j pos') (fun σ H Q => ta σ H fun v H1 => r1 W rp .isN [v] H1 Q) := by
  refine ⟨fun pins s σ H Q I h => ?_⟩
  refine thn (ha.run pins s σ H _ I h) fun v s1 ⟨x, H1, I1, r1', q1⟩ => ?_
  obtain ⟨x', v', m, θ, z, hv, c, e, q, mt⟩ := q1
  cases hv
  have := isN_dec c e
  subst this
  exact Constant_none (is_none_gen ⟨.bl _, H1, I1, by rw [r1'.none_iff]; rfl, q _ _ (.inl ⟨rfl, .bl _⟩)⟩)
theorem pc_notN' {a : Expr} {ta : TE} {j : Nat} {pos' : Pos} {rp : D → Option Str} (ha : PE X a ta) : PC X .IsNot a (.Constant .none j pos') (fun σ H Q => ta σ H fun v H1 => r1 W rp .notN [v] H1 Q) := by
  refine ⟨fun pins s σ H Q I h => ?_⟩
  refine thn (ha.run pins s σ H _ I h) fun v s1 ⟨x, H1, I1, r1', q1⟩ => ?_
  obtain ⟨x', v', m, θ, z, hv, c, e, q, mt⟩ := q1
  cases hv
  have := notN_dec c e
  subst this
  exact Constant_none (isnot_none_gen ⟨.bl _, H1, I1, by rw [r1'.none_iff]; rfl, q _ _ (.inl ⟨rfl, .bl _⟩)⟩)
theorem pe_isN {a : E} {ea : Expr} {j : Nat} {p pos : Pos} (ha : PE X ea (tO W g a)) : PE X (.Compare ea [.Is] [.Constant .none j p] pos) (tE W (ev g (.o1 .isN a))) :=
  pe_o1v ha fun {ta} h => pe_cmp (pc_isN' h) rfl
theorem pe_notN {a : E} {ea : Expr} {j : Nat} {p pos : Pos} (ha : PE X ea (tO W g a)) : PE X (.Compare ea [.IsNot] [.Constant .none j p] pos) (tE W (ev g (.o1 .notN a))) :=
  pe_o1v ha fun {ta} h => pe_cmp (pc_notN' h) rfl
/-! ### comparisons -/
theorem marks_of {op : CmpOp} {b : Expr} (h : notSet b = true) : behindInMarks op b = false := by
  cases b <;> first | rfl | cases h
theorem cmp_rule (hK : W.K = X.K) (hu : X.A.units + 64 < cLine) {op : CmpOp} {o : O2} (h : cmpOf op = some o) : OpR X (compareOp op) (r2 W o) := by
  cases op <;> cases h
  · exact or_eq hK hu
  · exact or_ne hK hu
  · exact or_lt
  · exact or_le
  · exact or_gt
  · exact or_ge
  · exact or_is
  · exact or_isnot
  · exact or_in hK
  · exact or_notin hK
theorem bin_rule (hK : W.K = X.K) {op : Operator} {o : O2} (h : binOf op = some o) : OpR X (binaryOp op) (r2 W o) := by
  cases op <;> first | (cases h; done) | skip
  · cases h; exact or_add hK
  · cases h; exact or_sub
  · cases h; exact or_mul hK
  · cases h; exact or_mod
  · cases h; exact or_pow
  · cases h; exact or_shr
  · cases h; exact or_band
  · cases h; exact or_fdiv
theorem pe_cmp2 (hK : W.K = X.K) (hu : X.A.units + 64 < cLine) {op : CmpOp} {o : O2} (h : cmpOf op = some o) {a b : E} {ea eb : Expr} {pos : Pos} (hb' : notSet eb = true) (ha : PE X ea (tO W g a)) (hb : PE X eb (tO W g b)) : PE X (.Compare ea [op] [eb] pos) (tE W (ev g (.o2 o a b))) :=
  pe_o2 ha hb fun h1 h2 => pe_cmpR (cmp_rule hK hu h) h1 h2 (marks_of hb')
theorem pe_bin2 (hK : W.K = X.K) {op : Operator} {o : O2} (h : binOf op = some o) {a b : E} {ea eb : Expr} {pos : Pos} (ha : PE X ea (tO W g a)) (hb : PE X eb (tO W g b)) : PE X (.BinOp ea op eb pos) (tE W (ev g (.o2 o a b))) :=
  pe_o2 ha hb fun h1 h2 => L2.pe_op (bin_rule hK h) h1 h2
theorem pe_chain2 (hK : W.K = X.K) (hu : X.A.units + 64 < cLine) {op op' : CmpOp} {o o' : O2} (h : cmpOf op = some o) (h' : cmpOf op' = some o') {a b c : E} {ea eb ec : Expr} {pos : Pos} (hb' : notSet eb = true) (hc' : notSet ec = true)
    (ha : PE X ea (tO W g a)) (hb : PE X eb (tO W g b)) (hc : PE X ec (tO W g c)) : PE X (.Compare ea [op, op'] [eb, ec] pos) (tE W (ev g (.chain o o' a b c))) := by
  refine mono (pe_chain (cmp_rule hK hu h) (cmp_rule hK hu h') ha hb hc (marks_of hc')) fun σ H Q hq => ?_
  obtain ⟨F, θ, s, R, q⟩ := hq
  refine opd_bind R q fun x s1 v H1 θ1 R1 k1 ox q1 => ?_
  refine opd_bind R1 q1 fun y s2 w H2 θ2 R2 k2 oy q2 => ?_
  have ox2 := ox.later R1 k2
  rcases bool_x' q2 with ⟨ez, q3⟩ | ⟨ez, q3⟩
  all_goals
    simp only [Option.bind_eq_some_iff] at ez
    obtain ⟨dx, ex, dy, ey, ez⟩ := ez
  · · refine ⟨dx, dy, _, θ2, _, fin_cn R2 ox2 ex, fin_cn R2 oy ey, ez, fun w' H' r => ?_, fun a z => R2.mt_there z⟩
      rcases r with ⟨rfl, r⟩ | ⟨_, _, _, h, _⟩
      · cases r
        refine ⟨true, rfl, ?_⟩
        rw [if_pos rfl]
        refine opd_bind R2 q3 fun z s3 u H3 θ3 R3 k3 oz q4 => ?_
        obtain ⟨z', ez', q5⟩ := OkP.liftD q4
        simp only [Option.bind_eq_some_iff] at ez'
        obtain ⟨dy', ey', dz, ez2, ez'⟩ := ez'
        refine ⟨dy', dz, _, θ3, z', fin_cn R3 (oy.later R2 k3) ey', fin_cn R3 oz ez2, ez', fun w' H' r => ?_, fun a z => R3.mt_there z⟩
        exact q5 _ _ _ (r.rx R3 ((k1.trans k2).trans k3))
      · cases h
  · · refine ⟨dx, dy, _, θ2, _, fin_cn R2 ox2 ex, fin_cn R2 oy ey, ez, fun w' H' r => ?_, fun a z => R2.mt_there z⟩
      rcases r with ⟨rfl, r⟩ | ⟨_, _, _, h, _⟩
      · cases r
        refine ⟨false, rfl, ?_⟩
        rw [if_neg (by decide)]
        exact q3 _ _ _ ⟨R2, k1.trans k2, .bl _⟩
      · cases h
/-! ### subscripts -/
theorem plain_ix {b : Expr} (h : notSlice b = true) : PlainIx b := by
  intro o i
  cases b <;> first | rfl | cases h
theorem pe_idx2 (hK : W.K = X.K) {a b : E} {ea eb : Expr} {pos : Pos} (hb' : notSlice eb = true) (ha : PE X ea (tO W g a)) (hb : PE X eb (tO W g b)) : PE X (.Subscript ea eb pos) (tE W (ev g (.o2 .idx a b))) :=
  pe_o2 ha hb fun h1 h2 => pe_ix (ir_idx hK) h1 h2 (plain_ix hb')
end
end Pv
end

section
set_option Elab.async false
set_option linter.all false
set_option maxRecDepth 100000
set_option maxHeartbeats 4000000
/-! EvJ: calls: a callee's frame from a caller's, and back. -/
namespace Pv
open PySem PySem.Spec PyProof.Rows L2
/-- what a callee may not touch -/
def Fb.own (F : Fb) (ρ : List Sl) (σ : L2.St) : Fb := fun a => F a ∨ Own ρ σ a
section
variable {W : Wr} {F F' : Fb} {θ θ' : List Addr} {s s' : S} {σ : L2.St} {H H' : Hp} {m0 : Fb} {θ0 : List Addr} {H0 : Hp}

theorem getN_map {as : List AX} {i : Nat} {x : Sl} (h : getN (as.map AX.sl) i = x) (hn : x ≠ .no) : ∃ a, as[i]? = some a ∧ a.sl = x := by
  rw [getN_get, List.getElem?_map] at h
  cases e : as[i]? with
  | none => rw [e] at h; exact (hn h.symm).elim
  | some a => rw [e] at h; exact ⟨a, rfl, h⟩
theorem own_vals {xs : List D} {τ : L2.St} {a : Addr} : ¬ Own (xs.map Sl.val) τ a := by
  rintro ⟨i, o, e, _⟩
  rw [getN_get, List.getElem?_map] at e
  cases q : xs[i]? with
  | none => rw [q] at e; cases e
  | some x => rw [q] at e; cases e
theorem ax_vals (xs : List D) : (xs.map AX.d).map AX.sl = xs.map Sl.val := by rw [List.map_map]; rfl
/-- into a call with data alone -/
theorem Rep.into (R : Rep W F θ s σ H) {xs : List D} {vs : List V} (rs : RepVs W (Mt F θ s.ρ σ) θ H xs vs) : Rep W (F.own s.ρ σ) θ ⟨xs.map Sl.val, s.m⟩ (vs.map some) H := by
  have sub : ∀ b, Mt (F.own s.ρ σ) θ (xs.map Sl.val) (vs.map some) b → Mt F θ s.ρ σ b := fun b z => by
    rcases z with (z | z) | z | z
    · exact .inl z
    · exact .inr (.inr z)
    · exact .inr (.inl z)
    · exact (own_vals z).elim
  refine ⟨?_, fun i o e => ?_, R.th, fun l a o e e' => (R.st l a o e e').keep (keepLess sub) fun _ e => e, R.nd, fun i j o o' a e => ?_, fun a z => (own_vals z).elim, fun a f z => ?_, fun a f => ?_⟩
  · show (xs.map Sl.val).length = _
    rw [List.length_map, List.length_map]; exact rs.length
  · rw [List.getElem?_map, Option.map_eq_some_iff] at e
    obtain ⟨v, e, rfl⟩ := e
    obtain ⟨d, e', r⟩ := rs.getV e
    show SltR W _ θ H (getN (xs.map Sl.val) i) (some v)
    rw [getN_get, List.getElem?_map, e']
    exact RepV.keep (keepLess sub) r
  · have e : getN (xs.map Sl.val) i = .own o := e
    rw [getN_get, List.getElem?_map] at e
    cases q : xs[i]? with
    | none => rw [q] at e; cases e
    | some x => rw [q] at e; cases e
  · rcases z with z | z
    · rcases f with f | f
      · exact R.FT a f (.inl z)
      · exact R.ownT a f z
    · exact own_vals z
  · rcases f with f | f
    · exact R.Fd a f
    · exact R.mt_there (.inr (.inr f))
/-- the caller's frame behind a call -/
theorem Rep.back (R : Rep W F θ s σ H) {m' : List Ob} {τ : L2.St} {G : Fb} (hG : ∀ a, Own s.ρ σ a → G a) (hF : ∀ a, F a → G a) (R' : Rep W G θ' ⟨[], m'⟩ τ H') (k : Keep (M0 θ s.ρ σ) θ H (M0 θ' [] τ) θ' H')
    (kp : ∀ a o, H a = some o → Own s.ρ σ a → H' a = some o) : Rep W F θ' ⟨s.ρ, m'⟩ σ H' ∧ Keep (M0 θ s.ρ σ) θ H (M0 θ' s.ρ σ) θ' H' := by
  have no : ∀ b, ¬ Own [] τ b := fun b ⟨i, o, e, _⟩ => by cases e
  have eq1 : ∀ b, Mt F θ' s.ρ σ b → Mt G θ' [] τ b := fun b z => by
    rcases z with z | z | z
    · exact .inl (hF b z)
    · exact .inr (.inl z)
    · exact .inl (hG b z)
  have k' : Keep (M0 θ s.ρ σ) θ H (M0 θ' s.ρ σ) θ' H' := ⟨k.kp, fun a o e z => by
    rcases z with z | z
    · exact k.mm a o e (.inl z)
    · exact .inr z, k.th⟩
  have kF : Keep (Mt F θ s.ρ σ) θ H (Mt F θ' s.ρ σ) θ' H' := k'.fb
  refine ⟨⟨R.len, fun i o e => ?_, R'.th, fun l a o e e' => (R'.st l a o e e').keep (keepLess eq1) fun _ e => e, R'.nd, R.own1, fun a z q => ?_, fun a f z => ?_, fun a f => R'.Fd a (hF a f)⟩, k'⟩
  · have := R.sl i o e
    show SltR W (Mt F θ' s.ρ σ) θ' H' (getN s.ρ i) o
    revert this
    cases g : getN s.ρ i with
    | no => exact id
    | val d => cases o with
      | none => exact id
      | some v => exact fun r => RepV.keep kF r
    | own ob => cases o with
      | none => exact id
      | some v =>
        rintro ⟨a, rfl, r⟩
        exact ⟨a, rfl, r.keep kF fun u hu => kp a u hu ⟨i, ob, g, e⟩⟩
    | clo f caps => cases o with
      | none => exact id
      | some v => exact cloKeep kF
  · exact R'.FT a (hG a z) (.inl q)
  · rcases z with z | z
    · exact R'.FT a (hF a f) (.inl z)
    · exact R.FT a f (.inr z)
/-- an end of a callee with data alone as an end at the caller -/
theorem RX.back (R : Rep W F θ s σ H) {m' : List Ob} {τ τ' : L2.St} {xs : List D} {x : FX} {v : V} (h : RX W (F.own s.ρ σ) (M0 θ (xs.map Sl.val) τ) θ H θ' ⟨[], m'⟩ τ' H' x v) : RX W F (M0 θ s.ρ σ) θ H θ' ⟨s.ρ, m'⟩ σ H' x v := by
  have sub0 : ∀ b, M0 θ (xs.map Sl.val) τ b → b ∈ θ := fun b z => z.elim id fun z => (own_vals z).elim
  have kp : ∀ {mm : Fb}, Keep (M0 θ (xs.map Sl.val) τ) θ H mm θ' H' → ∀ a o, H a = some o → Own s.ρ σ a → H' a = some o := fun k a o e z => k.kp a o e fun q => R.ownT a z (sub0 a q)
  cases x with
  | d d =>
    obtain ⟨R', k, r⟩ := h
    obtain ⟨R2, k2⟩ := R.back (fun a z => .inr z) (fun a z => .inl z) R' (k.more fun b z => .inl (sub0 b z)) (kp k)
    refine ⟨R2, k2, RepV.keep (keepLess ?_) r⟩
    rintro b (z | z | z)
    · exact .inl (.inl z)
    · exact .inr (.inl z)
    · exact .inl (.inr z)
  | f o =>
    obtain ⟨a, rfl, n, R', k, r⟩ := h
    have kl : Keep (M0 θ (xs.map Sl.val) τ) θ H (M0 θ' [] τ') θ' H' := k.less fun b z => .inl z
    have hn : ¬ Own s.ρ σ a := fun z => n (.inr z)
    -- the same with the new object forbidden
    have R0 : Rep W ((F.and a).own s.ρ σ) θ' ⟨[], m'⟩ τ' H' := R'.lessF fun b z => by
      rcases z with (z | z) | z
      · exact .inl (.inl z)
      · exact .inr z
      · exact .inl (.inr z)
    obtain ⟨R1, k1⟩ := R.back (G := F.own s.ρ σ) (fun a z => .inr z) (fun a z => .inl z) (R0.lessF fun b z => z.elim (fun z => .inl (.inl z)) .inr) (kl.more fun b z => .inl (sub0 b z)) (kp kl)
    have R2 : Rep W (F.and a) θ' ⟨s.ρ, m'⟩ σ H' := by
      have sub : ∀ b, Mt (F.and a) θ' s.ρ σ b → Mt ((F.and a).own s.ρ σ) θ' [] τ' b := fun b z => by
        rcases z with z | z | z
        · exact .inl (.inl z)
        · exact .inr (.inl z)
        · exact .inl (.inr z)
      have slf : ∀ i o, σ[i]? = some o → SltR W (Mt (F.and a) θ' s.ρ σ) θ' H' (getN s.ρ i) o := fun i o e => by
        have q := R.sl i o e
        have kF : Keep (Mt F θ s.ρ σ) θ H (Mt (F.and a) θ' s.ρ σ) θ' H' := ⟨fun b o e n => by
            by_cases hb : b ∈ θ
            · exact (n (.inr (.inl hb))).elim
            · exact k.kp b o e fun z => hb (sub0 b z), fun b o e z => by
            rcases z with (z | z) | z | z
            · exact .inl z
            · subst z
              exact .inr (.inl (sub0 b (k.mm b o e (.inr rfl))))
            · exact .inr (.inl (sub0 b (k.mm b o e (.inl (.inl z)))))
            · exact .inr (.inr z), k.th⟩
        revert q
        cases g : getN s.ρ i with
        | no => exact id
        | val d => cases o with
          | none => exact id
          | some v => exact fun r => RepV.keep kF r
        | own ob => cases o with
          | none => exact id
          | some v =>
            rintro ⟨b, rfl, r⟩
            exact ⟨b, rfl, r.keep kF fun u hu => kp kl b u hu ⟨i, ob, g, e⟩⟩
        | clo f caps => cases o with
          | none => exact id
          | some v => exact cloKeep kF
      refine ⟨R.len, slf, R'.th, fun l b o e e' => (R0.st l b o e e').keep (keepLess sub) fun _ e => e, R'.nd, R.own1, R1.ownT, fun b f z => ?_, fun b f => R0.Fd b (.inl f)⟩
      rcases f with f | f
      · exact R1.FT b f z
      · subst f
        rcases z with z | z
        · exact R'.FT b (.inr rfl) (.inl z)
        · exact hn z
    refine ⟨a, rfl, fun z => n (.inl z), R2, ⟨fun b o e q => ?_, fun b o e z => ?_, k.th⟩, ?_⟩
    · exact kl.kp b o e fun z => q (.inl (sub0 b z))
    · rcases z with (z | z) | z
      · exact .inl (sub0 b (k.mm b o e (.inl (.inl z))))
      · exact .inr z
      · subst z; exact .inl (sub0 b (k.mm b o e (.inr rfl)))
    · refine r.keep (m' := Mt (F.and a) θ' s.ρ σ) (keepLess ?_) fun _ e => e
      rintro b ((z | z) | z | z)
      · exact .inl (.inl (.inl z))
      · exact .inl (.inr z)
      · exact .inr (.inl z)
      · exact .inl (.inl (.inr z))
end
end Pv
end

section
set_option Elab.async false
set_option linter.all false
set_option maxRecDepth 100000
set_option maxHeartbeats 4000000
/-! EvK: frames: their start and end, names stored, several new objects at once; statements. -/
namespace Pv
open PySem PySem.Spec PyProof.Rows L2
section
variable {W : Wr} {F F' : Fb} {θ θ' : List Addr} {s s' : S} {σ : L2.St} {H H' : Hp} {m0 : Fb} {θ0 : List Addr} {H0 : Hp}

theorem SltR.sub {m m' : Fb} {θ' : List Addr} {H' : Hp} {x : Sl} {o : Option V} (h : SltR W m θ H x o) (k : Keep m θ H m' θ' H') (hk : ∀ ob a u, x = .own ob → o = some (.ref a) → H a = some u → H' a = some u) : SltR W m' θ' H' x o := by
  cases x with
  | no => trivial
  | val d => cases o with
    | none => exact h
    | some v => exact RepV.keep k h
  | own ob => cases o with
    | none => exact h
    | some v => obtain ⟨a, rfl, r⟩ := h; exact ⟨a, rfl, r.keep k fun u e => hk ob a u rfl rfl e⟩
  | clo f caps => cases o with
    | none => exact h
    | some v => exact cloKeep k h
theorem SltR.less {m m' : Fb} {x : Sl} {o : Option V} (h : SltR W m θ H x o) (k : ∀ a, m' a → m a) : SltR W m' θ H x o := h.sub (keepLess k) fun _ _ _ _ _ e => e

theorem getN_app {ρ : List Sl} {n i : Nat} : getN (ρ ++ List.replicate n Sl.no) i = getN ρ i := by
  rw [getN_get, getN_get, List.getElem?_append]
  split
  · rfl
  · rename_i h
    rw [List.getElem?_replicate, List.getElem?_eq_none (Nat.le_of_not_lt h)]
    split <;> rfl
theorem own_grow {ρ : List Sl} {n : Nat} {a : Addr} (hl : ρ.length = σ.length) : Own (ρ ++ List.replicate n Sl.no) (σ ++ List.replicate n none) a ↔ Own ρ σ a := by
  constructor
  · rintro ⟨i, o, e, e'⟩
    rw [getN_app] at e
    refine ⟨i, o, e, ?_⟩
    have : i < ρ.length := getN_lt (by rw [e]; intro z; cases z)
    rw [List.getElem?_append_left (by omega)] at e'
    exact e'
  · rintro ⟨i, o, e, e'⟩
    refine ⟨i, o, by rw [getN_app]; exact e, ?_⟩
    rw [List.getElem?_append_left (List.getElem?_eq_some_iff.mp e').1]; exact e'
/-- more names, without a value -/
theorem Rep.grow {ρ : List Sl} {m : List Ob} (R : Rep W F θ ⟨ρ, m⟩ σ H) (n : Nat) : Rep W F θ ⟨ρ ++ List.replicate n Sl.no, m⟩ (σ ++ List.replicate n none) H := by
  have hl : ρ.length = σ.length := R.len
  have sub0 : ∀ b, M0 θ (ρ ++ List.replicate n Sl.no) (σ ++ List.replicate n none) b → M0 θ ρ σ b := fun b z => z.imp id (own_grow hl).mp
  have sub : ∀ b, Mt F θ (ρ ++ List.replicate n Sl.no) (σ ++ List.replicate n none) b → Mt F θ ρ σ b := fun b z => z.imp id (sub0 b)
  refine ⟨by simp [hl], fun i o e => ?_, R.th, fun l a o e e' => (R.st l a o e e').keep (keepLess sub) fun _ e => e, R.nd, fun i j o o' a e1 e2 e3 e4 => ?_, fun a z => R.ownT a ((own_grow hl).mp z), fun a f z => R.FT a f (sub0 a z), R.Fd⟩
  · show SltR W _ θ H (getN (ρ ++ _) i) o
    rw [getN_app]
    by_cases hi : i < σ.length
    · rw [List.getElem?_append_left hi] at e
      exact (R.sl i o e).less sub
    · have : getN ρ i = .no := by
        rw [getN_get, List.getElem?_eq_none (by omega)]; rfl
      rw [this]; trivial
  · have e1 : getN (ρ ++ List.replicate n Sl.no) i = .own o := e1
    have e2 : getN (ρ ++ List.replicate n Sl.no) j = .own o' := e2
    rw [getN_app] at e1 e2
    have h1 : i < ρ.length := getN_lt (by rw [e1]; intro z; cases z)
    have h2 : j < ρ.length := getN_lt (by rw [e2]; intro z; cases z)
    rw [List.getElem?_append_left (by omega)] at e3 e4
    exact R.own1 i j o o' a e1 e2 e3 e4
/-- the frame is left -/
theorem Rep.drop (R : Rep W F θ s σ H) : Rep W F θ ⟨[], s.m⟩ [] H := by
  have no : ∀ b, ¬ Own [] [] b := fun b ⟨i, o, e, _⟩ => by cases e
  have sub0 : ∀ b, M0 θ [] [] b → M0 θ s.ρ σ b := fun b z => z.imp id fun z => (no b z).elim
  refine ⟨rfl, fun i o e => by simp at e, R.th, fun l a o e e' => (R.st l a o e e').keep (keepLess fun b z => z.imp id (sub0 b)) fun _ e => e, R.nd, fun i j o o' a e => (nomatch e), fun a z => (no a z).elim, fun a f z => R.FT a f (sub0 a z), R.Fd⟩
theorem RX.drop {x : FX} {v : V} (h : RX W F m0 θ0 H0 θ s σ H x v) : RX W F m0 θ0 H0 θ ⟨[], s.m⟩ [] H x v := by
  have no : ∀ b, ¬ Own [] [] b := fun b ⟨i, o, e, _⟩ => by cases e
  have sub0 : ∀ b, M0 θ [] [] b → M0 θ s.ρ σ b := fun b z => z.imp id fun z => (no b z).elim
  cases x with
  | d d =>
    obtain ⟨R, k, r⟩ := h
    exact ⟨R.drop, k.less sub0, RepV.keep (keepLess fun b z => z.imp id (sub0 b)) r⟩
  | f o =>
    obtain ⟨a, rfl, n, R, k, r⟩ := h
    exact ⟨a, rfl, n, R.drop, k.less fun b z => z.imp (sub0 b) id, r.keep (keepLess fun b z => z.imp id (sub0 b)) fun _ e => e⟩

/-! ### a name is stored -/
theorem own_put {ρ : List Sl} {i : Nat} {x : Sl} {v : V} {a : Addr} (h : Own (setN ρ i x) (σ.set i (some v)) a) : (∃ o, x = .own o ∧ v = .ref a) ∨ ∃ j o, j ≠ i ∧ getN ρ j = .own o ∧ σ[j]? = some (some (.ref a)) := by
  obtain ⟨j, o, e, e'⟩ := h
  rw [getN_setN] at e
  rw [List.getElem?_set] at e'
  by_cases q : i = j
  · subst q
    have hi : i < ρ.length := by
      refine Nat.lt_of_not_le fun z => ?_
      rw [if_neg (by omega), getN_get, List.getElem?_eq_none z] at e; cases e
    rw [if_pos ⟨rfl, hi⟩] at e
    rw [if_pos rfl] at e'
    split at e'
    · cases e'; exact .inl ⟨o, e, rfl⟩
    · cases e'
  · rw [if_neg (by simp [q])] at e
    rw [if_neg q] at e'
    exact .inr ⟨j, o, fun z => q z.symm, e, e'⟩
/-- data stored -/
theorem Rep.putD (R : Rep W F θ s σ H) {i : Nat} {d : D} {v : V} (r : RepV W (Mt F θ s.ρ σ) θ H d v) :
    Rep W F θ (s.set i (.val d)) (σ.set i (some v)) H ∧ ∀ b, M0 θ (setN s.ρ i (.val d)) (σ.set i (some v)) b → M0 θ s.ρ σ b := by
  have sub0 : ∀ b, M0 θ (setN s.ρ i (.val d)) (σ.set i (some v)) b → M0 θ s.ρ σ b := fun b z => z.imp id fun z => by
    rcases own_put z with ⟨o, e, _⟩ | ⟨j, o, _, e, e'⟩
    · cases e
    · exact ⟨j, o, e, e'⟩
  have sub : ∀ b, Mt F θ (setN s.ρ i (.val d)) (σ.set i (some v)) b → Mt F θ s.ρ σ b := fun b z => z.imp id (sub0 b)
  refine ⟨⟨by show (setN s.ρ i _).length = _; rw [setN_length, List.length_set]; exact R.len, fun j o e => ?_, R.th, fun l a o e e' => (R.st l a o e e').keep (keepLess sub) fun _ e => e, R.nd, fun j k o o' a e1 e2 e3 e4 => ?_, fun a z => ?_, fun a f z => R.FT a f (sub0 a z), R.Fd⟩, sub0⟩
  · show SltR W _ θ H (getN (setN s.ρ i (.val d)) j) o
    rw [getN_setN]
    rw [List.getElem?_set] at e
    by_cases q : i = j
    · subst q
      rw [if_pos rfl] at e
      split at e
      · rename_i hi
        cases e
        rw [if_pos ⟨rfl, by rw [R.len]; exact hi⟩]
        exact RepV.keep (keepLess sub) r
      · cases e
    · rw [if_neg q] at e
      rw [if_neg (by simp [q])]
      exact (R.sl j o e).less sub
  · have f : ∀ {j o a}, getN (setN s.ρ i (.val d)) j = .own o → (σ.set i (some v))[j]? = some (some (.ref a)) → getN s.ρ j = .own o ∧ σ[j]? = some (some (.ref a)) := fun {j o a} e e' => by
      rw [getN_setN] at e
      split at e
      · cases e
      · rename_i hq
        rw [List.getElem?_set] at e'
        by_cases q : i = j
        · subst q
          exfalso
          refine hq ⟨rfl, getN_lt (by rw [e]; intro z; cases z)⟩
        · rw [if_neg q] at e'; exact ⟨e, e'⟩
    exact R.own1 j k o o' a (f e1 e3).1 (f e2 e4).1 (f e1 e3).2 (f e2 e4).2
  · rcases own_put z with ⟨o, e, _⟩ | ⟨j, o, _, e, e'⟩
    · cases e
    · exact R.ownT a ⟨j, o, e, e'⟩
/-- a new object stored -/
theorem Rep.putO {a : Addr} {o : Ob} (n : ¬ F a) (R : Rep W (F.and a) θ s σ H) {i : Nat} (hi : i < s.ρ.length) (r : ObR W (Mt (F.and a) θ s.ρ σ) θ H o a) :
    Rep W F θ (s.set i (.own o)) (σ.set i (some (.ref a))) H ∧ ∀ b, M0 θ (setN s.ρ i (.own o)) (σ.set i (some (.ref a))) b → M0 θ s.ρ σ b ∨ b = a := by
  have sub0 : ∀ b, M0 θ (setN s.ρ i (.own o)) (σ.set i (some (.ref a))) b → M0 θ s.ρ σ b ∨ b = a := fun b z => by
    rcases z with z | z
    · exact .inl (.inl z)
    · rcases own_put z with ⟨o, e, e'⟩ | ⟨j, o, _, e, e'⟩
      · cases e'; exact .inr rfl
      · exact .inl (.inr ⟨j, o, e, e'⟩)
  have na : ¬ M0 θ s.ρ σ a := R.FT a (.inr rfl)
  have sub : ∀ b, Mt F θ (setN s.ρ i (.own o)) (σ.set i (some (.ref a))) b → Mt (F.and a) θ s.ρ σ b := fun b z => by
    rcases z with z | z
    · exact .inl (.inl z)
    · rcases sub0 b z with z | z
      · exact .inr z
      · exact .inl (.inr z)
  have inv : ∀ {j o' b}, getN (setN s.ρ i (.own o)) j = .own o' → (σ.set i (some (.ref a)))[j]? = some (some (.ref b)) → (j = i ∧ b = a) ∨ (j ≠ i ∧ getN s.ρ j = .own o' ∧ σ[j]? = some (some (.ref b))) := fun {j o' b} e e' => by
    rw [getN_setN] at e
    rw [List.getElem?_set] at e'
    by_cases q : i = j
    · subst q
      rw [if_pos rfl] at e'
      split at e'
      · cases e'; exact .inl ⟨rfl, rfl⟩
      · cases e'
    · rw [if_neg (by simp [q])] at e
      rw [if_neg q] at e'
      exact .inr ⟨fun z => q z.symm, e, e'⟩
  refine ⟨⟨by show (setN s.ρ i _).length = _; rw [setN_length, List.length_set]; exact R.len, fun j u e => ?_, R.th, fun l b u e e' => (R.st l b u e e').keep (keepLess sub) fun _ e => e, R.nd, fun j k o' o'' b e1 e2 e3 e4 => ?_, fun b z => ?_, fun b f z => ?_, fun b f => R.Fd b (.inl f)⟩, sub0⟩
  · show SltR W _ θ H (getN (setN s.ρ i (.own o)) j) u
    rw [getN_setN]
    rw [List.getElem?_set] at e
    by_cases q : i = j
    · subst q
      rw [if_pos rfl] at e
      split at e
      · cases e
        rw [if_pos ⟨rfl, hi⟩]
        exact ⟨a, rfl, r.keep (keepLess sub) fun _ e => e⟩
      · cases e
    · rw [if_neg q] at e
      rw [if_neg (by simp [q])]
      exact (R.sl j u e).less sub
  · rcases inv e1 e3 with ⟨rfl, rfl⟩ | ⟨h1, h2, h3⟩
    · rcases inv e2 e4 with ⟨rfl, _⟩ | ⟨h4, h5, h6⟩
      · rfl
      · exact (na (.inr ⟨_, _, h5, h6⟩)).elim
    · rcases inv e2 e4 with ⟨rfl, rfl⟩ | ⟨h4, h5, h6⟩
      · exact (na (.inr ⟨_, _, h2, h3⟩)).elim
      · exact R.own1 j k o' o'' b h2 h5 h3 h6
  · rcases own_put z with ⟨o', e, e'⟩ | ⟨j, o', _, e, e'⟩
    · cases e'; exact fun q => na (.inl q)
    · exact R.ownT b ⟨j, o', e, e'⟩
  · rcases sub0 b z with z | z
    · exact R.FT b (.inl f) z
    · subst z; exact n f
/-- what an expression handed on, stored -/
theorem RX.put {x : FX} {v : V} (h : RX W F m0 θ0 H0 θ s σ H x v) {i : Nat} (hi : i < s.ρ.length) : Rep W F θ (s.set i (.of x)) (σ.set i (some v)) H ∧ Keep m0 θ0 H0 (M0 θ (setN s.ρ i (.of x)) (σ.set i (some v))) θ H := by
  cases x with
  | d d =>
    obtain ⟨R, k, r⟩ := h
    obtain ⟨R', sub⟩ := R.putD (i := i) r
    exact ⟨R', k.less sub⟩
  | f o =>
    obtain ⟨a, rfl, n, R, k, r⟩ := h
    obtain ⟨R', sub⟩ := R.putO n hi r
    exact ⟨R', k.less sub⟩
/-- a name is returned, its object handed on -/
theorem Rep.take (R : Rep W F θ s σ H) {i : Nat} {o : Ob} (h : getN s.ρ i = .own o) : ∃ a, σ[i]? = some (some (.ref a)) ∧ RX W F (M0 θ s.ρ σ) θ H θ (s.set i .no) σ H (.f o) (.ref a) := by
  obtain ⟨a, e, r⟩ := R.own h
  have hO : Own s.ρ σ a := ⟨i, o, h, e⟩
  have sub0 : ∀ b, M0 θ (setN s.ρ i .no) σ b → M0 θ s.ρ σ b := fun b z => z.imp id (own_set_no fun o' q => by cases q)
  have na : ¬ M0 θ (setN s.ρ i .no) σ a := by
    rintro (z | ⟨j, o', e1, e2⟩)
    · exact R.ownT a hO z
    · rw [getN_setN] at e1
      split at e1
      · cases e1
      · rename_i q
        have := R.own1 j i o' o a e1 h e2 e
        subst this
        exact q ⟨rfl, getN_lt (by rw [e1]; intro z; cases z)⟩
  have sub : ∀ b, Mt (F.and a) θ (setN s.ρ i .no) σ b → Mt F θ s.ρ σ b := fun b z => by
    rcases z with (z | z) | z
    · exact .inl z
    · subst z; exact .inr (.inr hO)
    · exact .inr (sub0 b z)
  have gx : ∀ {j o'}, getN (setN s.ρ i .no) j = .own o' → getN s.ρ j = .own o' := fun {j o'} e => by
    rw [getN_setN] at e
    split at e
    · cases e
    · exact e
  refine ⟨a, e, a, rfl, fun z => R.FT a z (.inr hO), ⟨?_, fun j u hu => ?_, R.th, fun l b u e1 e2 => (R.st l b u e1 e2).keep (keepLess sub) fun _ e => e, R.nd, fun j k o1 o2 b e1 e2 e3 e4 => R.own1 j k o1 o2 b (gx e1) (gx e2) e3 e4, fun b z => R.ownT b (own_set_no (fun o' q => by cases q) z), fun b f z => ?_, fun b f => ?_⟩, keepLess fun b z => ?_, r.keep (keepLess sub) fun _ e => e⟩
  · show (setN s.ρ i _).length = _
    rw [setN_length]; exact R.len
  · show SltR W _ θ H (getN (setN s.ρ i .no) j) u
    rw [getN_setN]
    split
    · trivial
    · exact (R.sl j u hu).less sub
  · rcases f with f | f
    · exact R.FT b f (sub0 b z)
    · subst f; exact na z
  · rcases f with f | f
    · exact R.Fd b f
    · subst f; exact R.mt_there (.inr (.inr hO))
  · rcases z with z | z
    · exact sub0 b z
    · subst z; exact .inr hO
/-- an object that a name owns is changed -/
theorem Rep.chgO (R : Rep W F θ s σ H) {i : Nat} {o o' : Ob} {b : Addr} {u : HO} (g : getN s.ρ i = .own o) (e : σ[i]? = some (some (.ref b))) (mu : MutT (some u))
    (h : ∀ m' θ' H'', Keep (Mt F θ s.ρ σ) θ H m' θ' H'' → H'' = upd H b u → ObR W m' θ' H'' o' b) :
    Rep W F θ (s.set i (.own o')) σ (upd H b u) ∧ Keep (M0 θ s.ρ σ) θ H (M0 θ (setN s.ρ i (.own o')) σ) θ (upd H b u) := by
  have hi : i < s.ρ.length := getN_lt (by rw [g]; intro z; cases z)
  have hO : Own s.ρ σ b := ⟨i, o, g, e⟩
  have sub0 : ∀ a, M0 θ (setN s.ρ i (.own o')) σ a → M0 θ s.ρ σ a := fun a z => z.imp id fun ⟨j, o2, e1, e2⟩ => by
    rw [getN_setN] at e1
    split at e1
    · rename_i q; obtain ⟨rfl, _⟩ := q; exact ⟨i, o, g, e2⟩
    · exact ⟨j, o2, e1, e2⟩
  · have eqv : ∀ {j o'' a}, getN (setN s.ρ i (.own o')) j = .own o'' → σ[j]? = some (some (.ref a)) → ∃ o3, getN s.ρ j = .own o3 := fun {j o'' a} e1 _ => by
      rw [getN_setN] at e1
      split at e1
      · rename_i q; obtain ⟨rfl, _⟩ := q; exact ⟨o, g⟩
      · exact ⟨_, e1⟩
    have k : Keep (Mt F θ s.ρ σ) θ H (Mt F θ (setN s.ρ i (.own o')) σ) θ (upd H b u) := .chg (.inr (.inr hO)) fun a z => z.imp id (sub0 a)
    have kn : ∀ {a u'}, a ≠ b → H a = some u' → upd H b u a = some u' := fun {a u'} n q => by rw [upd_ne n]; exact q
    refine ⟨⟨by show (setN s.ρ i _).length = _; rw [setN_length]; exact R.len, fun j w hw => ?_, R.th, fun l a o'' e1 e2 => (R.st l a o'' e1 e2).keep k fun u' q => kn (fun z => R.ownT b hO (z ▸ List.mem_of_getElem? e1)) q, R.nd, fun j k' o1 o2 a e1 e2 e3 e4 => ?_, fun a z => R.ownT a ?_, fun a f z => R.FT a f (sub0 a z), fun a f => ?_⟩, .chg (.inr hO) sub0⟩
    · show SltR W _ θ _ (getN (setN s.ρ i (.own o')) j) w
      rw [getN_setN]
      split
      · rename_i q
        obtain ⟨rfl, _⟩ := q
        rw [e] at hw; cases hw
        exact ⟨b, rfl, h _ _ _ k rfl⟩
      · rename_i q
        refine (R.sl j w hw).sub k fun ob a u' e1 e2 e3 => kn (fun z => ?_) e3
        subst e2; subst z
        have := R.own1 j i ob o _ e1 g hw e
        exact q ⟨this.symm, hi⟩
    · obtain ⟨o3, q1⟩ := eqv e1 e3
      obtain ⟨o4, q2⟩ := eqv e2 e4
      exact R.own1 j k' o3 o4 a q1 q2 e3 e4
    · obtain ⟨j, o'', e1, e2⟩ := z
      obtain ⟨o3, q1⟩ := eqv e1 e2
      exact ⟨j, o3, q1, e2⟩
    · obtain ⟨w, e1, m⟩ := R.Fd a f
      by_cases z : a = b
      · subst z; exact ⟨u, upd_same, mu⟩
      · exact ⟨w, kn z e1, m⟩
/-- an object of the store is changed -/
theorem Rep.chgT (R : Rep W F θ s σ H) {l : Nat} {o o' : Ob} {b : Addr} {u : HO} (ht : θ[l]? = some b) (g : s.m[l]? = some o) (mu : MutT (some u))
    (h : ∀ m' θ' H'', Keep (Mt F θ s.ρ σ) θ H m' θ' H'' → H'' = upd H b u → ObR W m' θ' H'' o' b) :
    Rep W F θ ⟨s.ρ, s.m.set l o'⟩ σ (upd H b u) ∧ Keep (M0 θ s.ρ σ) θ H (M0 θ s.ρ σ) θ (upd H b u) := by
  have hm : b ∈ θ := List.mem_of_getElem? ht
  have k : Keep (Mt F θ s.ρ σ) θ H (Mt F θ s.ρ σ) θ (upd H b u) := .chg (.inr (.inl hm)) fun a z => z
  have kn : ∀ {a u'}, a ≠ b → H a = some u' → upd H b u a = some u' := fun {a u'} n q => by rw [upd_ne n]; exact q
  refine ⟨⟨R.len, fun j w hw => (R.sl j w hw).sub k fun ob a u' e1 e2 e3 => kn (fun z => ?_) e3, by simp [R.th], fun l' a o'' e1 e2 => ?_, R.nd, R.own1, R.ownT, R.FT, fun a f => ?_⟩, .chg (.inl hm) fun a z => z⟩
  · subst e2; subst z
    exact R.ownT _ ⟨j, ob, e1, hw⟩ hm
  · have e2 : (s.m.set l o')[l']? = some o'' := e2
    rw [List.getElem?_set] at e2
    by_cases q : l = l'
    · subst q
      rw [ht] at e1; cases e1
      rw [if_pos rfl] at e2
      split at e2
      · cases e2; exact h _ _ _ k rfl
      · cases e2
    · rw [if_neg q] at e2
      refine (R.st l' a o'' e1 e2).keep k fun u' q' => kn (fun z => ?_) q'
      subst z
      have h1 := (List.getElem?_eq_some_iff.mp ht)
      have h2 := (List.getElem?_eq_some_iff.mp e1)
      obtain ⟨l1, h1⟩ := h1
      obtain ⟨l2, h2⟩ := h2
      rcases Nat.lt_trichotomy l l' with z | z | z
      · exact (List.pairwise_iff_getElem.mp R.nd) l l' l1 l2 z (h1.trans h2.symm)
      · exact q z
      · exact (List.pairwise_iff_getElem.mp R.nd) l' l l2 l1 z (h2.trans h1.symm)
  · obtain ⟨w, e1, m⟩ := R.Fd a f
    by_cases z : a = b
    · subst z; exact ⟨u, upd_same, mu⟩
    · exact ⟨w, kn z e1, m⟩
end
end Pv
end

section
set_option Elab.async false
set_option linter.all false
set_option maxRecDepth 100000
set_option maxHeartbeats 4000000
/-! EvL: statements. -/
namespace Pv
open PySem PySem.Spec PyProof.Rows L2
/-- what a statement's end is wanted to bear -/
def PF (W : Wr) (F : Fb) (m0 : Fb) (θ0 : List Addr) (H0 : Hp) (fx : List Nat) (σ0 : L2.St) (D : Ends) : Fl → S → Prop
  | .nx, s => ∀ σ H θ, Rep W F θ s σ H → Keep m0 θ0 H0 (M0 θ s.ρ σ) θ H → (∀ j ∈ fx, σ[j]? = σ0[j]?) → D.nx σ H
  | .brk, s => ∀ σ H θ, Rep W F θ s σ H → Keep m0 θ0 H0 (M0 θ s.ρ σ) θ H → (∀ j ∈ fx, σ[j]? = σ0[j]?) → D.bk σ H
  | .cont, s => ∀ σ H θ, Rep W F θ s σ H → Keep m0 θ0 H0 (M0 θ s.ρ σ) θ H → (∀ j ∈ fx, σ[j]? = σ0[j]?) → D.ct σ H
  | .ret x, s => ∀ v σ H θ, RX W F m0 θ0 H0 θ s σ H x v → D.rt v H
/-- a statement's reading -/
def tS (W : Wr) (fx : List Nat) (r : S → Out Fl) : TS := fun D σ H => ∃ F θ s, Rep W F θ s σ H ∧ OkP (PF W F (M0 θ s.ρ σ) θ H fx σ D) (r s)
section
variable {W : Wr} {F : Fb} {θ θ' : List Addr} {s s' : S} {σ σ' : L2.St} {H H' : Hp} {m0 m1 : Fb} {θ0 θ1 : List Addr} {H0 H1 : Hp} {D : Ends}
theorem PF.from {fx : List Nat} {σ0 σ1 : L2.St} {fl : Fl} (h : PF W F m0 θ0 H0 fx σ0 D fl s) (k : Keep m0 θ0 H0 m1 θ1 H1) (e : ∀ j ∈ fx, σ1[j]? = σ0[j]?) : PF W F m1 θ1 H1 fx σ1 D fl s := by
  cases fl with
  | nx => exact fun σ H θ R k' e' => h σ H θ R (k.trans k') fun j hj => (e' j hj).trans (e j hj)
  | brk => exact fun σ H θ R k' e' => h σ H θ R (k.trans k') fun j hj => (e' j hj).trans (e j hj)
  | cont => exact fun σ H θ R k' e' => h σ H θ R (k.trans k') fun j hj => (e' j hj).trans (e j hj)
  | ret x => exact fun v σ H θ rx => h v σ H θ (rx.from k)
end
section
variable {X : Cx} {W : Wr} {g : G} {fx : List Nat}
theorem monoS {st : Stmt} {t t' : TS} (h : PS X st t) (i : ∀ D σ H, t' D σ H → t D σ H) : PS X st t' := ⟨fun pins s σ H D I q => h.run pins s σ H D I (i D σ H q)⟩
theorem monoSs {st : List Stmt} {t t' : TS} (h : PSs X st t) (i : ∀ D σ H, t' D σ H → t D σ H) : PSs X st t' := ⟨fun pins s σ H D I q => h.run pins s σ H D I (i D σ H q)⟩
/-- an expression inside a statement -/
theorem tE_bindS {α : Type} {F : Fb} {θ : List Addr} {s : S} {σ : L2.St} {H : Hp} {r : S → Out FX} {k : FX → S → Out α} {P : α → S → Prop} {R' : VK} (R : Rep W F θ s σ H) (h : OkP P ((r s).bind k))
    (hk : ∀ x s' v H' θ', RX W F (M0 θ s.ρ σ) θ H θ' s' σ H' x v → OkP P (k x s') → R' v H') : tE W r σ H R' := tE_bind R h hk
theorem pss_nil' : PSs X [] (tS W fx (exs g [])) := by
  refine monoSs pss_nil fun D σ H hq => ?_
  obtain ⟨F, θ, s, R, q⟩ := hq
  exact q σ H θ R .refl fun _ _ => rfl
theorem pss_cons' {a : Stm} {r : List Stm} {st : Stmt} {rest : List Stmt} (h1 : PS X st (tS W fx (ex g a))) (h2 : PSs X rest (tS W fx (exs g r))) : PSs X (st :: rest) (tS W fx (exs g (a :: r))) := by
  refine monoSs (pss_cons h1 h2) fun D σ H hq => ?_
  obtain ⟨F, θ, s, R, q⟩ := hq
  refine ⟨F, θ, s, R, (OkP.bind (show OkP _ ((ex g a s).bind _) from q)).imp fun fl s1 q1 => ?_⟩
  cases fl with
  | nx => exact fun σ1 H1 θ1 R1 k1 e1 => ⟨F, θ1, s1, R1, q1.imp fun fl s2 p => p.from k1 e1⟩
  | brk => exact q1
  | cont => exact q1
  | ret x => exact q1
theorem ps_never' {st : Stmt} : PS X st (tS W fx (ex g .never)) := monoS ps_never fun D σ H ⟨_, _, _, _, q⟩ => q
theorem ps_raise' {st : Stmt} {c : Nat} {as : List A} : PS X st (tS W fx (ex g (.raise c as))) := monoS ps_never fun D σ H ⟨_, _, _, _, q⟩ => q
theorem ps_pass' {pos : Pos} : PS X (.Pass pos) (tS W fx (ex g .pass)) := monoS ps_pass fun D σ H ⟨F, θ, s, R, q⟩ => q σ H θ R .refl fun _ _ => rfl
theorem ps_break' {pos : Pos} : PS X (.Break pos) (tS W fx (ex g .brk)) := monoS ps_break fun D σ H ⟨F, θ, s, R, q⟩ => q σ H θ R .refl fun _ _ => rfl
theorem ps_cont' {pos : Pos} : PS X (.Continue pos) (tS W fx (ex g .cont)) := monoS ps_continue fun D σ H ⟨F, θ, s, R, q⟩ => q σ H θ R .refl fun _ _ => rfl
theorem ps_expr' {e : Expr} {a : E} {pos : Pos} (he : PE X e (tE W (ev g a))) (hs : swapsWith e none pos.line X.env = pure false) : PS X (.Expr e pos) (tS W fx (ex g (.expr a))) := by
  refine monoS (ps_expr he hs) fun D σ H hq => ?_
  obtain ⟨F, θ, s, R, q⟩ := hq
  exact tE_bindS (P := PF W F (M0 θ s.ρ σ) θ H fx σ D) R q fun x s1 v H1 θ1 rx q1 => q1 σ H1 θ1 rx.rep rx.keep fun _ _ => rfl
theorem ps_ret' {e : Expr} {a : E} {pos : Pos} (he : PE X e (tE W (ev g a))) : PS X (.Return (some e) pos) (tS W fx (ex g (.ret a))) := by
  refine monoS (ps_ret he) fun D σ H hq => ?_
  obtain ⟨F, θ, s, R, q⟩ := hq
  exact tE_bindS (P := PF W F (M0 θ s.ρ σ) θ H fx σ D) R q fun x s1 v H1 θ1 rx q1 => q1 v σ H1 θ1 rx
theorem ps_retN' {pos : Pos} : PS X (.Return none pos) (tS W fx (ex g .retN)) := by
  refine monoS ps_retN fun D σ H hq => ?_
  obtain ⟨F, θ, s, R, q⟩ := hq
  exact q .non σ H θ ⟨R, .refl, .non⟩
theorem ps_retS' {e : Expr} {i : Nat} {pos : Pos} (he : PE X e (tVar i)) : PS X (.Return (some e) pos) (tS W fx (ex g (.retS i))) := by
  refine monoS (ps_ret he) fun D σ H hq => ?_
  obtain ⟨F, θ, s, R, q⟩ := hq
  have q : OkP (PF W F (M0 θ s.ρ σ) θ H fx σ D) (match getN s.ρ i with
      | .val x => .ok (.ret (.d x)) s
      | .own o => .ok (.ret (.f o)) (s.set i .no)
      | _ => .err) := q
  cases e : getN s.ρ i with
  | no => rw [e] at q; exact q.elim
  | clo _ _ => rw [e] at q; exact q.elim
  | val d =>
    rw [e] at q
    obtain ⟨v, hv, r⟩ := R.val e
    exact ⟨v, hv, q v σ H θ ⟨R, .refl, r⟩⟩
  | own o =>
    rw [e] at q
    obtain ⟨a, ha, rx⟩ := R.take e
    exact ⟨.ref a, ha, q _ σ H θ rx⟩
theorem ps_if' {c : Expr} {a b : List Stmt} {c' : E} {a' b' : List Stm} {pos : Pos} (hc : PT X c (tT W g c')) (ha : PSs X a (tS W fx (exs g a'))) (hb : PSs X b (tS W fx (exs g b'))) : PS X (.If c a b pos) (tS W fx (ex g (.ite c' a' b'))) := by
  refine monoS (ps_if hc ha hb) fun D σ H hq => ?_
  obtain ⟨F, θ, s, R, q⟩ := hq
  refine ⟨F, θ, s, R, (OkP.bind (show OkP _ ((tst c' (ev g c') s).bind _) from q)).imp fun t s1 q1 H1 θ1 R1 k1 => ?_⟩
  cases t with
  | true =>
    rw [if_pos rfl] at q1 ⊢
    exact ⟨F, θ1, s1, R1, q1.imp fun z s2 p => p.from k1 fun _ _ => rfl⟩
  | false =>
    rw [if_neg (by decide)] at q1 ⊢
    exact ⟨F, θ1, s1, R1, q1.imp fun z s2 p => p.from k1 fun _ _ => rfl⟩
theorem setN_len {ρ : List Sl} {N : List Str} {i : Nat} {x : Str} (hl : ρ.length = N.length) (hi : N[i]? = some x) : i < ρ.length := by rw [hl]; exact (List.getElem?_eq_some_iff.mp hi).1
/-- name = e -/
theorem ps_set' {i : Nat} (hfx : i ∉ fx) {x : Str} {e : Expr} {a : E} {pos p : Pos} {st : Stmt} (h : ∀ {te : TE}, PE X e te → PS X st (tAsg te (gName i))) (hi : X.N[i]? = some x) (he : PE X e (tE W (ev g a))) : PS X st (tS W fx (ex g (.asg (.slot i) a))) := by
  have h0 := h he
  refine ⟨fun pins s0 σ H D I hq => h0.run pins s0 σ H D I ?_⟩
  obtain ⟨F, θ, s, R, q⟩ := hq
  refine tE_bindS (P := PF W F (M0 θ s.ρ σ) θ H fx σ D) R q fun x' s1 v H1 θ1 rx q1 => ?_
  obtain ⟨R2, k2⟩ := rx.put (i := i) (by rw [rx.rep.len, I.len]; exact (List.getElem?_eq_some_iff.mp hi).1)
  exact q1 _ H1 θ1 R2 k2 fun j hj => by rw [List.getElem?_set, if_neg (fun z => hfx (by rw [z]; exact hj))]
/-- name.append(e) -/
theorem ps_app' {i : Nat} {en e : Expr} {a : E} {ap cp pos : Pos} (hn : PE X en (tVar i)) (hb : attributeBase en "append" X.env (eval en X.env) = eval en X.env) (hs : noStar e = true) (hl : (ap.endLine == cp.line) = true) (he : PE X e (tE W (ev g a))) :
    PS X (.Expr (.Call (.Attribute en "append" ap) [e] [] cp) pos) (tS W fx (ex g (.app i a))) := by
  have st : starEach [e] X.env = [(false, eval e X.env)] := star_of hs
  refine monoS (ps_expr (pe_bm PySem.F.plainAttrs_list PySem.F.slot_list_append PySem.F.type_list_append mt_append hn (pa_cons he pa_nil st) hb (by rw [st]; rfl) hl st rfl) rfl) fun D σ H hq => ?_
  obtain ⟨F, θ, s, R, q⟩ := hq
  obtain ⟨_, e1, q⟩ := OkP.lift (OkP.bind (show OkP (PF W F (M0 θ s.ρ σ) θ H fx σ D) ((Pv.lift s (isL s i)).bind _) from q))
  have hv : ∃ b xs, σ[i]? = some (some (.ref b)) ∧ H b = some (.lst xs) := by
    unfold isL at e1
    cases g1 : getN s.ρ i with
    | no => rw [g1] at e1; cases e1
    | clo _ _ => rw [g1] at e1; cases e1
    | val d =>
      rw [g1] at e1
      obtain ⟨v, hv, r⟩ := R.val g1
      cases d with
      | ref l =>
        cases r with
        | ref h =>
          simp only at e1
          cases g2 : s.m[l]? with
          | none => rw [g2] at e1; cases e1
          | some o =>
            rw [g2] at e1
            cases o with
            | lst xs => obtain ⟨vs, e, _⟩ := R.st _ _ _ h g2; exact ⟨_, vs, hv, e⟩
            | dic _ => cases e1
            | ins _ _ => cases e1
            | tbl _ => cases e1
      | _ => cases e1
    | own o =>
      rw [g1] at e1
      obtain ⟨b, hv, r⟩ := R.own g1
      cases o with
      | lst xs => obtain ⟨vs, e, _⟩ := r; exact ⟨_, vs, hv, e⟩
      | dic _ => cases e1
      | ins _ _ => cases e1
      | tbl _ => cases e1
  obtain ⟨b, xs0, hv, hb0⟩ := hv
  refine ⟨.ref b, hv, .inl ⟨rfl, xs0, .of hb0⟩, ?_⟩
  refine tE_bind (P := PF W F (M0 θ s.ρ σ) θ H fx σ D) R q fun x s1 v H1 θ1 rx q1 => ?_
  unfold appendO at q1
  have R1 := rx.rep
  have k1 := rx.keep
  have hlen : ∀ {xs : List Pv.D} {vs : List V}, RepVs W (Mt F θ1 s1.ρ σ) θ1 H1 xs vs → xs.length + [x.frz].length ≤ LINE → vs.length < sizeLine := fun {xs vs} rs hl => by
    rw [← rs.length, ← LINE_eq]
    have : [x.frz].length = 1 := rfl
    omega
  cases g1 : getN s1.ρ i with
  | no => rw [g1] at q1; exact q1.elim
  | clo _ _ => rw [g1] at q1; exact q1.elim
  | val d =>
    rw [g1] at q1
    obtain ⟨v', hv', r⟩ := R1.val g1
    rw [hv] at hv'; cases hv'
    cases d with
    | ref l =>
      cases r with
      | ref h =>
        simp only at q1
        cases g2 : s1.m[l]? with
        | none => rw [g2] at q1; exact q1.elim
        | some o =>
          rw [g2] at q1
          cases o with
          | lst xs =>
            simp only at q1
            split at q1
            · rename_i hl
              obtain ⟨vs, e, rs⟩ := R1.st _ _ _ h g2
              refine ⟨b, vs, v, rfl, rfl, e, hlen rs hl, ?_⟩
              obtain ⟨R2, k2⟩ := R1.chgT h g2 (o' := .lst (xs ++ [x.frz])) (u := .lst (vs ++ [v])) trivial fun m θ H'' kp eH => ⟨_, by rw [eH]; exact upd_same, (rs.keep kp).append (.cons (rx.val.keep kp) .nil)⟩
              exact q1 σ _ θ1 R2 (k1.trans k2) fun _ _ => rfl
            · exact q1.elim
          | dic _ => exact q1.elim
          | ins _ _ => exact q1.elim
          | tbl _ => exact q1.elim
    | _ => exact q1.elim
  | own o =>
    rw [g1] at q1
    obtain ⟨b', hv', r⟩ := R1.own g1
    rw [hv] at hv'; cases hv'
    cases o with
    | lst xs =>
      simp only at q1
      split at q1
      · rename_i hl
        obtain ⟨vs, e, rs⟩ := r
        refine ⟨b, vs, v, rfl, rfl, e, hlen rs hl, ?_⟩
        obtain ⟨R2, k2⟩ := R1.chgO g1 hv (o' := .lst (xs ++ [x.frz])) (u := .lst (vs ++ [v])) trivial fun m θ H'' kp eH => ⟨_, by rw [eH]; exact upd_same, (rs.keep kp).append (.cons (rx.val.keep kp) .nil)⟩
        exact q1 σ _ θ1 R2 (k1.trans k2) fun _ _ => rfl
      · exact q1.elim
    | dic _ => exact q1.elim
    | ins _ _ => exact q1.elim
    | tbl _ => exact q1.elim
end
end Pv
end

section
set_option Elab.async false
set_option linter.all false
set_option maxRecDepth 100000
set_option maxHeartbeats 4000000
/-! EvM: targets, walks, loops. -/
namespace Pv
open PySem PySem.Spec PyProof.Rows L2
/-- the names apart from some stay -/
def OutS (ts : List Nat) (σ σ' : L2.St) : Prop := σ'.length = σ.length ∧ ∀ j, j ∉ ts → σ'[j]? = σ[j]?
/-- a target's reading -/
def tG (W : Wr) (g : G) (t : T) : TG := fun v σ H Q => ∃ F θ s x, Rep W F θ s σ H ∧ RepV W (Mt F θ s.ρ σ) θ H x v ∧
  OkP (fun _ s' => ∀ σ' H' θ', Rep W F θ' s' σ' H' → Keep (M0 θ s.ρ σ) θ H (M0 θ' s'.ρ σ') θ' H' → OutS (tSlots t) σ σ' → Q σ' H') (asT g t x s)
def tGs (W : Wr) (g : G) (ts : List T) : TGs := fun vs σ H Q => ∃ F θ s xs, Rep W F θ s σ H ∧ RepVs W (Mt F θ s.ρ σ) θ H xs vs ∧
  OkP (fun _ s' => ∀ σ' H' θ', Rep W F θ' s' σ' H' → Keep (M0 θ s.ρ σ) θ H (M0 θ' s'.ρ σ') θ' H' → OutS (tsSlots ts) σ σ' → Q σ' H') (asTs g ts xs s)
section
variable {X : Cx} {W : Wr} {g : G}
theorem monoG {e : Expr} {t t' : TG} (h : PG X e t) (i : ∀ v σ H Q, t' v σ H Q → t v σ H Q) : PG X e t' := ⟨fun pins s σ H v u Q I r q => h.run pins s σ H v u Q I r (i v σ H Q q)⟩
theorem monoGs {es : List Expr} {t t' : TGs} (h : PGs X es t) (i : ∀ v σ H Q, t' v σ H Q → t v σ H Q) : PGs X es t' := ⟨fun pins s σ H v u Q I r q => h.run pins s σ H v u Q I r (i v σ H Q q)⟩
theorem Keep.mt2 {F : Fb} {θ θ' : List Addr} {ρ ρ' : List Sl} {σ σ' : L2.St} {H H' : Hp} (k : Keep (M0 θ ρ σ) θ H (M0 θ' ρ' σ') θ' H') : Keep (Mt F θ ρ σ) θ H (Mt F θ' ρ' σ') θ' H' := k.fb
theorem pg_slot {i : Nat} {e : Expr} (h : PG X e (gName i)) : PG X e (tG W g (.slot i)) := by
  refine monoG h fun v σ H Q hq => ?_
  obtain ⟨F, θ, s, x, R, r, q⟩ := hq
  obtain ⟨R', sub⟩ := R.putD (i := i) r
  refine q _ H θ R' (keepLess sub) ⟨List.length_set, fun j hj => ?_⟩
  rw [List.getElem?_set, if_neg]
  intro z
  exact hj (by subst z; exact List.mem_singleton.mpr rfl)
theorem ass_of {e : Expr} {es : List Expr} {env : Env} (h : noStar e = true) : assignEach (e :: es) env = (false, assign e env) :: assignEach es env := by
  cases e <;> first | rfl | cases h
theorem ass_len {es : List Expr} {env : Env} : (assignEach es env).length = es.length := by
  induction es with
  | nil => rfl
  | cons e es ih => cases e <;> exact congrArg Nat.succ ih
theorem ass_idx {es : List Expr} {env : Env} (h : es.all noStar = true) : (assignEach es env).findIdx? (·.1) = none := by
  induction es with
  | nil => rfl
  | cons e es ih =>
    rw [List.all_cons, Bool.and_eq_true] at h
    rw [ass_of h.1, List.findIdx?_cons]
    rw [ih h.2]; rfl
theorem pgs_nil' : PGs X [] (tGs W g []) := by
  refine monoGs pgs_nil fun vs σ H Q hq => ?_
  obtain ⟨F, θ, s, xs, R, rs, q⟩ := hq
  cases rs with
  | nil => exact ⟨rfl, q σ H θ R .refl ⟨rfl, fun _ _ => rfl⟩⟩
  | cons _ _ => exact q.elim
theorem pgs_cons' {t : T} {ts : List T} {e : Expr} {es : List Expr} (hn : noStar e = true) (h1 : PG X e (tG W g t)) (h2 : PGs X es (tGs W g ts)) : PGs X (e :: es) (tGs W g (t :: ts)) := by
  refine monoGs (pgs_cons h1 h2 (by rw [ass_of hn]; rfl)) fun vs σ H Q hq => ?_
  obtain ⟨F, θ, s, xs, R, rs, q⟩ := hq
  cases rs with
  | nil => exact q.elim
  | cons r rs =>
    refine ⟨_, _, rfl, F, θ, s, _, R, r, (OkP.bind (show OkP _ ((asT g t _ s).bind _) from q)).imp fun _ s1 q1 σ1 H1 θ1 R1 k1 o1 => ?_⟩
    refine ⟨F, θ1, s1, _, R1, rs.keep k1.mt2, q1.imp fun _ s2 q2 σ2 H2 θ2 R2 k2 o2 => q2 σ2 H2 θ2 R2 (k1.trans k2) ⟨o2.1.trans o1.1, fun j hj => ?_⟩⟩
    rw [tsSlots, List.mem_append, not_or] at hj
    rw [o2.2 j hj.2, o1.2 j hj.1]
theorem pg_tup2 (hK : W.K = X.K) (hc : X.calm = true) {es : List Expr} {ts : List T} {k : Nat} {pos : Pos} (hn : es.all noStar = true) (hl : ts.length = es.length) (h : PGs X es (tGs W g ts)) : PG X (.Tuple es k pos) (tG W g (.tup ts)) := by
  refine monoG (pg_tup hc h (n := es.length) ass_len (ass_idx hn)) fun v σ H Q hq => ?_
  obtain ⟨F, θ, s, x, R, r, q⟩ := hq
  have q : OkP _ (match x with
      | .tup xs => asTs g ts xs s
      | _ => .err) := q
  cases x with
  | tup xs =>
    have q : OkP _ (asTs g ts xs s) := q
    have len : ∀ {ts : List T} {xs : List D} {s : S} {P : Unit → S → Prop}, OkP P (asTs g ts xs s) → xs.length = ts.length := by
      intro ts
      induction ts with
      | nil => intro xs s P q; cases xs with
        | nil => rfl
        | cons _ _ => exact q.elim
      | cons t ts ih => intro xs s P q; cases xs with
        | nil => exact q.elim
        | cons x xs =>
          have q := OkP.bind (show OkP P ((asT g t x s).bind _) from q)
          have : ∃ s', OkP P (asTs g ts xs s') := by
            cases e : asT g t x s with
            | ok a s' => rw [e] at q; exact ⟨s', q⟩
            | exc _ _ _ => rw [e] at q; exact q.elim
            | err => rw [e] at q; exact q.elim
          obtain ⟨s', q⟩ := this
          exact congrArg Nat.succ (ih q)
    cases r with
    | tup h rs =>
      refine ⟨_, _, rfl, h.elim (fun z => .inl z.1) (fun z => .inr (hK ▸ z)), ?_, F, θ, s, xs, R, rs, q⟩
      rw [← rs.length, len q, hl]
  | _ => exact q.elim
/-! ### a, *b, c = .. -/
theorem unpack_starT {prog : Program} {w : World} {A : Around} {E : Value → Shared → Prop} {s : Shared} {l : Addr} {items : Array Value} {n i : Nat} {Q : List Value → Shared → Prop} (hl : IsTup s.heap l items) (hh : A.handled = none) (hi : i < n) (hn : n ≤ items.size + 1) (hz : items.size ≤ sizeLine)
    (h : ∀ (h' : Heap) tk, (∀ b o, s.heap.get? b = some o → h'.get? b = some o) → Q (items.toList.take i ++ [.ref h'.objs.size] ++ (items.toList.drop i).drop (items.size + 1 - n)) { s with heap := h'.push (seqObj "list" ((items.toList.drop i).take (items.size + 1 - n)).toArray 0), toks := tk }) :
    wpAny (model prog w) A (unpackItems (.ref l) n (some i)) Q E s := by
  have hlt : l ≠ s.heap.objs.size := by obtain ⟨o, ho, _⟩ := hl; exact Nat.ne_of_lt (Heap.lt_size ho)
  unfold unpackItems
  refine wpAny_bind ?_
  unfold notIterableAtAll
  refine wpAny_bind (wpAny_specialOf hl.typeIs slot_tuple_iter.lookup ?_)
  refine wpAny_pure ?_
  simp only [Bool.false_eq_true, if_false]
  refine wpAny_bind (wpAny_holding (iter_tuple hl ?_))
  refine wpAny_bind (wpAny_holding (draw_tuple hlt i 0 _ _ ⟨_, Heap.get?_push_size _ rfl, rfl, rfl⟩ (hl.push _) (by omega) fun h₁ hit₁ hs₁ => ?_))
  have hl₁ : IsTup h₁ l items := (hl.push _).extBut hs₁.extBut hlt
  rw [Nat.zero_add] at hit₁
  have hit₁' := hit₁
  obtain ⟨oi, hoi, _⟩ := hit₁'
  have hl₁' := hl₁
  obtain ⟨ol, hol, _⟩ := hl₁'
  rw [List.drop_zero]
  have hfl : (items.toList.take i).length = i := by rw [List.length_take, Array.length_toList]; omega
  rw [if_neg (show ¬ ((items.toList.take i).length < i) by rw [hfl]; omega)]
  refine wpAny_bind (wpAny_holding (PySem.W.kun_collect (s := { s with heap := h₁ }) (T := "tuple_iterator") (.inr (.inr (.inr rfl))) (Walks.tuple (A := A.in1) hh s.heap.objs.size l hlt items) (fun j u st => st.1.typeIs) (k := i) (by omega) ⟨hit₁, hl₁⟩ (Heap.lt_size hoi) (Heap.lt_size hol) (fun h₂ tk hk => ?_) hz))
  have hrl : (items.toList.drop i).length = items.size - i := by rw [List.length_drop, Array.length_toList]
  have hmid : (items.toList.drop i).length - (n - 1 - i) = items.size + 1 - n := by rw [hrl]; omega
  show wpAny _ _ (if (items.toList.drop i).length < n - 1 - i then _ else _) _ _ _
  rw [if_neg (by rw [hrl]; omega)]
  show wpAny _ _ (newList ((items.toList.drop i).take ((items.toList.drop i).length - (n - 1 - i))) >>= fun d => pure (items.toList.take i ++ [d] ++ (items.toList.drop i).drop ((items.toList.drop i).length - (n - 1 - i)))) _ _ _
  rw [hmid]
  have he : ∀ b o, s.heap.get? b = some o → h₂.get? b = some o := fun b o e => by
    have hb : b ≠ s.heap.objs.size := Nat.ne_of_lt (Heap.lt_size e)
    exact hk b o hb (hs₁.extBut b o hb (Heap.get?_push_of_some _ e))
  exact wpAny_bind (wpAny_newList (wpAny_pure (h h₂ tk he)) (by rw [List.length_take, hrl]; omega))
theorem ass_unstar {env : Env} : ∀ {es : List Expr}, (es.map unstar).all noStar = true → (assignEach es env).map (·.2) = (assignEach (es.map unstar) env).map (·.2)
  | [], _ => rfl
  | e :: es, h => by
    rw [List.map_cons, List.all_cons, Bool.and_eq_true] at h
    rw [List.map_cons, ass_of h.1, List.map_cons, ← ass_unstar h.2]
    cases e <;> rfl
theorem ass_star {env : Env} : ∀ {es : List Expr}, (assignEach es env).findIdx? (·.1) = es.findIdx? isStarE
  | [] => rfl
  | e :: es => by
    have ih := ass_star (env := env) (es := es)
    rw [List.findIdx?_cons, ← ih]
    cases e <;> first | rfl | (rw [ass_of rfl, List.findIdx?_cons]; rfl)
theorem pgs_unstar {es : List Expr} {T : TGs} (h : PGs X (es.map unstar) T) (hn : (es.map unstar).all noStar = true) : PGs X es T := ⟨fun pins s σ H vs us Q I r q => by
  rw [ass_unstar hn]
  exact h.run pins s σ H vs us Q I r q⟩
theorem Vals.take : ∀ {vs : List V} {us : List Value} (n : Nat), Vals vs us → Vals (vs.take n) (us.take n)
  | _, _, 0, _ => .nil
  | [], _, _ + 1, .nil => .nil
  | _ :: _, _, n + 1, .cons a r => .cons a (Vals.take n r)
theorem Vals.drop : ∀ {vs : List V} {us : List Value} (n : Nat), Vals vs us → Vals (vs.drop n) (us.drop n)
  | _, _, 0, r => r
  | [], _, _ + 1, .nil => .nil
  | _ :: _, _, n + 1, .cons a r => Vals.drop n r
theorem pg_star (hK : W.K = X.K) (hc : X.calm = true) {es : List Expr} {ts : List T} {k kk : Nat} {pos : Pos} (hn : (es.map unstar).all noStar = true) (hl : ts.length = es.length) (hst : es.findIdx? isStarE = some k) (h : PGs X (es.map unstar) (tGs W g ts)) : PG X (.Tuple es kk pos) (tG W g (.star ts k)) := by
  refine ⟨fun pins s σ H v u Q I r hq => ?_⟩
  obtain ⟨F, θ, st, x, R, rx, q⟩ := hq
  have q : OkP _ (match x with
      | .tup xs => if k < ts.length ∧ ts.length ≤ xs.length + 1 then asTs g ts (starXs xs k ts.length) st else .err
      | _ => .err) := q
  cases x with
  | tup xs =>
    simp only at q
    split at q
    · rename_i hb
      cases rx with
      | tup hq rs =>
        obtain ⟨its, rv, ht, hz⟩ := I.tuple (hq.elim (fun z => .inl z.1) (fun z => .inr (hK ▸ z)))
        cases r
        have e1 : xs.length = its.length := by rw [rs.length, rv.length]
        rw [assign_Tuple]
        refine wpAny_bind (wpAny_standAt ?_)
        unfold unpack
        rw [ass_len, ass_star, hst]
        refine wpAny_bind (wpAny_holding (unpack_starT ht (I.ok.hd hc) (by rw [← hl]; exact hb.1) (by rw [← hl, List.size_toArray, ← e1]; exact hb.2) (by rw [List.size_toArray, ← rv.length]; exact hz) fun h2 tk k2 => ?_))
        simp only [List.size_toArray, List.toList_toArray, ← hl, ← e1]
        have I1 : Inv X pins σ H { s with heap := h2, toks := tk } := I.kept k2
        have hf : H h2.objs.size = none := I1.hok.fresh (Nat.le_refl _)
        have rm := (rs.drop k).take (xs.length + 1 - ts.length)
        have vm := Vals.take (xs.length + 1 - ts.length) (Vals.drop k rv)
        have rx := RX.newL R Keep.refl hf rm
        have hm : ∀ vs' : List V, vs'.length ≤ sizeLine → ((vs'.drop k).take (xs.length + 1 - ts.length)).length ≤ sizeLine := fun vs' q => by
          rw [List.length_take, List.length_drop]; omega
        have I2 : Inv X pins σ (upd H h2.objs.size (.lst _)) { s with heap := h2.push (seqObj "list" ((its.drop k).take (xs.length + 1 - ts.length)).toArray 0), toks := tk } := I1.laid (t' := tk) (fun b u e => Heap.get?_push_of_some _ e) (Nat.le_refl _) ⟨hm _ hz, _, 0, vm, Heap.get?_push_size _ rfl⟩
        have rp : RelV (V.ref h2.objs.size) (Value.ref h2.objs.size) := rfl
        refine (pgs_unstar h hn).run pins _ σ _ _ _ Q I2 (((Vals.take k rv).append (.cons rp .nil)).append (Vals.drop (xs.length + 1 - ts.length) (Vals.drop k rv))) ?_
        refine ⟨F, θ, st, _, rx.rep, ?_, q.imp fun _ s' q' σ' H' θ' R' k' o' => q' σ' H' θ' R' (rx.keep.trans k') o'⟩
        · have e0 : starXs xs k ts.length = xs.take k ++ [.lst ((xs.drop k).take (xs.length + 1 - ts.length))] ++ (xs.drop k).drop (xs.length + 1 - ts.length) := by
            unfold starXs
            rw [List.append_assoc]; rfl
          rw [e0]
          have kp := Keep.mt2 (F := F) rx.keep
          exact (((rs.take k).keep kp).append (.cons rx.val .nil)).append (((rs.drop k).drop _).keep kp)
    · exact q.elim
  | _ => exact q.elim
/-! ### o[i] = .. -/
theorem keyD_eq {k : Key} {d : D} (h : keyD k = d) (k' : Key) : keyEq (keyD k') d = decide (k' = k) := by
  subst h
  cases k <;> cases k' <;> simp [keyD, keyEq]
theorem key_of {m : Fb} {θ : List Addr} {H : Hp} {d : D} {v : V} (h : isKey d = true) (r : RepV W m θ H d v) : ∃ k, keyD k = d ∧ v = kV k := by
  cases r <;> first | cases h | skip
  · exact ⟨.inl _, rfl, rfl⟩
  · exact ⟨.inr _, rfl, rfl⟩
theorem keys_any : ∀ {vkvs : List (Key × V)} {kvs : List (D × D)} {k : Key} {d : D}, keyD k = d → vkvs.map (fun p => keyD p.1) = kvs.map (·.1) → (vkvs.any fun p => decide (p.1 = k)) = kvs.any fun p => keyEq p.1 d
  | [], [], _, _, _, _ => rfl
  | [], _ :: _, _, _, _, e => by cases e
  | _ :: _, [], _, _, _, e => by cases e
  | p :: vr, q :: r, k, d, h, e => by
    simp only [List.map_cons, List.cons.injEq] at e
    rw [List.any_cons, List.any_cons, keys_any h e.2, ← e.1, keyD_eq h]
theorem RepVs.put {m : Fb} {θ : List Addr} {H : Hp} {k : Key} {d x : D} {v : V} (h : keyD k = d) (r : RepV W m θ H x v) : ∀ {vkvs : List (Key × V)} {kvs : List (D × D)}, vkvs.map (fun p => keyD p.1) = kvs.map (·.1) → RepVs W m θ H (kvs.map (·.2)) (vkvs.map (·.2)) →
    (vkvs.map fun kv => if kv.1 = k then (kv.1, v) else kv).map (fun p => keyD p.1) = (kvs.map fun p => if keyEq p.1 d then (p.1, x) else p).map (·.1) ∧ RepVs W m θ H ((kvs.map fun p => if keyEq p.1 d then (p.1, x) else p).map (·.2)) ((vkvs.map fun kv => if kv.1 = k then (kv.1, v) else kv).map (·.2))
  | [], [], _, _ => ⟨rfl, .nil⟩
  | [], _ :: _, e, _ => by cases e
  | _ :: _, [], e, _ => by cases e
  | p :: vr, q :: rr, e, rs => by
    simp only [List.map_cons, List.cons.injEq] at e
    cases rs with
    | cons r1 rs =>
      obtain ⟨h1, h2⟩ := RepVs.put h r e.2 rs
      have hk : keyEq q.1 d = decide (p.1 = k) := by rw [← e.1, keyD_eq h]
      simp only [List.map_cons, hk]
      by_cases z : p.1 = k
      · simp only [z, decide_true, if_true]
        refine ⟨?_, .cons r h2⟩
        rw [h1]
        have : keyD k = q.1 := by rw [← z]; exact e.1
        rw [this]
      · simp only [z, decide_false, if_false, Bool.false_eq_true]
        exact ⟨by rw [h1, e.1], .cons r1 h2⟩
theorem rep_put {m : Fb} {θ : List Addr} {H : Hp} {k : Key} {d x : D} {v : V} {vkvs : List (Key × V)} {kvs kvs' : List (D × D)} (h : keyD k = d) (r : RepV W m θ H x v) (e : vkvs.map (fun p => keyD p.1) = kvs.map (·.1)) (rs : RepVs W m θ H (kvs.map (·.2)) (vkvs.map (·.2)))
    (hp : putKV kvs d x = some kvs') : vkvs.length < sizeLine ∧ (putK vkvs k v).map (fun p => keyD p.1) = kvs'.map (·.1) ∧ RepVs W m θ H (kvs'.map (·.2)) ((putK vkvs k v).map (·.2)) := by
  unfold putKV at hp
  split at hp
  · rename_i hq
    rw [Bool.and_eq_true, decide_eq_true_eq] at hq
    have hl : vkvs.length = kvs.length := by simpa using congrArg List.length e
    refine ⟨by rw [hl, ← LINE_eq]; exact hq.2, ?_⟩
    cases hp
    unfold putK
    rw [keys_any h e]
    cases z : kvs.any fun p => keyEq p.1 d with
    | true => rw [if_pos rfl, if_pos rfl]; exact RepVs.put h r e rs
    | false =>
      rw [if_neg Bool.false_ne_true, if_neg Bool.false_ne_true]
      simp only [List.map_append, List.map_cons, List.map_nil, e, h]
      exact ⟨trivial, rs.append (.cons r .nil)⟩
  · cases hp
theorem PSet.or {t t' : TSet} (h : PSet X t) (h' : PSet X t') : PSet X (fun o i v H Q => t o i v H Q ∨ t' o i v H Q) := fun pins s σ H o i v ov iv u Q I ro ri rv q =>
  q.elim (h pins s σ H o i v ov iv u Q I ro ri rv) (h' pins s σ H o i v ov iv u Q I ro ri rv)
theorem pg_sub2 (hu : X.A.units + 1 < cLine) {j : Nat} {i : E} {eo ei : Expr} {pos : Pos} (hi' : notSlice ei = true) (ho : PE X eo (tVar j)) (hi : PE X ei (tE W (ev g i))) : PG X (.Subscript eo ei pos) (tG W g (.sub j i)) := by
  have ha : ∀ v, assign (.Subscript eo ei pos) X.env v = (do
      let ov ← holding [v] (eval eo X.env)
      let iv ← holding [v, ov] (eval ei X.env)
      standAt pos
      holding [v, ov, iv] (setItem ov iv v)
      release [v, ov, iv] []) := by
    intro v
    cases ei <;> first | rfl | cases hi'
  refine monoG (pg_sub ho hi (PSet.or set_list (set_dict hu)) ha) fun v σ H Q hq => ?_
  obtain ⟨F, θ, s, x, R, r, q⟩ := hq
  obtain ⟨_, e1, q⟩ := OkP.lift (OkP.bind (show OkP _ ((Pv.lift s (isSub s j)).bind _) from q))
  have hv : ∃ b, σ[j]? = some (some (.ref b)) := by
    unfold isSub at e1
    cases g1 : getN s.ρ j with
    | no => rw [g1] at e1; cases e1
    | clo _ _ => rw [g1] at e1; cases e1
    | val d =>
      rw [g1] at e1
      obtain ⟨v, hv, r⟩ := R.val g1
      cases d with
      | ref l => cases r with
        | ref h => exact ⟨_, hv⟩
      | _ => cases e1
    | own o =>
      obtain ⟨b, hv, r⟩ := R.own g1
      exact ⟨b, hv⟩
  obtain ⟨b, hv⟩ := hv
  refine ⟨.ref b, hv, tE_bind R q fun kx s1 kv H1 θ1 rx q1 => ?_⟩
  have R1 := rx.rep
  have k1 := rx.keep
  have rk := rx.val
  have r1 : RepV W (Mt F θ1 s1.ρ σ) θ1 H1 x v := RepV.keep k1.mt2 r
  generalize kx.frz = kd at q1 rk
  cases g1 : getN s1.ρ j with
  | no => rw [g1] at q1; exact q1.elim
  | clo _ _ => rw [g1] at q1; exact q1.elim
  | own o =>
    rw [g1] at q1
    obtain ⟨b', hv', ro⟩ := R1.own g1
    rw [hv] at hv'; cases hv'
    cases o with
    | ins _ _ => exact q1.elim
    | tbl _ => exact q1.elim
    | lst xs =>
      cases kd with
      | int n =>
        cases rk
        obtain ⟨vs, e, rs⟩ := ro
        simp only at q1
        cases e2 : place xs.length n with
        | none => rw [e2] at q1; exact q1.elim
        | some m =>
          rw [e2] at q1
          refine .inl ⟨b, vs, n, m, rfl, rfl, e, by rw [← place_ix, ← rs.length]; exact e2, ?_⟩
          obtain ⟨R2, k2⟩ := R1.chgO g1 hv (o' := .lst (xs.set m x)) (u := .lst (vs.set m v)) trivial fun m θ H'' kp eH => ⟨_, by rw [eH]; exact upd_same, (rs.keep kp).set (RepV.keep kp r1) _⟩
          exact q1 σ _ θ1 R2 (k1.trans k2) ⟨rfl, fun _ _ => rfl⟩
      | _ => exact q1.elim
    | dic kvs =>
      obtain ⟨vkvs, e, en, rs⟩ := ro
      cases e2 : putKV kvs kd x with
      | none => exfalso; cases kd <;> (simp only [e2] at q1; exact q1)
      | some kvs' =>
        have hk : isKey kd = true := by
          unfold putKV at e2
          split at e2
          · rename_i hq; rw [Bool.and_eq_true] at hq; exact hq.1
          · cases e2
        have q1 : OkP (fun _ s' => ∀ σ' H' θ', Rep W F θ' s' σ' H' → Keep (M0 θ s.ρ σ) θ H (M0 θ' s'.ρ σ') θ' H' → OutS (tSlots (.sub j i)) σ σ' → Q σ' H') (.ok () (s1.set j (.own (.dic kvs')))) := by
          cases kd <;> (simp only [e2] at q1; exact q1)
        obtain ⟨k, ek, rfl⟩ := key_of hk rk
        obtain ⟨hl, en', rs'⟩ := rep_put ek r1 en rs e2
        refine .inr ⟨b, _, rfl, .k e hl, ?_⟩
        obtain ⟨R2, k2⟩ := R1.chgO g1 hv (o' := .dic kvs') (u := .dK (putK vkvs k v)) trivial fun m θ H'' kp eH => ⟨_, by rw [eH]; exact upd_same, en', rs'.keep kp⟩
        exact q1 σ _ θ1 R2 (k1.trans k2) ⟨rfl, fun _ _ => rfl⟩
  | val d =>
    rw [g1] at q1
    obtain ⟨v', hv', r'⟩ := R1.val g1
    rw [hv] at hv'; cases hv'
    cases d with
    | ref l =>
      cases r' with
      | ref h =>
        cases kd with
        | int n =>
          cases rk
          simp only at q1
          cases g2 : s1.m[l]? with
          | none => rw [g2] at q1; exact q1.elim
          | some o =>
            rw [g2] at q1
            cases o with
            | lst xs =>
              simp only at q1
              obtain ⟨vs, e, rs⟩ := R1.st _ _ _ h g2
              cases e2 : place xs.length n with
              | none => rw [e2] at q1; exact q1.elim
              | some m =>
                rw [e2] at q1
                refine .inl ⟨b, vs, n, m, rfl, rfl, e, by rw [← place_ix, ← rs.length]; exact e2, ?_⟩
                obtain ⟨R2, k2⟩ := R1.chgT h g2 (o' := .lst (xs.set m x)) (u := .lst (vs.set m v)) trivial fun m θ H'' kp eH => ⟨_, by rw [eH]; exact upd_same, (rs.keep kp).set (RepV.keep kp r1) _⟩
                exact q1 σ _ θ1 R2 (k1.trans k2) ⟨rfl, fun _ _ => rfl⟩
            | dic _ => exact q1.elim
            | ins _ _ => exact q1.elim
            | tbl _ => exact q1.elim
        | _ => exact q1.elim
    | _ => exact q1.elim
end
end Pv
end

section
set_option Elab.async false
set_option linter.all false
set_option maxRecDepth 100000
set_option maxHeartbeats 4000000
/-! EvN: what is walked. -/
namespace Pv
open PySem PySem.Spec PyProof.Rows L2
/-! ### enumerate over a tuple -/
set_option maxHeartbeats 1000000 in
theorem meets_enum1 {v : Value} {o : Obj} {H : Heap → Prop} (B : Begins v o H) :
    Meets (Builtin.«enumerate.__new__» ⟨[.type "enumerate", v], []⟩) (fun _ R s => H s.heap ∧
      R (.ok (.ret (.ref (s.heap.push o).objs.size))) { s with heap := (s.heap.push o).push { cls := .type "enumerate", data := .fields #[.none, .bool false, .ref s.heap.objs.size, rawInt 0, .none, .none] } }) :=
  .of_wp fun prog w A R s h => by
    obtain ⟨hp, g, d, tk, os⟩ := s; obtain ⟨h1, h⟩ := h
    have hsub := sub_enumerate
    have q1 : ∀ {A' : Around} {E : Value → Shared → Prop} {Q : Value → Shared → Prop}, Q (.ref hp.objs.size) ⟨hp.push o, g, d, tk, os⟩ → wpAny (model prog w) A' (pyIter v) Q E ⟨hp, g, d, tk, os⟩ :=
      fun q => B.iter prog w _ _ ⟨hp, g, d, tk, os⟩ _ h1 q
    wp_walk using q1
    refine wpAny_stack_any fun st => wpAny_pure ?_
    split
    · rename_i c _ _ _ _ _
      cases (c == Value.type "enumerate")
      · wp_walk using q1
        exact ⟨_, rfl, h⟩
      · wp_walk using q1
        exact ⟨_, rfl, h⟩
    · wp_walk using q1
      exact ⟨_, rfl, h⟩
theorem enum_begins1 {prog : Program} {w : World} {A : Around} {E : Value → Shared → Prop} {s : Shared} {v : Value} {o : Obj} {H : Heap → Prop} {Q : Value → Shared → Prop} (B : Begins v o H) (h1 : H s.heap)
    (h : ∀ h', IsEnum h' (s.heap.objs.size + 1) s.heap.objs.size 0 .none → h'.get? s.heap.objs.size = some o → h'.objs.size = s.heap.objs.size + 2 →
      (∀ b o, s.heap.get? b = some o → h'.get? b = some o) → Q (.ref (s.heap.objs.size + 1)) { s with heap := h' }) :
    wpAny (model prog w) A (call (.type "enumerate") [v]) Q E s := by
  refine callType_new F.called_enumerate (by decide) (F.typeCall_enumerate_1 _) (F.newCall_enumerate_1 _) (fun obj => F.args_object_init_2 obj _) F.entry_enumerate_new (meets_enum1 B) ⟨h1, ?_⟩
  have hz : (s.heap.push o).objs.size = s.heap.objs.size + 1 := Heap.size_push ..
  show _ ∧ _
  rw [hz]
  have he : IsEnum ((s.heap.push o).push { cls := .type "enumerate", data := .fields #[.none, .bool false, .ref s.heap.objs.size, rawInt 0, .none, .none] }) (s.heap.objs.size + 1) s.heap.objs.size 0 .none := by
    have := Heap.get?_push_size (s.heap.push o) (o := { cls := .type "enumerate", data := .fields #[.none, .bool false, .ref s.heap.objs.size, rawInt 0, .none, .none] }) rfl
    rw [hz] at this; exact this
  refine ⟨⟨_, he, rfl⟩, h _ he (Heap.get?_push_of_some _ (Heap.get?_push_size _ B.free)) (by rw [Heap.size_push, hz]) fun b o x => Heap.get?_push_of_some _ (Heap.get?_push_of_some _ x)⟩
def IteT (K : PySem.W.Frag) (a : Addr) : L2.It :=
  ⟨fun i H => ∃ (xs : List V) (x : V), SqT K H a xs ∧ xs[i]? = some x, fun i H v H' => ∃ T x, v = .ref T ∧ H T = none ∧ H' = upd H T (.tup [.int (i : Nat), x]) ∧ ∀ xs, SqT K H a xs → xs[i]? = some x, fun i H => ∃ xs : List V, SqT K H a xs ∧ xs.length = i⟩
theorem turn_enumT {P : Program} {w : World} {K : PySem.W.Frag} {elts : List Expr} {kk : Nat} {tpos : Pos} (a e it : Addr) :
    Turn P w K (.Tuple elts kk tpos) (IteT K a) [e, it] e (fun i h => (∃ old, IsEnum h e it ((i : Nat) : Int) old) ∧ h.IsTupleIter it a i ∧ e ≠ it) where
  mem := by simp
  obj := fun i h st b hb => by
    obtain ⟨⟨old, he⟩, ⟨o, ho, hc, hd⟩, _⟩ := st
    have e' : b = e ∨ b = it := by simpa using hb
    rcases e' with z | z
    · rw [z]; exact ⟨_, he, fun v q => nomatch q⟩
    · rw [z]; exact ⟨o, ho, fun v q => by rw [hd] at q; cases q⟩
  keep := fun i h h' st k => let ⟨⟨old, he⟩, hi, hne⟩ := st; ⟨⟨old, k e (by simp) _ he⟩, hi.at fun o q => k it (by simp) o q, hne⟩
  item := by
    intro X hP hw hK hc i pins s σ H E I hf st hg
    subst hP hw hK
    obtain ⟨⟨old, he⟩, hit, hne⟩ := st
    obtain ⟨xs, x, hq, hx⟩ := hg
    obtain ⟨its, rv, p, hz⟩ := I.tuple hq
    obtain ⟨u, hu, ru⟩ := rv.get hx
    have hel : e < s.heap.objs.size := Heap.lt_size he
    have hil : it < s.heap.objs.size := by obtain ⟨_, q, _⟩ := hit; exact Heap.lt_size q
    have pt : s.heap.IsTuple a its.toArray := p
    have hae : e ≠ a := fun z => by
      subst z
      obtain ⟨o, q1, q2, _⟩ := pt
      rw [he] at q1; cases q1
      injection q2 with h; exact absurd h (by decide)
    have hai : a ≠ it := fun z => by
      subst z
      obtain ⟨o, q1, q2, _⟩ := pt
      obtain ⟨o', q3, q4, _⟩ := hit
      rw [q1] at q3; cases q3; rw [q2] at q4
      injection q4 with h; exact absurd h (by decide)
    have hlt : i < its.toArray.size := by
      rw [List.size_toArray]; exact (List.getElem?_eq_some_iff.mp hu).1
    refine wpAny_pyNext_enum_itemD (Draws.tuple (by first | exact I.ok.hd hc | (show X.A.in1.handled = none; exact I.ok.hd hc)) it a hai its.toArray) he ⟨hit, pt⟩ hlt hne (by simp; exact ⟨hne, hae⟩) fun u' h' tk hP ho hst' hT hsz hk => ?_
    have : u' = u := by
      have h1 : its.toArray[i]? = some u' := hP
      have h2 : its.toArray[i]? = some u := by simpa using hu
      rw [h1] at h2; exact Option.some.inj h2
    subst this
    refine ⟨_, rfl, wpAny_letOwnedTupleGo_enum (s := { s with heap := h', toks := tk + 1 }) ho fun h'' he' sb => ?_⟩
    have hT2 : h''.get? s.heap.objs.size = some { cls := .type "tuple", data := .seq #[.int i tk, u'] } := (sb.2 _ (Nat.ne_of_gt hel)).trans hT
    have new : ObjOk X.prog X.w (upd H s.heap.objs.size (.tup [.int (i : Nat), x])) h'' s.heap.objs.size (.tup [.int (i : Nat), x]) :=
      ⟨by show 2 ≤ sizeLine; decide, [.int i tk, u'], .cons ⟨_, rfl⟩ (.cons ru .nil), ⟨_, hT2, rfl, _, rfl⟩⟩
    have I1 : Inv X pins σ (upd H s.heap.objs.size (.tup [.int (i : Nat), x])) { s with heap := h'', toks := tk + 1 } :=
      I.turnedNew (ch := [e, it]) (fun b ob hb q => (sb.2 b (fun z => hb (by simp [z]))).trans (hk b ob (fun z => hb (by simp [z])) (fun z => hb (by simp [z])) q)) hf (Nat.le_refl _) new
    refine ⟨.ref s.heap.objs.size, _, I1, rfl, ⟨_, x, rfl, I.hok.fresh (Nat.le_refl _), rfl, fun ys hy => by rw [I.tuple_inj hy hq]; exact hx⟩, ⟨⟨u', ?_⟩, hst'.1.at fun o q => (sb.2 it (Ne.symm hne)).trans q, hne⟩, fun b hb => ?_⟩
    · have e1 : ((i + 1 : Nat) : Int) = (i : Int) + 1 := by omega
      rw [e1]; exact he'
    · have hb' : b < s.heap.objs.size := by
        have e' : b = e ∨ b = it := by simpa using hb
        rcases e' with z | z
        · rw [z]; exact hel
        · rw [z]; exact hil
      rw [upd_ne (Nat.ne_of_lt hb')]
      exact (hf b hb).1
  done := by
    intro X hP hw hK hc i pins s σ H E I hf st hg
    subst hP hw hK
    obtain ⟨⟨old, he⟩, hit, hne⟩ := st
    obtain ⟨xs, hq, hx⟩ := hg
    obtain ⟨its, rv, p, hz⟩ := I.tuple hq
    obtain ⟨f0, f1, f2, f3, f4, f5⟩ := hf it (by simp)
    have hl := rv.length
    have pt : s.heap.IsTuple a its.toArray := p
    have hai : a ≠ it := fun z => by
      subst z
      obtain ⟨o, q1, q2, _⟩ := pt
      obtain ⟨o', q3, q4, _⟩ := hit
      rw [q1] at q3; cases q3; rw [q2] at q4
      injection q4 with h; exact absurd h (by decide)
    have hdl : X.A.in1.handled = none := I.ok.hd hc
    have hn : its.toArray.size = i := by rw [List.size_toArray, ← hl]; exact hx
    have D := Draws.tuple (prog := X.prog) (w := X.w) (A := X.A.in1) hdl it a hai its.toArray
    rw [hn] at D
    exact wpAny_pyNext_enum_endD D he ⟨hit, pt⟩ fun h' eb => ⟨rfl, I.turned (t' := s.toks) (fun b o hb q => eb b o hb q) f0 f1 f3 f4 f5⟩
  self := fun A i s Q E st h => let ⟨⟨_, he⟩, _⟩ := st; wpAny_pyIter_enum he h
end Pv
end

section
set_option Elab.async false
set_option linter.all false
set_option maxRecDepth 100000
set_option maxHeartbeats 4000000
/-! EvO: walks as the evaluator tells them; for; comprehensions. -/
namespace Pv
open PySem PySem.Spec PyProof.Rows L2
/-- a walk that gives these items, whatever else is done, as long as nothing that stands is changed -/
structure IW (W : Wr) (J : L2.It) (items : List D) (m : Fb) (θ : List Addr) (H : Hp) : Prop where
  go : ∀ m' θ' H', Keep m θ H m' θ' H' → ∀ i, i < items.length → J.go i H'
  stop : ∀ m' θ' H', Keep m θ H m' θ' H' → J.stop items.length H'
  yld : ∀ m' θ' H', Keep m θ H m' θ' H' → (∀ a, m' a → ∃ o, H' a = some o ∧ MutT (some o)) → ∀ i x v H'', items[i]? = some x → J.yld i H' v H'' → R1 W m' θ' H' (.d x) v H''
def tI (W : Wr) (r : S → Out (List D)) : TI := fun σ H R => ∃ F θ s, Rep W F θ s σ H ∧
  OkP (fun items s' => ∀ J H' θ', Rep W F θ' s' σ H' → Keep (M0 θ s.ρ σ) θ H (M0 θ' s'.ρ σ) θ' H' → IW W J items (Mt F θ' s'.ρ σ) θ' H' → R J H') (r s)
section
variable {X : Cx} {W : Wr} {g : G}
theorem monoI {tg e : Expr} {t t' : TI} (h : PI X tg e t) (i : ∀ σ H R, t' σ H R → t σ H R) : PI X tg e t' := ⟨fun pins s σ H R I q => h.run pins s σ H R I (i σ H R q)⟩
theorem iw_list (hK : W.K = X.K) {m : Fb} {θ : List Addr} {H : Hp} {ds : List D} {a : Addr} (h : RepV W m θ H (.lst ds) (.ref a) ∨ RepV W m θ H (.scr ds) (.ref a)) : IW W (Itl X.K a) ds m θ H := by
  have at_ : ∀ {m' θ' H'}, Keep m θ H m' θ' H' → ∃ vs, SqL X.K H' a vs ∧ RepVs W m' θ' H' ds vs := fun {m' θ' H'} k => by
    rcases h with h | h
    · cases RepV.keep k h with
      | lst e n rs => exact ⟨_, .of e, rs⟩
    · cases RepV.keep k h with
      | scr e rs => exact ⟨_, hK ▸ e.elim (fun z => .inl z.1) .inr, rs⟩
  refine ⟨fun m' θ' H' k i hi => ?_, fun m' θ' H' k => ?_, fun m' θ' H' k _ i x v H'' hx y => ?_⟩
  · obtain ⟨vs, q, rs⟩ := at_ k
    obtain ⟨v, hv, _⟩ := rs.get (List.getElem?_eq_getElem hi)
    exact ⟨vs, v, q, hv⟩
  · obtain ⟨vs, q, rs⟩ := at_ k
    exact ⟨vs, q, Nat.le_of_eq rs.length.symm⟩
  · obtain ⟨vs, q, rs⟩ := at_ k
    obtain ⟨v', hv, r⟩ := rs.get hx
    obtain ⟨rfl, y⟩ := y
    rw [y vs q] at hv; cases hv
    exact .inl ⟨rfl, r⟩
theorem iw_tup (hK : W.K = X.K) {m : Fb} {θ : List Addr} {H : Hp} {ds : List D} {a : Addr} (h : RepV W m θ H (.tup ds) (.ref a)) : IW W (Itt X.K a) ds m θ H := by
  have at_ : ∀ {m' θ' H'}, Keep m θ H m' θ' H' → ∃ vs, SqT X.K H' a vs ∧ RepVs W m' θ' H' ds vs := fun {m' θ' H'} k => by
    cases RepV.keep k h with
    | tup e rs => exact ⟨_, hK ▸ e.elim (fun z => .inl z.1) .inr, rs⟩
  refine ⟨fun m' θ' H' k i hi => ?_, fun m' θ' H' k => ?_, fun m' θ' H' k _ i x v H'' hx y => ?_⟩
  · obtain ⟨vs, q, rs⟩ := at_ k
    obtain ⟨v, hv, _⟩ := rs.get (List.getElem?_eq_getElem hi)
    exact ⟨vs, v, q, hv⟩
  · obtain ⟨vs, q, rs⟩ := at_ k
    exact ⟨vs, q, Nat.le_of_eq rs.length.symm⟩
  · obtain ⟨vs, q, rs⟩ := at_ k
    obtain ⟨v', hv, r⟩ := rs.get hx
    obtain ⟨rfl, y⟩ := y
    rw [y vs q] at hv; cases hv
    exact .inl ⟨rfl, r⟩
theorem iw_str {m : Fb} {θ : List Addr} {H : Hp} {z : Str} : IW W (Its z) (z.cps.toList.map fun c => .str ⟨#[c]⟩) m θ H := by
  refine ⟨fun m' θ' H' k i hi => (by simpa using hi : i < z.cps.size), fun m' θ' H' k => (by simp : z.cps.size ≤ _), fun m' θ' H' k _ i x v H'' hx y => ?_⟩
  obtain ⟨rfl, c, hc, rfl⟩ := y
  rw [List.getElem?_map, Array.getElem?_toList, hc] at hx
  cases hx
  exact .inl ⟨rfl, .str _⟩
/-- any thing that a for walks by itself -/
def iAny (K : PySem.W.Frag) (te : TE) : TI := fun σ H R => te σ H fun x H1 => (∃ a, x = .ref a ∧ (∃ xs, SqL K H1 a xs) ∧ R (Itl K a) H1) ∨ (∃ a, x = .ref a ∧ (∃ xs, SqT K H1 a xs) ∧ R (Itt K a) H1) ∨ (∃ z, x = .str z ∧ R (Its z) H1)
theorem pi_any {tg l : Expr} {tl : TE} (hl : PE X l tl) : PI X tg l (iAny X.K tl) := by
  refine ⟨fun pins s σ H R I h => ?_⟩
  refine thn (hl.run pins s σ H _ I h) fun v s1 ⟨x, H1, I1, r1, q1⟩ => ?_
  rcases q1 with ⟨a, e, ⟨xs, hq⟩, q⟩ | ⟨a, e, ⟨xs, hq⟩, q⟩ | ⟨z, e, q⟩
  · subst e
    cases r1
    obtain ⟨its, rv, p, hz⟩ := I1.list hq
    refine wpAny_pyIter_list p.isList ?_
    refine ⟨s1.heap.objs.size, [s1.heap.objs.size], _, _, H1, rfl, I1.kept (t' := s1.toks) fun b o e => Heap.get?_push_of_some _ e, turn_list a _, ⟨_, Heap.get?_push_size _ rfl, rfl, rfl⟩, fun b hb => ?_, q⟩
    have e : b = s1.heap.objs.size := by simpa using hb
    subst e
    exact I1.fpOk (Nat.le_refl _) (I1.hok.fresh (Nat.le_refl _))
  · subst e
    cases r1
    obtain ⟨its, rv, p, hz⟩ := I1.tuple hq
    refine wpAny_pyIter_tuple (show s1.heap.IsTuple a its.toArray from p) ?_
    refine ⟨s1.heap.objs.size, [s1.heap.objs.size], _, _, H1, rfl, I1.kept (t' := s1.toks) fun b o e => Heap.get?_push_of_some _ e, turn_tuple a _, ⟨_, Heap.get?_push_size _ rfl, rfl, rfl⟩, fun b hb => ?_, q⟩
    have e : b = s1.heap.objs.size := by simpa using hb
    subst e
    exact I1.fpOk (Nat.le_refl _) (I1.hok.fresh (Nat.le_refl _))
  · subst e
    obtain ⟨t, rfl⟩ := r1
    cases ha : z.cps.all (· < 128)
    · exact wpAny_pyIter_wide ha (pi_one (tk := s1.toks) I1 _ (turn_str _ z t "str_iterator" (.inr rfl)) ⟨_, Heap.get?_push_size _ rfl, rfl, rfl⟩ q)
    · exact wpAny_pyIter_ascii ha (pi_one (tk := s1.toks) I1 _ (turn_str _ z t "str_ascii_iterator" (.inl rfl)) ⟨_, Heap.get?_push_size _ rfl, rfl, rfl⟩ q)
theorem sqt_of (hK : W.K = X.K) {m : Fb} {H : Hp} {a : Addr} {vs : List V} (h : (Rd H a (.tup vs) ∧ ¬ m a) ∨ KT W.K a vs) : SqT X.K H a vs := hK ▸ h.elim (fun z => .inl z.1) .inr
theorem sql_of (hK : W.K = X.K) {m : Fb} {H : Hp} {a : Addr} {vs : List V} (h : (Rd H a (.lst vs) ∧ ¬ m a) ∨ KL W.K a vs) : SqL X.K H a vs := hK ▸ h.elim (fun z => .inl z.1) .inr
theorem pi_seq (hK : W.K = X.K) {tg e : Expr} {a : E} (he : PE X e (tE W (ev g a))) : PI X tg e (tI W (evI g (.seq a))) := by
  refine monoI (pi_any he) fun σ H R hq => ?_
  obtain ⟨F, θ, s, Rp, q⟩ := hq
  refine tE_bind Rp q fun x s1 v H1 θ1 rx q1 => ?_
  obtain ⟨items, e1, q1⟩ := OkP.lift q1
  have rv := rx.val
  generalize x.frz = d at e1 rv
  cases d <;> first | (cases e1; done) | skip
  · cases rv; cases e1
    exact .inr (.inr ⟨_, rfl, q1 _ H1 θ1 rx.rep rx.keep iw_str⟩)
  · cases e1
    have rv0 := rv
    cases rv with
    | tup h rs => exact .inr (.inl ⟨_, rfl, ⟨_, sqt_of hK h⟩, q1 _ H1 θ1 rx.rep rx.keep (iw_tup hK rv0)⟩)
  · cases e1
    have rv0 := rv
    cases rv with
    | lst h n rs => exact .inl ⟨_, rfl, ⟨_, .of h⟩, q1 _ H1 θ1 rx.rep rx.keep (iw_list hK (.inl rv0))⟩
  · cases e1
    have rv0 := rv
    cases rv with
    | scr h rs => exact .inl ⟨_, rfl, ⟨_, sql_of hK h⟩, q1 _ H1 θ1 rx.rep rx.keep (iw_list hK (.inr rv0))⟩
/-! ### range -/
theorem rangeD_get {c : Int} : ∀ (n : Nat) (lo : Int) (i : Nat), i < n → (rangeD lo c n)[i]? = some (.int (lo + (i : Nat) * c))
  | 0, _, _, h => by omega
  | n + 1, lo, 0, _ => by simp [rangeD]
  | n + 1, lo, i + 1, h => by
    show (D.int lo :: rangeD (lo + c) c n)[i + 1]? = _
    rw [List.getElem?_cons_succ, rangeD_get n (lo + c) i (by omega)]
    have : lo + c + (i : Nat) * c = lo + ((i + 1 : Nat) : Int) * c := by
      rw [show ((i + 1 : Nat) : Int) = (i : Int) + 1 by omega, Int.add_mul, Int.one_mul]; omega
    rw [this]
theorem rangeD_len {c : Int} : ∀ (n : Nat) (lo : Int), (rangeD lo c n).length = n
  | 0, _ => rfl
  | n + 1, lo => congrArg Nat.succ (rangeD_len n _)
theorem iw_range {m : Fb} {θ : List Addr} {H : Hp} {lo : Int} {n : Nat} : IW W (Itr lo n) (rangeD lo 1 n) m θ H := by
  refine ⟨fun m' θ' H' k i hi => by rw [rangeD_len] at hi; exact hi, fun m' θ' H' k => by rw [rangeD_len]; exact Nat.le_refl _, fun m' θ' H' k _ i x v H'' hx y => ?_⟩
  obtain ⟨rfl, rfl⟩ := y
  have hi : i < n := by have := (List.getElem?_eq_some_iff.mp hx).1; rwa [rangeD_len] at this
  rw [rangeD_get n lo i hi] at hx
  cases hx
  rw [Int.mul_one]
  exact .inl ⟨rfl, .int _⟩
theorem iw_rangeC {m : Fb} {θ : List Addr} {H : Hp} {lo c : Int} {n : Nat} : IW W (Itc lo c n) (rangeD lo c n) m θ H := by
  refine ⟨fun m' θ' H' k i hi => by rw [rangeD_len] at hi; exact hi, fun m' θ' H' k => by rw [rangeD_len]; exact Nat.le_refl _, fun m' θ' H' k _ i x v H'' hx y => ?_⟩
  obtain ⟨rfl, rfl⟩ := y
  have hi : i < n := by have := (List.getElem?_eq_some_iff.mp hx).1; rwa [rangeD_len] at this
  rw [rangeD_get n lo i hi] at hx
  cases hx
  exact .inl ⟨rfl, .int _⟩
theorem near_iff {i : Int} (h : near i = true) : -(2 ^ 62) ≤ i ∧ i < 2 ^ 62 := by unfold near at h; exact of_decide_eq_true h
theorem evs_len {g : G} : ∀ {as : List E} {s : S} {P : List D → S → Prop}, OkP P (evs g as s) → OkP (fun xs s' => P xs s' ∧ xs.length = as.length) (evs g as s)
  | [], s, P, h => ⟨h, rfl⟩
  | a :: as, s, P, h => by
    have h : OkP P ((ev g a s).bind fun x s => (evs g as s).bind fun xs s => .ok (x.frz :: xs) s) := h
    show OkP _ ((ev g a s).bind fun x s => (evs g as s).bind fun xs s => .ok (x.frz :: xs) s)
    cases e : ev g a s with
    | exc _ _ _ => rw [e] at h; exact h.elim
    | err => rw [e] at h; exact h.elim
    | ok x s1 =>
      rw [e] at h
      simp only [Out.bind_ok] at h ⊢
      have h2 := evs_len (OkP.bind h)
      cases e2 : evs g as s1 with
      | exc _ _ _ => rw [e2] at h2; exact h2.elim
      | err => rw [e2] at h2; exact h2.elim
      | ok xs s2 =>
        rw [e2] at h2
        exact ⟨h2.1, congrArg Nat.succ h2.2⟩
theorem pi_rng1 (hg : Gl X "range") (hm : X.mg "range" = none) {tg a : Expr} {p pos : Pos} {as : List E} (hl : as.length = 1) (hn : noStar a = true) (ha : PA X [a] (tEs W g as)) : PI X tg (.Call (.Name "range" p) [a] [] pos) (tI W (evI g (.range as))) := by
  refine monoI (pi_range1 hg hm ha (star_of hn)) fun σ H R hq => ?_
  obtain ⟨F, θ, s, Rp, q⟩ := hq
  refine ⟨F, θ, s, Rp, (evs_len (OkP.bind (show OkP _ ((evs g as s).bind _) from q))).imp fun xs s1 ⟨q1, ln⟩ vs H1 θ1 R1 k1 rs => ?_⟩
  obtain ⟨items, e1, q1⟩ := OkP.lift q1
  rw [hl] at ln
  match xs, ln, rs with
  | [d1], _, .cons r .nil =>
    cases d1 <;> first | (cases e1; done) | skip
    simp only [rangeItems] at e1
    split at e1
    · rename_i hq
      cases e1
      cases r
      exact ⟨_, rfl, (near_iff hq.1).1, (near_iff hq.1).2, q1 _ H1 θ1 R1 k1 iw_range⟩
    · cases e1
theorem pi_rng2 (hg : Gl X "range") (hm : X.mg "range" = none) {tg a b : Expr} {p pos : Pos} {as : List E} (hl : as.length = 2) (hn : noStar a = true) (hn' : noStar b = true) (ha : PA X [a, b] (tEs W g as)) : PI X tg (.Call (.Name "range" p) [a, b] [] pos) (tI W (evI g (.range as))) := by
  refine monoI (pi_range2 hg hm ha (by rw [star_of hn, star_of hn']; rfl) (star_of hn')) fun σ H R hq => ?_
  obtain ⟨F, θ, s, Rp, q⟩ := hq
  refine ⟨F, θ, s, Rp, (evs_len (OkP.bind (show OkP _ ((evs g as s).bind _) from q))).imp fun xs s1 ⟨q1, ln⟩ vs H1 θ1 R1 k1 rs => ?_⟩
  obtain ⟨items, e1, q1⟩ := OkP.lift q1
  rw [hl] at ln
  match xs, ln, rs with
  | [d1, d2], _, .cons r (.cons r' .nil) =>
    cases d1 <;> first | (cases e1; done) | skip
    cases d2 <;> first | (cases e1; done) | skip
    simp only [rangeItems] at e1
    split at e1
    · rename_i hq
      cases e1
      cases r
      cases r'
      exact ⟨_, _, rfl, ⟨(near_iff hq.1).1, (near_iff hq.1).2, (near_iff hq.2.1).1, (near_iff hq.2.1).2⟩, q1 _ H1 θ1 R1 k1 iw_range⟩
    · cases e1
theorem pi_rng3 (hg : Gl X "range") (hm : X.mg "range" = none) {tg a b c : Expr} {p pos : Pos} {as : List E} (hl : as.length = 3) (hn : noStar a = true) (hn' : noStar b = true) (hn3 : noStar c = true) (ha : PA X [a, b, c] (tEs W g as)) :
    PI X tg (.Call (.Name "range" p) [a, b, c] [] pos) (tI W (evI g (.range as))) := by
  have st : ∀ {p : Pos}, (backTo p (starEach [b, c] X.env)).any (·.1) = false := fun {p} => stars_of (by simp [hn', hn3])
  refine monoI (pi_range3 hg hm ha (star_of hn) st) fun σ H R hq => ?_
  obtain ⟨F, θ, s, Rp, q⟩ := hq
  refine ⟨F, θ, s, Rp, (evs_len (OkP.bind (show OkP _ ((evs g as s).bind _) from q))).imp fun xs s1 ⟨q1, ln⟩ vs H1 θ1 R1 k1 rs => ?_⟩
  obtain ⟨items, e1, q1⟩ := OkP.lift q1
  rw [hl] at ln
  match xs, ln, rs with
  | [d1, d2, d3], _, .cons r (.cons r' (.cons r'' .nil)) =>
    have h3 : ∃ i j, d1 = .int i ∧ d2 = .int j ∧ d3 = .int (-1) := by
      unfold rangeItems at e1
      split at e1
      · rename_i h; cases h
      · rename_i h; cases h
      · rename_i h; cases h; exact ⟨_, _, rfl, rfl, rfl⟩
      · cases e1
    obtain ⟨i, j, rfl, rfl, rfl⟩ := h3
    simp only [rangeItems] at e1
    split at e1
    · rename_i hq
      cases e1
      cases r
      cases r'
      cases r''
      exact ⟨_, _, _, _, rfl, RgC.neg (near_iff hq.1).1 (near_iff hq.1).2 (near_iff hq.2.1).1 (near_iff hq.2.1).2, q1 _ H1 θ1 R1 k1 iw_rangeC⟩
    · cases e1
end
end Pv
end

section
set_option Elab.async false
set_option linter.all false
set_option maxRecDepth 100000
set_option maxHeartbeats 4000000
/-! EvP: enumerate, zip; for. -/
namespace Pv
open PySem PySem.Spec PyProof.Rows L2
section
variable {X : Cx} {W : Wr} {g : G}
theorem enumD_get : ∀ (ds : List D) (k i : Nat), (enumD k ds)[i]? = ds[i]?.map fun x => .tup [.int ((k + i : Nat) : Int), x]
  | [], _, _ => by simp [enumD]
  | d :: ds, k, 0 => by simp [enumD]
  | d :: ds, k, i + 1 => by
    show (D.tup [.int k, d] :: enumD (k + 1) ds)[i + 1]? = _
    rw [List.getElem?_cons_succ, enumD_get ds (k + 1) i, List.getElem?_cons_succ, show k + 1 + i = k + (i + 1) by omega]
theorem enumD_len : ∀ (ds : List D) (k : Nat), (enumD k ds).length = ds.length
  | [], _ => rfl
  | d :: ds, k => congrArg Nat.succ (enumD_len ds _)
theorem zipD_get : ∀ (ds es : List D) (i : Nat) (z : D), (zipD ds es)[i]? = some z → ∃ x y, ds[i]? = some x ∧ es[i]? = some y ∧ z = .tup [x, y]
  | [], es, i, z, h => by simp [zipD] at h
  | _ :: _, [], i, z, h => by simp [zipD] at h
  | d :: ds, e :: es, 0, z, h => by
    have h : some (D.tup [d, e]) = some z := h
    cases h; exact ⟨d, e, rfl, rfl, rfl⟩
  | d :: ds, e :: es, i + 1, z, h => by
    have h : (zipD ds es)[i]? = some z := h
    obtain ⟨x, y, a, b, c⟩ := zipD_get ds es i z h
    exact ⟨x, y, a, b, c⟩
theorem zipD_len : ∀ (ds es : List D), (zipD ds es).length = min ds.length es.length
  | [], es => by simp [zipD]
  | _ :: _, [] => by simp [zipD]
  | d :: ds, e :: es => by
    show (zipD ds es).length + 1 = _
    rw [zipD_len ds es]; simp only [List.length_cons]; omega
theorem iw_enum (hK : W.K = X.K) {m : Fb} {θ : List Addr} {H : Hp} {ds : List D} {a : Addr} (h : RepV W m θ H (.lst ds) (.ref a)) : IW W (Ite X.K a) (enumD 0 ds) m θ H := by
  have at_ : ∀ {m' θ' H'}, Keep m θ H m' θ' H' → ∃ vs, SqL X.K H' a vs ∧ RepVs W m' θ' H' ds vs := fun {m' θ' H'} k => by
    cases RepV.keep k h with
    | lst e n rs => exact ⟨_, .of e, rs⟩
  refine ⟨fun m' θ' H' k i hi => ?_, fun m' θ' H' k => ?_, fun m' θ' H' k _ i x v H'' hx y => ?_⟩
  · rw [enumD_len] at hi
    obtain ⟨vs, q, rs⟩ := at_ k
    obtain ⟨v, hv, _⟩ := rs.get (List.getElem?_eq_getElem hi)
    exact ⟨vs, v, q, hv⟩
  · rw [enumD_len]
    obtain ⟨vs, q, rs⟩ := at_ k
    exact ⟨vs, q, Nat.le_of_eq rs.length.symm⟩
  · obtain ⟨vs, q, rs⟩ := at_ k
    rw [enumD_get, Option.map_eq_some_iff] at hx
    obtain ⟨d, hd, rfl⟩ := hx
    obtain ⟨v', hv, r⟩ := rs.get hd
    obtain ⟨T, w, rfl, n, rfl, y⟩ := y
    rw [y vs q] at hv; cases hv
    rw [Nat.zero_add]
    exact .inr ⟨T, _, _, rfl, n, rfl, rfl, .cons (.int _) (.cons r .nil)⟩
theorem iw_enumT (hK : W.K = X.K) {m : Fb} {θ : List Addr} {H : Hp} {ds : List D} {a : Addr} (h : RepV W m θ H (.tup ds) (.ref a)) : IW W (IteT X.K a) (enumD 0 ds) m θ H := by
  have at_ : ∀ {m' θ' H'}, Keep m θ H m' θ' H' → ∃ vs, SqT X.K H' a vs ∧ RepVs W m' θ' H' ds vs := fun {m' θ' H'} k => by
    cases RepV.keep k h with
    | tup e rs => exact ⟨_, sqt_of hK e, rs⟩
  refine ⟨fun m' θ' H' k i hi => ?_, fun m' θ' H' k => ?_, fun m' θ' H' k _ i x v H'' hx y => ?_⟩
  · rw [enumD_len] at hi
    obtain ⟨vs, q, rs⟩ := at_ k
    obtain ⟨v, hv, _⟩ := rs.get (List.getElem?_eq_getElem hi)
    exact ⟨vs, v, q, hv⟩
  · rw [enumD_len]
    obtain ⟨vs, q, rs⟩ := at_ k
    exact ⟨vs, q, rs.length.symm⟩
  · obtain ⟨vs, q, rs⟩ := at_ k
    rw [enumD_get, Option.map_eq_some_iff] at hx
    obtain ⟨d, hd, rfl⟩ := hx
    obtain ⟨v', hv, r⟩ := rs.get hd
    obtain ⟨T, w, rfl, n, rfl, y⟩ := y
    rw [y vs q] at hv; cases hv
    rw [Nat.zero_add]
    exact .inr ⟨T, _, _, rfl, n, rfl, rfl, .cons (.int _) (.cons r .nil)⟩
def iEnumA (K : PySem.W.Frag) (ta : TA) : TI := fun σ H R => ta σ H fun vs H1 => ∃ a xs, vs = [.ref a] ∧ ((SqL K H1 a xs ∧ R (Ite K a) H1) ∨ (SqT K H1 a xs ∧ R (IteT K a) H1))
theorem pi_enumA {e : Expr} {ta : TA} {p pos tpos : Pos} {elts : List Expr} {kk : Nat} (hg : Gl X "enumerate") (hm : X.mg "enumerate" = none) (ha : PA X [e] ta) (hs : starEach [e] X.env = [(false, eval e X.env)]) :
    PI X (.Tuple elts kk tpos) (.Call (.Name "enumerate" p) [e] [] pos) (iEnumA X.K ta) := by
  refine ⟨fun pins s σ H R I h => ?_⟩
  refine Call_ (ld_blt I hg hm boot_enumerate (PyProof.Rows.callWith_type1 (thn (ha.run pos pins s σ H _ I h) fun us s1 ⟨vs, H1, I1, r1, q1⟩ => ?_) hs rfl))
  obtain ⟨a, xs, ex, q1⟩ := q1
  subst ex
  cases r1 with
  | cons r rr =>
    cases rr
    cases r
    have fr : ∀ b ∈ [s1.heap.objs.size + 1, s1.heap.objs.size], FpOk X pins H1 b := fun b hb => by
      have e' : b = s1.heap.objs.size + 1 ∨ b = s1.heap.objs.size := by simpa using hb
      have hle : s1.heap.objs.size ≤ b := by
        rcases e' with z | z
        · rw [z]; exact Nat.le_add_right _ _
        · rw [z]; exact Nat.le_refl _
      exact I1.fpOk hle (I1.hok.fresh hle)
    rcases q1 with ⟨hq, q⟩ | ⟨hq, q⟩
    · obtain ⟨its, rv, p', hz⟩ := I1.list hq
      refine call_enumerate_list p'.isList fun h' he hit hsz hk => wpAny_pyIter_enum he ?_
      have I2 : Inv X pins σ H1 { s1 with heap := h' } := I1.kept (t' := s1.toks) hk
      exact ⟨s1.heap.objs.size + 1, [s1.heap.objs.size + 1, s1.heap.objs.size], _, _, H1, rfl, I2, turn_enum a (s1.heap.objs.size + 1) s1.heap.objs.size, ⟨⟨.none, he⟩, hit, Nat.succ_ne_self _⟩, fr, q⟩
    · obtain ⟨its, rv, p', hz⟩ := I1.tuple hq
      refine enum_begins1 (begins_tuple a its.toArray) p' fun h' he hit hsz hk => wpAny_pyIter_enum he ?_
      have I2 : Inv X pins σ H1 { s1 with heap := h' } := I1.kept (t' := s1.toks) hk
      exact ⟨s1.heap.objs.size + 1, [s1.heap.objs.size + 1, s1.heap.objs.size], _, _, H1, rfl, I2, turn_enumT a (s1.heap.objs.size + 1) s1.heap.objs.size, ⟨⟨.none, he⟩, ⟨_, hit, rfl, rfl⟩, Nat.succ_ne_self _⟩, fr, q⟩
theorem pi_enum2 (hK : W.K = X.K) (hg : Gl X "enumerate") (hm : X.mg "enumerate" = none) {e : Expr} {a : E} {p pos tpos : Pos} {elts : List Expr} {kk : Nat} (hn : noStar e = true) (he : PE X e (tE W (ev g a))) :
    PI X (.Tuple elts kk tpos) (.Call (.Name "enumerate" p) [e] [] pos) (tI W (evI g (.enum a))) := by
  refine monoI (pi_enumA hg hm (pa_cons he pa_nil (star_of hn)) (star_of hn)) fun σ H R hq => ?_
  obtain ⟨F, θ, s, Rp, q⟩ := hq
  refine tE_bind Rp q fun x s1 v H1 θ1 rx q1 => ?_
  obtain ⟨items, e1, q1⟩ := OkP.lift q1
  have rv := rx.val
  generalize x.frz = d at e1 rv
  cases d <;> first | (cases e1; done) | skip
  · cases e1
    have rv0 := rv
    cases rv with
    | tup h rs => exact ⟨_, _, rfl, .inr ⟨sqt_of hK h, q1 _ H1 θ1 rx.rep rx.keep (iw_enumT hK rv0)⟩⟩
  · cases e1
    have rv0 := rv
    cases rv with
    | lst h n rs => exact ⟨_, _, rfl, .inl ⟨.of h, q1 _ H1 θ1 rx.rep rx.keep (iw_enum hK rv0)⟩⟩
theorem iw_zip {m : Fb} {θ : List Addr} {H : Hp} {ds es : List D} {Sq : Hp → List V → Prop} {Sq' : Hp → List V → Prop} {J : L2.It}
    (h1 : ∀ {m' θ' H'}, Keep m θ H m' θ' H' → ∃ vs, Sq H' vs ∧ RepVs W m' θ' H' ds vs) (h2 : ∀ {m' θ' H'}, Keep m θ H m' θ' H' → ∃ vs, Sq' H' vs ∧ RepVs W m' θ' H' es vs)
    (hg : ∀ i H xs ys x y, Sq H xs → Sq' H ys → xs[i]? = some x → ys[i]? = some y → J.go i H) (hs : ∀ i H xs ys, Sq H xs → Sq' H ys → (xs.length ≤ i ∨ ys.length ≤ i) → J.stop i H)
    (hy : ∀ i H v H', J.yld i H v H' → ∃ T x y, v = .ref T ∧ H T = none ∧ H' = upd H T (.tup [x, y]) ∧ (∀ xs, Sq H xs → xs[i]? = some x) ∧ ∀ ys, Sq' H ys → ys[i]? = some y) : IW W J (zipD ds es) m θ H := by
  refine ⟨fun m' θ' H' k i hi => ?_, fun m' θ' H' k => ?_, fun m' θ' H' k _ i x v H'' hx y => ?_⟩
  · rw [zipD_len] at hi
    obtain ⟨vs, q, rs⟩ := h1 k
    obtain ⟨ws, q', rs'⟩ := h2 k
    obtain ⟨v, hv, _⟩ := rs.get (List.getElem?_eq_getElem (i := i) (by omega))
    obtain ⟨w, hw, _⟩ := rs'.get (List.getElem?_eq_getElem (i := i) (by omega))
    exact hg i H' vs ws v w q q' hv hw
  · rw [zipD_len]
    obtain ⟨vs, q, rs⟩ := h1 k
    obtain ⟨ws, q', rs'⟩ := h2 k
    exact hs _ H' vs ws q q' (by rw [← rs.length, ← rs'.length]; omega)
  · obtain ⟨vs, q, rs⟩ := h1 k
    obtain ⟨ws, q', rs'⟩ := h2 k
    obtain ⟨d, e, hd, he, rfl⟩ := zipD_get ds es i x hx
    obtain ⟨v', hv, r⟩ := rs.get hd
    obtain ⟨w', hw, r'⟩ := rs'.get he
    obtain ⟨T, u, z, rfl, n, rfl, y1, y2⟩ := hy i H' v H'' y
    rw [y1 vs q] at hv; cases hv
    rw [y2 ws q'] at hw; cases hw
    exact .inr ⟨T, _, _, rfl, n, rfl, rfl, .cons r (.cons r' .nil)⟩
theorem pi_zip2 (hK : W.K = X.K) (hg : Gl X "zip") (hm : X.mg "zip" = none) {e e' : Expr} {a b : E} {p pos tpos : Pos} {elts : List Expr} {kk : Nat} (hn : noStar e = true) (hn' : noStar e' = true) (he : PE X e (tE W (ev g a))) (he' : PE X e' (tE W (ev g b))) :
    PI X (.Tuple elts kk tpos) (.Call (.Name "zip" p) [e, e'] [] pos) (tI W (evI g (.zip a b))) := by
  refine monoI (RZ.pi_zipA hg hm (pa_cons he (pa_cons he' pa_nil (star_of hn')) (star_of hn)) (star_of hn) (stars_of (by simp [hn']))) fun σ H R hq => ?_
  obtain ⟨F, θ, s, Rp, q⟩ := hq
  refine tE_bind Rp q fun x s1 v H1 θ1 rx q1 => ?_
  refine tE_bind rx.rep q1 fun y s2 w H2 θ2 ry q2 => ?_
  obtain ⟨items, e1, q2⟩ := OkP.lift q2
  have rv := RepV.keep (Keep.mt rx.rep ry.keep) rx.val
  have rw' := ry.val
  have k := rx.keep.trans ry.keep
  generalize x.frz = d at e1 rv
  generalize y.frz = d' at e1 rw'
  cases d <;> first | (cases e1; done) | skip
  · cases d' <;> first | (cases e1; done) | skip
    cases e1
    have rv0 := rv
    have rw0 := rw'
    cases rv with
    | tup h rs =>
      cases rw' with
      | tup h' rs' =>
        refine ⟨_, _, _, _, rfl, .inr ⟨sqt_of hK h, sqt_of hK h', q2 _ H2 θ2 ry.rep k (iw_zip (fun k => ?_) (fun k => ?_) (fun i H xs ys x y a b c d => ⟨xs, ys, x, y, a, b, c, d⟩) (fun i H xs ys a b c => ⟨xs, ys, a, b, c⟩) (fun i H v H' y => y))⟩⟩
        · cases RepV.keep k rv0 with
          | tup e rs => exact ⟨_, sqt_of hK e, rs⟩
        · cases RepV.keep k rw0 with
          | tup e rs => exact ⟨_, sqt_of hK e, rs⟩
  · cases d' <;> first | (cases e1; done) | skip
    cases e1
    have rv0 := rv
    have rw0 := rw'
    cases rv with
    | lst h n rs =>
      cases rw' with
      | lst h' n' rs' =>
        refine ⟨_, _, _, _, rfl, .inl ⟨.of h, .of h', q2 _ H2 θ2 ry.rep k (iw_zip (fun k => ?_) (fun k => ?_) (fun i H xs ys x y a b c d => ⟨xs, ys, x, y, a, b, c, d⟩) (fun i H xs ys a b c => ⟨xs, ys, a, b, c⟩) (fun i H v H' y => y))⟩⟩
        · cases RepV.keep k rv0 with
          | lst e n rs => exact ⟨_, .of e, rs⟩
        · cases RepV.keep k rw0 with
          | lst e n rs => exact ⟨_, .of e, rs⟩
/-! ### for -/
theorem forL_cons {turn : D → S → Out Fl} {x : D} {r : List D} {s : S} : forL turn (x :: r) s = (turn x s).bind fun f s => match f with
    | .nx => forL turn r s
    | .cont => forL turn r s
    | .brk => .ok .nx s
    | .ret x => .ok (.ret x) s := rfl
theorem ps_for' {fx : List Nat} (hp : PassesOwn (model X.prog X.w) X.A X.env X.xe) (hc : X.calm = true) {tg iter : Expr} {body : List Stmt} {t : T} {it : Pv.It} {b : List Stm} {pos : Pos} (hs : ∀ x, foldedSetIterable iter X.env x = pure x)
    (hfx : ∀ j ∈ tSlots t, j ∉ fx) (hi : PI X tg iter (tI W (evI g it))) (hg : PG X tg (tG W g t)) (hb : PSs X body (tS W fx (exs g b))) : PS X (.For tg iter body [] pos) (tS W fx (ex g (.forr t it b))) := by
  refine monoS (ps_for hp hc hi hg hb hs) fun E σ0 H0 hq => ?_
  obtain ⟨F, θ0, s0, R0, q⟩ := hq
  refine ⟨F, θ0, s0, R0, (OkP.bind (show OkP (PF W F (M0 θ0 s0.ρ σ0) θ0 H0 fx σ0 E) ((evI g it s0).bind _) from q)).imp fun items s1 q1 J H1 θ1 R1 k1 iw => ?_⟩
  let turn : D → S → Out Fl := fun x s => (asT g t x s).bind fun _ s => exs g b s
  have q1 : OkP (PF W F (M0 θ0 s0.ρ σ0) θ0 H0 fx σ0 E) (forL turn items s1) := q1
  refine for_it (n := items.length) (G := fun H => ∃ m θ, Keep (Mt F θ1 s1.ρ σ0) θ1 H1 m θ H ∧ ∀ a, m a → ∃ o, H a = some o ∧ MutT (some o)) (Y := J.yld) ⟨fun i H hlt ⟨m, θ, k, _⟩ => iw.go m θ H k i hlt, fun H ⟨m, θ, k, _⟩ => iw.stop m θ H k, fun i H x H' _ _ y => y⟩
    (fun i σ H => ∃ θ s, Rep W F θ s σ H ∧ Keep (M0 θ0 s0.ρ σ0) θ0 H0 (M0 θ s.ρ σ) θ H ∧ Keep (Mt F θ1 s1.ρ σ0) θ1 H1 (Mt F θ s.ρ σ) θ H ∧ (∀ j ∈ fx, σ[j]? = σ0[j]?) ∧ OkP (PF W F (M0 θ0 s0.ρ σ0) θ0 H0 fx σ0 E) (forL turn (items.drop i) s)) ?_ ?_ ?_ ?_
  · exact ⟨θ1, s1, R1, k1, .refl, fun _ _ => rfl, q1⟩
  · rintro i σ H _ ⟨θ, s, R, _, k, _⟩
    exact ⟨_, θ, k, fun a z => R.mt_there z⟩
  · rintro i v σ H H' hlt ⟨θ, s, R, k, kk, ee, q⟩ y
    have hx : items[i]? = some items[i] := List.getElem?_eq_getElem hlt
    rw [List.drop_eq_getElem_cons hlt] at q
    have q : OkP (PF W F (M0 θ0 s0.ρ σ0) θ0 H0 fx σ0 E) ((turn items[i] s).bind _) := q
    have rx := (iw.yld _ θ H kk (fun a z => R.mt_there z) i _ v H' hx y).rx R (Keep.refl (m := M0 θ s.ρ σ) (θ := θ) (H := H))
    obtain ⟨R', k', r'⟩ := rx
    have q2 := OkP.bind (OkP.bind q)
    refine ⟨F, θ, s, _, R', r', q2.imp fun _ s2 q3 σ2 H2 θ2 R2 k2 out => ?_⟩
    refine ⟨F, θ2, s2, R2, q3.imp fun fl s3 q4 => ?_⟩
    have e2 : ∀ j ∈ fx, σ2[j]? = σ0[j]? := fun j hj => (out.2 j fun z => hfx j z hj).trans (ee j hj)
    have kk2 : Keep (Mt F θ s.ρ σ) θ H (Mt F θ2 s2.ρ σ2) θ2 H2 := (k'.trans k2).mt2
    cases fl with
    | nx => exact fun σ3 H3 θ3 R3 k3 e3 => ⟨θ3, s3, R3, (k.trans (k'.trans k2)).trans k3, (kk.trans kk2).trans k3.mt2, fun j hj => (e3 j hj).trans (e2 j hj), q4⟩
    | cont => exact fun σ3 H3 θ3 R3 k3 e3 => ⟨θ3, s3, R3, (k.trans (k'.trans k2)).trans k3, (kk.trans kk2).trans k3.mt2, fun j hj => (e3 j hj).trans (e2 j hj), q4⟩
    | brk => exact fun σ3 H3 θ3 R3 k3 e3 => q4 σ3 H3 θ3 R3 ((k.trans (k'.trans k2)).trans k3) fun j hj => (e3 j hj).trans (e2 j hj)
    | ret x => exact fun v σ3 H3 θ3 rx => q4 v σ3 H3 θ3 (rx.from (k.trans (k'.trans k2)))
  · rintro σ H ⟨θ, s, R, k, _, ee, q⟩
    rw [List.drop_length] at q
    exact q σ H θ R k ee
end
end Pv
end

section
set_option Elab.async false
set_option linter.all false
set_option maxRecDepth 100000
set_option maxHeartbeats 4000000
/-! EvQ: comprehensions. -/
namespace Pv
open PySem PySem.Spec PyProof.Rows L2
theorem wipeN_length : ∀ (own : List Nat) (ρ : List Sl), (wipeN own ρ).length = ρ.length
  | [], _ => rfl
  | i :: r, ρ => by show (setN (wipeN r ρ) i .no).length = _; rw [setN_length, wipeN_length r]
theorem getN_wipe : ∀ (own : List Nat) (ρ : List Sl) (j : Nat), getN (wipeN own ρ) j = if j ∈ own then .no else getN ρ j
  | [], ρ, j => by simp [wipeN]
  | i :: r, ρ, j => by
    show getN (setN (wipeN r ρ) i .no) j = _
    rw [getN_setN, getN_wipe r, wipeN_length]
    by_cases q : i = j
    · subst q
      by_cases h : i < ρ.length
      · simp [h]
      · simp only [h, and_false, if_false, List.mem_cons, true_or, if_true]
        split
        · rfl
        · rw [getN_get, List.getElem?_eq_none (Nat.le_of_not_lt h)]; rfl
    · have q' : ¬ j = i := fun z => q z.symm
      simp [q, q']
theorem restore_length : ∀ (ρ0 : List Sl) (own : List Nat) (ρ : List Sl), (restore ρ0 own ρ).length = ρ.length
  | _, [], _ => rfl
  | ρ0, i :: r, ρ => by show (setN (restore ρ0 r ρ) i _).length = _; rw [setN_length, restore_length ρ0 r]
theorem getN_restore : ∀ (ρ0 : List Sl) (own : List Nat) (ρ : List Sl) (j : Nat), ρ0.length = ρ.length → getN (restore ρ0 own ρ) j = if j ∈ own then getN ρ0 j else getN ρ j
  | _, [], ρ, j, _ => by simp [restore]
  | ρ0, i :: r, ρ, j, hl => by
    show getN (setN (restore ρ0 r ρ) i (getN ρ0 i)) j = _
    rw [getN_setN, getN_restore ρ0 r ρ j hl, restore_length]
    by_cases q : i = j
    · subst q
      by_cases h : i < ρ.length
      · simp [h]
      · simp only [h, and_false, if_false, List.mem_cons, true_or, if_true]
        split
        · rfl
        · rw [getN_get, getN_get, List.getElem?_eq_none (Nat.le_of_not_lt h), List.getElem?_eq_none (by omega)]
    · have q' : ¬ j = i := fun z => q z.symm
      simp [q, q']
theorem wipe_get : ∀ (σ : L2.St) (own : List Nat) (j : Nat), (wipe σ own)[j]? = if j ∈ own ∧ j < σ.length then some none else σ[j]?
  | σ, [], j => by simp [wipe]
  | σ, i :: r, j => by
    show ((wipe σ r).set i none)[j]? = _
    rw [List.getElem?_set, wipe_get σ r j, wipe_length]
    by_cases q : i = j
    · subst q
      by_cases h : i < σ.length
      · simp [h]
      · simp [h, List.getElem?_eq_none (Nat.le_of_not_lt h)]
    · have q' : ¬ j = i := fun z => q z.symm
      simp [q, q']
theorem wipe_out {σ σ' : L2.St} {own : List Nat} (hl : σ'.length = σ.length) (h : ∀ j, j ∉ own → σ'[j]? = (wipe σ own)[j]?) : wipe σ' own = wipe σ own := by
  refine List.ext_getElem? fun j => ?_
  rw [wipe_get, wipe_get, hl]
  by_cases q : j ∈ own
  · by_cases z : j < σ.length
    · simp [q, z]
    · simp [z, List.getElem?_eq_none (Nat.le_of_not_lt z), List.getElem?_eq_none (Nat.le_trans (Nat.le_of_eq hl) (Nat.le_of_not_lt z))]
  · rw [if_neg (by simp [q]), if_neg (by simp [q]), h j q, wipe_get, if_neg (by simp [q])]
section
variable {W : Wr} {F F' : Fb} {θ θ' : List Addr} {s s' : S} {σ : L2.St} {H H' : Hp} {m0 : Fb} {θ0 : List Addr} {H0 : Hp} {own : List Nat}
theorem own_wipe {ρ : List Sl} {a : Addr} (h : Own (wipeN own ρ) (wipe σ own) a) : ∃ i o, i ∉ own ∧ getN ρ i = .own o ∧ σ[i]? = some (some (.ref a)) := by
  obtain ⟨i, o, e, e'⟩ := h
  rw [getN_wipe] at e
  split at e
  · cases e
  · rename_i q
    rw [wipe_get, if_neg (by simp [q])] at e'
    exact ⟨i, o, q, e, e'⟩
/-- into a block: its own names have no value -/
theorem Rep.wipe (R : Rep W F θ s σ H) : Rep W F θ ⟨wipeN own s.ρ, s.m⟩ (wipe σ own) H ∧ ∀ b, M0 θ (wipeN own s.ρ) (wipe σ own) b → M0 θ s.ρ σ b := by
  have sub0 : ∀ b, M0 θ (wipeN own s.ρ) (L2.wipe σ own) b → M0 θ s.ρ σ b := fun b z => z.imp id fun z => by
    obtain ⟨i, o, _, e, e'⟩ := own_wipe z
    exact ⟨i, o, e, e'⟩
  have sub : ∀ b, Mt F θ (wipeN own s.ρ) (L2.wipe σ own) b → Mt F θ s.ρ σ b := fun b z => z.imp id (sub0 b)
  refine ⟨⟨by show (wipeN own s.ρ).length = _; rw [wipeN_length, wipe_length]; exact R.len, fun i o e => ?_, R.th, fun l a o e e' => (R.st l a o e e').keep (keepLess sub) fun _ e => e, R.nd, fun i j o o' a e1 e2 e3 e4 => ?_, fun a z => ?_, fun a f z => R.FT a f (sub0 a z), R.Fd⟩, sub0⟩
  · show SltR W _ θ H (getN (wipeN own s.ρ) i) o
    rw [getN_wipe]
    split
    · trivial
    · rename_i q
      rw [wipe_get, if_neg (by simp [q])] at e
      exact (R.sl i o e).less sub
  · have e1 : getN (wipeN own s.ρ) i = .own o := e1
    have e2 : getN (wipeN own s.ρ) j = .own o' := e2
    rw [getN_wipe] at e1 e2
    split at e1
    · cases e1
    · split at e2
      · cases e2
      · rename_i q q'
        rw [wipe_get, if_neg (by simp [q])] at e3
        rw [wipe_get, if_neg (by simp [q'])] at e4
        exact R.own1 i j o o' a e1 e2 e3 e4
  · obtain ⟨i, o, _, e, e'⟩ := own_wipe z
    exact R.ownT a ⟨i, o, e, e'⟩
/-- out of a block -/
theorem Rep.unwipe {m1 : List Ob} {ρ0 ρ1 : List Sl} {m00 : List Ob} (R0 : Rep W F θ ⟨ρ0, m00⟩ σ H) (hp : ∀ i ∈ own, plainSl (getN ρ0 i) = true) (R1 : Rep W F' θ' ⟨wipeN own ρ1, m1⟩ (L2.wipe σ own) H') (hl : ρ1.length = ρ0.length)
    (k : Keep (Mt F θ ρ0 σ) θ H (Mt F' θ' (wipeN own ρ1) (L2.wipe σ own)) θ' H') : Rep W F' θ' ⟨restore ρ0 own ρ1, m1⟩ σ H' ∧ ∀ b, M0 θ' (restore ρ0 own ρ1) σ b ↔ M0 θ' (wipeN own ρ1) (L2.wipe σ own) b := by
  have gr : ∀ i, getN (restore ρ0 own ρ1) i = if i ∈ own then getN ρ0 i else getN ρ1 i := fun i => getN_restore ρ0 own ρ1 i hl.symm
  have eqO : ∀ i o b, getN (restore ρ0 own ρ1) i = .own o → σ[i]? = some (some (.ref b)) → getN (wipeN own ρ1) i = .own o ∧ (L2.wipe σ own)[i]? = some (some (.ref b)) := fun i o b e e' => by
    rw [gr] at e
    split at e
    · rename_i q
      have := hp i q
      rw [e] at this; cases this
    · rename_i q
      exact ⟨by rw [getN_wipe, if_neg q]; exact e, by rw [wipe_get, if_neg (by simp [q])]; exact e'⟩
  have eqM : ∀ b, M0 θ' (restore ρ0 own ρ1) σ b ↔ M0 θ' (wipeN own ρ1) (L2.wipe σ own) b := fun b => by
    constructor
    · rintro (z | ⟨i, o, e, e'⟩)
      · exact .inl z
      · exact .inr ⟨i, o, eqO i o b e e'⟩
    · rintro (z | z)
      · exact .inl z
      · obtain ⟨i, o, q, e, e'⟩ := own_wipe z
        exact .inr ⟨i, o, by rw [gr, if_neg q]; exact e, e'⟩
  have sub : ∀ b, Mt F' θ' (restore ρ0 own ρ1) σ b → Mt F' θ' (wipeN own ρ1) (L2.wipe σ own) b := fun b z => z.imp id (eqM b).mp
  refine ⟨⟨by show (restore ρ0 own ρ1).length = _; rw [restore_length, hl]; exact R0.len, fun i o e => ?_, R1.th, fun l a o e e' => (R1.st l a o e e').keep (keepLess sub) fun _ e => e, R1.nd, fun i j o o' a e1 e2 e3 e4 => ?_, fun a z => ?_, fun a f z => R1.FT a f ((eqM a).mp z), R1.Fd⟩, eqM⟩
  · show SltR W _ θ' H' (getN (restore ρ0 own ρ1) i) o
    rw [gr]
    split
    · rename_i q
      have h0 := R0.sl i o e
      have hp' := hp i q
      have h0 : SltR W (Mt F θ ρ0 σ) θ H (getN ρ0 i) o := h0
      cases g0 : getN ρ0 i with
      | no => trivial
      | clo _ _ => rw [g0] at hp'; cases hp'
      | own _ => rw [g0] at hp'; cases hp'
      | val d =>
        rw [g0] at h0
        cases o with
        | none => exact h0
        | some v => exact RepV.keep (keepLess sub) (RepV.keep k h0)
    · rename_i q
      have := R1.sl i o (by rw [wipe_get, if_neg (by simp [q])]; exact e)
      have this : SltR W _ θ' H' (getN (wipeN own ρ1) i) o := this
      rw [getN_wipe, if_neg q] at this
      exact this.less sub
  · obtain ⟨h1, h3⟩ := eqO i o a e1 e3
    obtain ⟨h2, h4⟩ := eqO j o' a e2 e4
    exact R1.own1 i j o o' a h1 h2 h3 h4
  · obtain ⟨i, o, e, e'⟩ := z
    exact R1.ownT a ⟨i, o, eqO i o a e e'⟩
/-- a forbidden object is changed -/
theorem Rep.chgF (R : Rep W F θ s σ H) {b : Addr} {u : HO} (hb : F b) (mu : MutT (some u)) : Rep W F θ s σ (upd H b u) ∧ Keep (Mt F θ s.ρ σ) θ H (Mt F θ s.ρ σ) θ (upd H b u) := by
  have k : Keep (Mt F θ s.ρ σ) θ H (Mt F θ s.ρ σ) θ (upd H b u) := .chg (.inl hb) fun a z => z
  have kn : ∀ {a u'}, M0 θ s.ρ σ a → H a = some u' → upd H b u a = some u' := fun {a u'} n q => by rw [upd_ne (fun z => R.FT b hb (by subst z; exact n))]; exact q
  refine ⟨⟨R.len, fun i o e => (R.sl i o e).sub k fun ob a u' e1 e2 e3 => kn (.inr ⟨i, ob, e1, by rw [e, e2]⟩) e3, R.th, fun l a o e e' => (R.st l a o e e').keep k fun u' q => kn (.inl (List.mem_of_getElem? e)) q, R.nd, R.own1, R.ownT, R.FT, fun a f => ?_⟩, k⟩
  by_cases z : a = b
  · subst z; exact ⟨u, upd_same, mu⟩
  · obtain ⟨w, e, m⟩ := R.Fd a f
    exact ⟨w, by rw [upd_ne z]; exact e, m⟩
end
/-- several tests -/
def tTs (W : Wr) (g : G) (ifs : List E) : TT := fun σ H Q => ∃ F θ s, Rep W F θ s σ H ∧ OkP (fun b s' => ∀ H' θ', Rep W F θ' s' σ H' → Keep (M0 θ s.ρ σ) θ H (M0 θ' s'.ρ σ) θ' H' → Q b H') (evTs g ifs s)
section
variable {X : Cx} {W : Wr} {g : G}
theorem pts_nil' : PTs X [] (tTs W g []) := ⟨fun pins s σ H Q I ⟨F, θ, s', R, q⟩ => pts_nil.run pins s σ H Q I (q H θ R .refl)⟩
theorem pts_one' {c : Expr} {c' : E} (h : PT X c (tT W g c')) : PTs X [c] (tTs W g [c']) := by
  refine ⟨fun pins s σ H Q I ⟨F, θ, s', R, q⟩ => (pts_one h).run pins s σ H Q I ⟨F, θ, s', R, (OkP.bind (show OkP _ ((tst c' (ev g c') s').bind _) from q)).imp fun b s1 q1 H1 θ1 R1 k1 => ?_⟩⟩
  cases b with
  | true => exact q1 H1 θ1 R1 k1
  | false => exact q1 H1 θ1 R1 k1
theorem monoE {e : Expr} {t t' : TE} (h : PE X e t) (i : ∀ σ H Q, t' σ H Q → t σ H Q) : PE X e t' := mono h i
/-- what a turn of a block does -/
def turnC (g : G) (own : List Nat) (t : T) (ifs : List E) (x : E) : D → S → Out (Option D) := fun y s' => (asT g t y ⟨wipeN own s'.ρ, s'.m⟩).bind fun _ s' => (evTs g ifs s').bind fun b s' => if b then (ev g x s').bind fun z s' => .ok (some z.frz) s' else .ok none s'
theorem compL_cons {turn : D → S → Out (Option D)} {x : D} {r acc : List D} {s : S} : compL turn (x :: r) acc s = (turn x s).bind fun y s => match y with
    | some y => if acc.length < LINE then compL turn r (acc ++ [y]) s else .err
    | none => compL turn r acc s := rfl
theorem lc_read {t : T} {it : Pv.It} {ifs : List E} {x : E} {own : List Nat} (ho : ∀ j ∈ tSlots t, j ∈ own) {σ0 : L2.St} {H0 : Hp} {Q : VK} (hq : tE W (ev g (.comp own t it ifs x)) σ0 H0 Q) :
    tLc (tI W (evI g it)) (tG W g t) (tTs W g ifs) (tE W (ev g x)) own σ0 H0 Q := by
  obtain ⟨F, θ0, s0, R0, q⟩ := hq
  refine ⟨F, θ0, s0, R0, (OkP.bind (show OkP (PX W F (M0 θ0 s0.ρ σ0) θ0 H0 σ0 Q) ((evI g it s0).bind _) from q)).imp fun items s1 q1 J H1 θ1 R1 k1 iw D0 hD => ?_⟩
  split at q1
  · rename_i hp
    have hp : ∀ i ∈ own, plainSl (getN s1.ρ i) = true := List.all_eq_true.mp hp
    have q1 := OkP.bind (show OkP (PX W F (M0 θ0 s0.ρ σ0) θ0 H0 σ0 Q) ((compL (turnC g own t ifs x) items [] ⟨wipeN own s1.ρ, s1.m⟩).bind _) from q1)
    obtain ⟨Rw, subw⟩ := R1.wipe (own := own)
    -- the new list laid, forbidden
    have RD : Rep W (F.and D0) θ1 ⟨wipeN own s1.ρ, s1.m⟩ (wipe σ0 own) (upd H1 D0 (.lst [])) := Rw.new hD trivial
    have RD2 := (RD.wipe (own := own)).1
    have ww : wipe (wipe σ0 own) own = wipe σ0 own := wipe_out (by rw [wipe_length]) fun j hj => rfl
    rw [ww] at RD2
    have kD : Keep (Mt F θ1 s1.ρ σ0) θ1 H1 (Mt (F.and D0) θ1 (wipeN own (wipeN own s1.ρ)) (wipe σ0 own)) θ1 (upd H1 D0 (.lst [])) := .new hD fun b z => by
      rcases z with (z | z) | z | z
      · exact .inl (.inl z)
      · exact .inr z
      · exact .inl (.inr (.inl z))
      · refine .inl (.inr (subw b (.inr ?_)))
        obtain ⟨i, o, e, e'⟩ := z
        rw [getN_wipe] at e
        split at e
        · cases e
        · exact ⟨i, o, e, e'⟩
    refine lc_it (n := items.length) (G := fun H => ∃ m θ, Keep (Mt F θ1 s1.ρ σ0) θ1 H1 m θ H ∧ ∀ a, m a → ∃ o, H a = some o ∧ MutT (some o)) (Y := J.yld) ⟨fun i H hlt ⟨m, θ, k, _⟩ => iw.go m θ H k i hlt, fun H ⟨m, θ, k, _⟩ => iw.stop m θ H k, fun i H x H' _ _ y => y⟩
      (fun i H => ∃ θ s acc vs, s.ρ.length = s1.ρ.length ∧ Rep W (F.and D0) θ ⟨wipeN own s.ρ, s.m⟩ (wipe σ0 own) H ∧ Keep (Mt F θ1 s1.ρ σ0) θ1 H1 (Mt (F.and D0) θ (wipeN own s.ρ) (wipe σ0 own)) θ H ∧
        Keep (M0 θ1 s1.ρ σ0) θ1 H1 (fun b => M0 θ (wipeN own s.ρ) (wipe σ0 own) b ∨ b = D0) θ H ∧ H D0 = some (.lst vs) ∧ RepVs W (Mt (F.and D0) θ (wipeN own s.ρ) (wipe σ0 own)) θ H acc vs ∧
        OkP (fun acc s' => OkP (PX W F (M0 θ0 s0.ρ σ0) θ0 H0 σ0 Q) (.ok (.f (.lst acc)) ⟨restore s1.ρ own s'.ρ, s'.m⟩)) (compL (turnC g own t ifs x) (items.drop i) acc s)) ?_ ?_ ?_ ?_
    · refine ⟨θ1, ⟨wipeN own s1.ρ, s1.m⟩, [], [], wipeN_length .., RD2, kD, .new hD fun b z => ?_, upd_same, .nil, q1⟩
      rcases z with (z | ⟨i, o, e, e'⟩) | z
      · exact .inl (.inl z)
      · refine .inl (subw b (.inr ?_))
        rw [getN_wipe] at e
        split at e
        · cases e
        · exact ⟨i, o, e, e'⟩
      · exact .inr z
    · rintro i H _ ⟨θ, s, acc, vs, _, R, k, _⟩
      exact ⟨_, θ, k, fun a z => R.mt_there z⟩
    · rintro i v H H' hlt ⟨θ, s, acc, vs, hln, R, k, kM, hDv, rs, q⟩ y
      have hx : items[i]? = some items[i] := List.getElem?_eq_getElem hlt
      rw [List.drop_eq_getElem_cons hlt, compL_cons] at q
      have rx := (iw.yld _ θ H k (fun a z => R.mt_there z) i _ v H' hx y).rx R (Keep.refl (m := M0 θ (wipeN own s.ρ) (wipe σ0 own)) (θ := θ) (H := H))
      obtain ⟨R', k', r'⟩ := rx
      have q2 := OkP.bind (show OkP _ ((asT g t items[i] ⟨wipeN own s.ρ, s.m⟩).bind _) from OkP.bind q)
      refine ⟨F.and D0, θ, _, _, R', r', q2.imp fun _ s2 q3 σ2 H2 θ2 R2 k2 out => ?_⟩
      have hw : wipe σ2 own = wipe σ0 own := wipe_out (by rw [out.1, wipe_length]) fun j hj => out.2 j fun z => hj (ho j z)
      refine ⟨hw, F.and D0, θ2, s2, R2, (OkP.bind q3).imp fun b s3 q4 H3 θ3 R3 k3 => ?_⟩
      have l3 : s3.ρ.length = s1.ρ.length := by
        have h1 := R3.len
        have h2 := R1.len
        have h3 : σ2.length = σ0.length := by rw [out.1, wipe_length]
        rw [h1, h3, h2]
      have kk3 := (k'.trans k2).trans k3
      obtain ⟨Rw3, sub3⟩ := R3.wipe (own := own)
      rw [hw] at Rw3 sub3
      have hDk : ∀ {H4 : Hp} {m4 : Fb} {θ4}, Keep (M0 θ (wipeN own s.ρ) (wipe σ0 own)) θ H m4 θ4 H4 → H4 D0 = some (.lst vs) := fun kk => kk.kp D0 _ hDv (R.FT D0 (.inr rfl))
      cases b with
      | false =>
        rw [if_neg Bool.false_ne_true] at q4
        show (if false = true then _ else _)
        rw [if_neg Bool.false_ne_true]
        have q5 : OkP _ (compL (turnC g own t ifs x) (items.drop (i + 1)) acc s3) := q4
        refine ⟨θ3, s3, acc, vs, l3, Rw3, k.trans (kk3.less sub3).mt2, kM.trans ?_, hDk kk3, rs.keep (kk3.less sub3).mt2, q5⟩
        exact ⟨fun a o e n => kk3.kp a o e fun z => n (.inl z), fun a o e z => z.elim (fun z => .inl (kk3.mm a o e (sub3 a z))) .inr, kk3.th⟩
      | true =>
        rw [if_pos rfl] at q4
        show (if true = true then _ else _)
        rw [if_pos rfl]
        have q4 := OkP.bind q4
        refine ⟨F.and D0, θ3, s3, R3, q4.imp fun z s4 q5 u H4 θ4 rx4 => ?_⟩
        have q5 : OkP _ (if acc.length < LINE then compL (turnC g own t ifs x) (items.drop (i + 1)) (acc ++ [z.frz]) s4 else .err) := q5
        split at q5
        · rename_i hlen
          have kk4 := kk3.trans rx4.keep
          obtain ⟨Rw4, sub4⟩ := rx4.rep.wipe (own := own)
          rw [hw] at Rw4 sub4
          have e4 := hDk kk4
          obtain ⟨R5, k5⟩ := Rw4.chgF (b := D0) (u := .lst (vs ++ [u])) (.inr rfl) trivial
          have kw4 : Keep (M0 θ (wipeN own s.ρ) (wipe σ0 own)) θ H (M0 θ4 (wipeN own s4.ρ) (wipe σ0 own)) θ4 H4 := kk4.less sub4
          have rz : RepV W (Mt (F.and D0) θ4 (wipeN own s4.ρ) (wipe σ0 own)) θ4 H4 z.frz u := RepV.keep (keepLess fun b z => z.imp id (sub4 b)) rx4.val
          refine ⟨vs, e4, by rw [← rs.length, ← LINE_eq]; exact hlen, θ4, s4, acc ++ [z.frz], vs ++ [u], ?_, R5, (k.trans kw4.mt2).trans k5, kM.trans ?_, upd_same, ((rs.keep kw4.mt2).append (.cons rz .nil)).keep k5, q5⟩
          · have h1 := rx4.rep.len
            have h2 := R1.len
            have h3 : σ2.length = σ0.length := by rw [out.1, wipe_length]
            rw [h1, h3, h2]
          · refine ⟨fun a o e n => ?_, fun a o e z => ?_, kw4.th⟩
            · rw [upd_ne fun z => n (.inr z)]
              exact kw4.kp a o e fun z => n (.inl z)
            · exact z.elim (fun z => .inl (kw4.mm a o e z)) .inr
        · exact q5.elim
    · rintro H ⟨θ, s, acc, vs, hln, R, k, kM, hDv, rs, q⟩
      rw [List.drop_length] at q
      have q : PX W F (M0 θ0 s0.ρ σ0) θ0 H0 σ0 Q (.f (.lst acc)) ⟨restore s1.ρ own s.ρ, s.m⟩ := q
      obtain ⟨R5, eqM⟩ := Rep.unwipe R1 hp R hln k
      refine q _ H θ ⟨D0, rfl, fun z => R1.new_free hD (.inl z), R5, k1.trans ⟨fun a o e n => kM.kp a o e n, fun a o e z => kM.mm a o e (z.imp (eqM a).mp id), kM.th⟩, vs, hDv, rs.keep (keepLess fun b z => z.imp id (eqM b).mp)⟩
  · exact q1.elim
theorem pe_lc' (hc : X.calm = true) (hN : X.N.Nodup) {elt tg iter : Expr} {ifs : List Expr} {scope : Scope} {own : List (Str × Nat)} {pos : Pos} {t : T} {it : Pv.It} {ifs' : List E} {x : E} (ho : ∀ j ∈ tSlots t, j ∈ own.map (·.2)) (hi : PI X tg iter (tI W (evI g it))) (ok : BlkOk X.N X.env.scope scope own)
    (hg : ∀ (s : Shared) (H : Hp) (C : Addr) (cl : List (Str × Addr)) (fp : List Addr), PG (X.blk s H scope (compEnvC scope cl C X.env) fp) tg (tG W g t)) (ht : ∀ (s : Shared) (H : Hp) (C : Addr) (cl : List (Str × Addr)) (fp : List Addr), PTs (X.blk s H scope (compEnvC scope cl C X.env) fp) ifs (tTs W g ifs'))
    (he : ∀ (s : Shared) (H : Hp) (C : Addr) (cl : List (Str × Addr)) (fp : List Addr), PE (X.blk s H scope (compEnvC scope cl C X.env) fp) elt (tE W (ev g x))) (hs : ∀ x, foldedSetIterable iter X.env x = pure x) :
    PE X (.ListComp elt [⟨tg, iter, ifs, 0⟩] scope pos) (tE W (ev g (.comp (own.map (·.2)) t it ifs' x))) := mono (pe_lc hc hN hi ok hg ht he hs) fun σ H Q hq => lc_read ho hq
end
end Pv
end

section
set_option Elab.async false
set_option linter.all false
set_option maxRecDepth 100000
set_option maxHeartbeats 4000000
/-! EvR: dict comprehensions. -/
namespace Pv
open PySem PySem.Spec PyProof.Rows L2
/-- a dict comprehension over a walk -/
theorem dc_it {J : L2.It} {n : Nat} {G : Hp → Prop} {Y : Nat → Hp → V → Hp → Prop} (w : Walk J n G Y) {g : TG} {tt : TT} {tk tv : TE} {vs : List Nat} {σ : L2.St} {H1 : Hp} {D : Addr} {Qd : Hp → Prop} (Pv : Nat → Hp → Prop) (h0 : Pv 0 (upd H1 D (.dK []))) (hG : ∀ i H, i ≤ n → Pv i H → G H)
    (hs : ∀ i x H H', i < n → Pv i H → Y i H x H' → g x (wipe σ vs) H' fun σ2 H2 => wipe σ2 vs = wipe σ vs ∧ tt σ2 H2 fun b H3 =>
      if b = true then tk σ2 H3 fun y H4 => tv σ2 H4 fun z H5 => ∃ kvs k, y = kV k ∧ H5 D = some (.dK kvs) ∧ kvs.length < sizeLine ∧ Pv (i + 1) (upd H5 D (.dK (putK kvs k z))) else Pv (i + 1) H3) (hd : ∀ H, Pv n H → Qd H) :
    ∃ W : Nat → Nat → Hp → Prop, (∃ m, W 0 m (upd H1 D (.dK []))) ∧ ∀ i m H, W i m H →
      (J.stop i H ∧ Qd H) ∨ (J.go i H ∧ ∃ Nx : Hp → Prop, (∀ H', Nx H' → ∃ m', m' < m ∧ W (i + 1) m' H') ∧ ∀ x H', J.yld i H x H' → g x (wipe σ vs) H' fun σ2 H2 => wipe σ2 vs = wipe σ vs ∧ tt σ2 H2 fun b H3 =>
        if b = true then tk σ2 H3 fun y H4 => tv σ2 H4 fun z H5 => ∃ kvs k, y = kV k ∧ H5 D = some (.dK kvs) ∧ kvs.length < sizeLine ∧ Nx (upd H5 D (.dK (putK kvs k z))) else Nx H3) := by
  refine ⟨fun i m H => m = n - i ∧ i ≤ n ∧ Pv i H, ⟨n, by simp, Nat.zero_le _, h0⟩, ?_⟩
  rintro i m H ⟨rfl, hi, p⟩
  have q := hG i H hi p
  by_cases hlt : i < n
  · refine .inr ⟨w.goes i H hlt q, Pv (i + 1), fun H' p' => ⟨n - (i + 1), by omega, rfl, hlt, p'⟩, fun x H' y => hs i x H H' hlt p (w.yields i H x H' hlt q y)⟩
  · have e : i = n := by omega
    subst e
    exact .inl ⟨w.stops H q, hd H p⟩
section
variable {X : Cx} {W : Wr} {g : G}
def turnD (g : G) (own : List Nat) (t : T) (ifs : List E) (kx vx : E) : D → S → Out (Option (D × D)) := fun y s' => (asT g t y ⟨wipeN own s'.ρ, s'.m⟩).bind fun _ s' => (evTs g ifs s').bind fun b s' => if b then (ev g kx s').bind fun k s' => (ev g vx s').bind fun v s' => .ok (some (k.frz, v.frz)) s' else .ok none s'
theorem dcompL_cons {turn : D → S → Out (Option (D × D))} {x : D} {r : List D} {acc : List (D × D)} {s : S} : dcompL turn (x :: r) acc s = (turn x s).bind fun y s => match y with
    | some (k, v) => match putKV acc k v with
      | some acc => dcompL turn r acc s
      | none => .err
    | none => dcompL turn r acc s := rfl
theorem dc_read {t : T} {it : Pv.It} {ifs : List E} {kx vx : E} {own : List Nat} (ho : ∀ j ∈ tSlots t, j ∈ own) {σ0 : L2.St} {H0 : Hp} {Q : VK} (hq : tE W (ev g (.dcomp own t it ifs kx vx)) σ0 H0 Q) :
    tDc (tI W (evI g it)) (tG W g t) (tTs W g ifs) (tE W (ev g kx)) (tE W (ev g vx)) own σ0 H0 Q := by
  obtain ⟨F, θ0, s0, R0, q⟩ := hq
  refine ⟨F, θ0, s0, R0, (OkP.bind (show OkP (PX W F (M0 θ0 s0.ρ σ0) θ0 H0 σ0 Q) ((evI g it s0).bind _) from q)).imp fun items s1 q1 J H1 θ1 R1 k1 iw D0 hD => ?_⟩
  split at q1
  · rename_i hp
    have hp : ∀ i ∈ own, plainSl (getN s1.ρ i) = true := List.all_eq_true.mp hp
    have q1 := OkP.bind (show OkP (PX W F (M0 θ0 s0.ρ σ0) θ0 H0 σ0 Q) ((dcompL (turnD g own t ifs kx vx) items [] ⟨wipeN own s1.ρ, s1.m⟩).bind _) from q1)
    obtain ⟨Rw, subw⟩ := R1.wipe (own := own)
    -- the new list laid, forbidden
    have RD : Rep W (F.and D0) θ1 ⟨wipeN own s1.ρ, s1.m⟩ (wipe σ0 own) (upd H1 D0 (.dK [])) := Rw.new hD trivial
    have RD2 := (RD.wipe (own := own)).1
    have ww : wipe (wipe σ0 own) own = wipe σ0 own := wipe_out (by rw [wipe_length]) fun j hj => rfl
    rw [ww] at RD2
    have kD : Keep (Mt F θ1 s1.ρ σ0) θ1 H1 (Mt (F.and D0) θ1 (wipeN own (wipeN own s1.ρ)) (wipe σ0 own)) θ1 (upd H1 D0 (.dK [])) := .new hD fun b z => by
      rcases z with (z | z) | z | z
      · exact .inl (.inl z)
      · exact .inr z
      · exact .inl (.inr (.inl z))
      · refine .inl (.inr (subw b (.inr ?_)))
        obtain ⟨i, o, e, e'⟩ := z
        rw [getN_wipe] at e
        split at e
        · cases e
        · exact ⟨i, o, e, e'⟩
    refine dc_it (n := items.length) (G := fun H => ∃ m θ, Keep (Mt F θ1 s1.ρ σ0) θ1 H1 m θ H ∧ ∀ a, m a → ∃ o, H a = some o ∧ MutT (some o)) (Y := J.yld) ⟨fun i H hlt ⟨m, θ, k, _⟩ => iw.go m θ H k i hlt, fun H ⟨m, θ, k, _⟩ => iw.stop m θ H k, fun i H x H' _ _ y => y⟩
      (fun i H => ∃ θ s acc vs, s.ρ.length = s1.ρ.length ∧ Rep W (F.and D0) θ ⟨wipeN own s.ρ, s.m⟩ (wipe σ0 own) H ∧ Keep (Mt F θ1 s1.ρ σ0) θ1 H1 (Mt (F.and D0) θ (wipeN own s.ρ) (wipe σ0 own)) θ H ∧
        Keep (M0 θ1 s1.ρ σ0) θ1 H1 (fun b => M0 θ (wipeN own s.ρ) (wipe σ0 own) b ∨ b = D0) θ H ∧ H D0 = some (.dK vs) ∧ vs.map (fun p => keyD p.1) = acc.map (·.1) ∧ RepVs W (Mt (F.and D0) θ (wipeN own s.ρ) (wipe σ0 own)) θ H (acc.map (·.2)) (vs.map (·.2)) ∧
        OkP (fun acc s' => OkP (PX W F (M0 θ0 s0.ρ σ0) θ0 H0 σ0 Q) (.ok (.f (.dic acc)) ⟨restore s1.ρ own s'.ρ, s'.m⟩)) (dcompL (turnD g own t ifs kx vx) (items.drop i) acc s)) ?_ ?_ ?_ ?_
    · refine ⟨θ1, ⟨wipeN own s1.ρ, s1.m⟩, [], [], wipeN_length .., RD2, kD, .new hD fun b z => ?_, upd_same, rfl, .nil, q1⟩
      rcases z with (z | ⟨i, o, e, e'⟩) | z
      · exact .inl (.inl z)
      · refine .inl (subw b (.inr ?_))
        rw [getN_wipe] at e
        split at e
        · cases e
        · exact ⟨i, o, e, e'⟩
      · exact .inr z
    · rintro i H _ ⟨θ, s, acc, vs, _, R, k, _⟩
      exact ⟨_, θ, k, fun a z => R.mt_there z⟩
    · rintro i v H H' hlt ⟨θ, s, acc, vs, hln, R, k, kM, hDv, en, rs, q⟩ y
      have hx : items[i]? = some items[i] := List.getElem?_eq_getElem hlt
      rw [List.drop_eq_getElem_cons hlt, dcompL_cons] at q
      have rx := (iw.yld _ θ H k (fun a z => R.mt_there z) i _ v H' hx y).rx R (Keep.refl (m := M0 θ (wipeN own s.ρ) (wipe σ0 own)) (θ := θ) (H := H))
      obtain ⟨R', k', r'⟩ := rx
      have q2 := OkP.bind (show OkP _ ((asT g t items[i] ⟨wipeN own s.ρ, s.m⟩).bind _) from OkP.bind q)
      refine ⟨F.and D0, θ, _, _, R', r', q2.imp fun _ s2 q3 σ2 H2 θ2 R2 k2 out => ?_⟩
      have hw : wipe σ2 own = wipe σ0 own := wipe_out (by rw [out.1, wipe_length]) fun j hj => out.2 j fun z => hj (ho j z)
      refine ⟨hw, F.and D0, θ2, s2, R2, (OkP.bind q3).imp fun b s3 q4 H3 θ3 R3 k3 => ?_⟩
      have l3 : s3.ρ.length = s1.ρ.length := by
        have h1 := R3.len
        have h2 := R1.len
        have h3 : σ2.length = σ0.length := by rw [out.1, wipe_length]
        rw [h1, h3, h2]
      have kk3 := (k'.trans k2).trans k3
      obtain ⟨Rw3, sub3⟩ := R3.wipe (own := own)
      rw [hw] at Rw3 sub3
      have hDk : ∀ {H4 : Hp} {m4 : Fb} {θ4}, Keep (M0 θ (wipeN own s.ρ) (wipe σ0 own)) θ H m4 θ4 H4 → H4 D0 = some (.dK vs) := fun kk => kk.kp D0 _ hDv (R.FT D0 (.inr rfl))
      cases b with
      | false =>
        rw [if_neg Bool.false_ne_true] at q4
        show (if false = true then _ else _)
        rw [if_neg Bool.false_ne_true]
        have q5 : OkP _ (dcompL (turnD g own t ifs kx vx) (items.drop (i + 1)) acc s3) := q4
        refine ⟨θ3, s3, acc, vs, l3, Rw3, k.trans (kk3.less sub3).mt2, kM.trans ?_, hDk kk3, en, rs.keep (kk3.less sub3).mt2, q5⟩
        exact ⟨fun a o e n => kk3.kp a o e fun z => n (.inl z), fun a o e z => z.elim (fun z => .inl (kk3.mm a o e (sub3 a z))) .inr, kk3.th⟩
      | true =>
        rw [if_pos rfl] at q4
        show (if true = true then _ else _)
        rw [if_pos rfl]
        have q4 := OkP.bind q4
        refine ⟨F.and D0, θ3, s3, R3, q4.imp fun kz s4 q5 u H4 θ4 rx4 => ?_⟩
        have q5 := OkP.bind q5
        refine ⟨F.and D0, θ4, s4, rx4.rep, q5.imp fun z s5 q6 v5 H5 θ5 rx5 => ?_⟩
        have q6 : OkP _ (match putKV acc kz.frz z.frz with
          | some acc => dcompL (turnD g own t ifs kx vx) (items.drop (i + 1)) acc s5
          | none => .err) := q6
        cases ep : putKV acc kz.frz z.frz with
        | none => rw [ep] at q6; exact q6.elim
        | some acc' =>
          rw [ep] at q6
          have kk4 := (kk3.trans rx4.keep).trans rx5.keep
          obtain ⟨Rw4, sub4⟩ := rx5.rep.wipe (own := own)
          rw [hw] at Rw4 sub4
          have e4 := hDk kk4
          have kw4 : Keep (M0 θ (wipeN own s.ρ) (wipe σ0 own)) θ H (M0 θ5 (wipeN own s5.ρ) (wipe σ0 own)) θ5 H5 := kk4.less sub4
          have rz : RepV W (Mt (F.and D0) θ5 (wipeN own s5.ρ) (wipe σ0 own)) θ5 H5 z.frz v5 := RepV.keep (keepLess fun b z => z.imp id (sub4 b)) rx5.val
          have hk : isKey kz.frz = true := by
            unfold putKV at ep
            split at ep
            · rename_i hq; rw [Bool.and_eq_true] at hq; exact hq.1
            · cases ep
          obtain ⟨k0, ek, rfl⟩ := key_of hk rx4.val
          obtain ⟨hl, en', rs'⟩ := rep_put ek rz en (rs.keep kw4.mt2) ep
          obtain ⟨R5, k5⟩ := Rw4.chgF (b := D0) (u := .dK (putK vs k0 v5)) (.inr rfl) trivial
          refine ⟨vs, k0, rfl, e4, hl, θ5, s5, acc', putK vs k0 v5, ?_, R5, (k.trans kw4.mt2).trans k5, kM.trans ?_, upd_same, en', rs'.keep k5, q6⟩
          · have h1 := rx5.rep.len
            have h2 := R1.len
            have h3 : σ2.length = σ0.length := by rw [out.1, wipe_length]
            rw [h1, h3, h2]
          · refine ⟨fun a o e n => ?_, fun a o e z => ?_, kw4.th⟩
            · rw [upd_ne fun z => n (.inr z)]
              exact kw4.kp a o e fun z => n (.inl z)
            · exact z.elim (fun z => .inl (kw4.mm a o e z)) .inr
    · rintro H ⟨θ, s, acc, vs, hln, R, k, kM, hDv, en, rs, q⟩
      rw [List.drop_length] at q
      have q : PX W F (M0 θ0 s0.ρ σ0) θ0 H0 σ0 Q (.f (.dic acc)) ⟨restore s1.ρ own s.ρ, s.m⟩ := q
      obtain ⟨R5, eqM⟩ := Rep.unwipe R1 hp R hln k
      refine q _ H θ ⟨D0, rfl, fun z => R1.new_free hD (.inl z), R5, k1.trans ⟨fun a o e n => kM.kp a o e n, fun a o e z => kM.mm a o e (z.imp (eqM a).mp id), kM.th⟩, vs, hDv, en, rs.keep (keepLess fun b z => z.imp id (eqM b).mp)⟩
  · exact q1.elim
theorem pe_dc' (hc : X.calm = true) (hN : X.N.Nodup) {kx vx tg iter : Expr} {ifs : List Expr} {scope : Scope} {own : List (Str × Nat)} {pos : Pos} {t : T} {it : Pv.It} {ifs' : List E} {kx' vx' : E} (ho : ∀ j ∈ tSlots t, j ∈ own.map (·.2)) (hi : PI X tg iter (tI W (evI g it))) (ok : BlkOk X.N X.env.scope scope own)
    (hg : ∀ (s : Shared) (H : Hp) (C : Addr) (cl : List (Str × Addr)) (fp : List Addr), PG (X.blk s H scope (compEnvC scope cl C X.env) fp) tg (tG W g t)) (ht : ∀ (s : Shared) (H : Hp) (C : Addr) (cl : List (Str × Addr)) (fp : List Addr), PTs (X.blk s H scope (compEnvC scope cl C X.env) fp) ifs (tTs W g ifs'))
    (hk : ∀ (s : Shared) (H : Hp) (C : Addr) (cl : List (Str × Addr)) (fp : List Addr), PE (X.blk s H scope (compEnvC scope cl C X.env) fp) kx (tE W (ev g kx')))
    (he : ∀ (s : Shared) (H : Hp) (C : Addr) (cl : List (Str × Addr)) (fp : List Addr), PE (X.blk s H scope (compEnvC scope cl C X.env) fp) vx (tE W (ev g vx'))) (hs : ∀ x, foldedSetIterable iter X.env x = pure x) :
    PE X (.DictComp kx vx [⟨tg, iter, ifs, 0⟩] scope pos) (tE W (ev g (.dcomp (own.map (·.2)) t it ifs' kx' vx'))) := mono (pe_dc hc hN hi ok hg ht hk he hs) fun σ H Q hq => dc_read ho hq
end
end Pv
end

section
set_option Elab.async false
set_option linter.all false
set_option maxRecDepth 100000
set_option maxHeartbeats 4000000
/-! EvRg: a def's promise where no repr is under way; calls of such defs. -/
namespace Pv
open PySem PySem.Spec PyProof.Rows L2
/-- a def's promise, no guard stands around -/
structure FnG (P : Program) (w : World) (K : PySem.W.Frag) (mg : Str → Option Value) (base : Heap) (CX : CXT) (k : Nat) (f : Addr) (fd : FuncData) (ps : List Str) (sp : Sp) : Prop where
  len : ∀ vs H Q E, sp vs H Q E → vs.length = ps.length
  run : ∀ (A : Around) (outer : List Env) (s : Shared) (H : Hp) (args : Args) (us : List Value) (vs : List V) (Q : VK) (E : XK), A.guards = some [] → Room k A → Env0 P w K mg base A outer s H → BindsTo s fd args (ps.zip us) → Vals vs us → sp vs H Q E →
    codeAny (model P w) A (.call (.ref f) args) (CR CX outer P w H s Q E) s
/-- calls with names for the last parameters -/
def KwB (fd : FuncData) (ps : List Str) (kp : Option (List Str)) : Prop := ∀ qs, kp = some qs → qs = ps ∧ ∀ (s : Shared) (us ws ws' : List Value) (ks : List Str) (ix : List Nat), us.length + ks.length = ps.length → ws.length = ks.length → ks.Nodup → (∀ k ∈ ks, k ∈ ps.drop us.length) → permA ix ks = some (ps.drop us.length) → permA ix ws = some ws' → BindsTo s fd ⟨us, ks.zip ws⟩ (ps.zip (us ++ ws'))
structure HeldN (P : Program) (w : World) (K : PySem.W.Frag) (mg : Str → Option Value) (base : Heap) (k : Nat) (f : Addr) (sp : Sp) (kp : Option (List Str)) : Prop where
  ex : ∃ (fd : FuncData) (ps : List Str), FnG P w K mg base (fun _ _ _ _ _ _ => False) k f fd ps sp ∧ PySem.W.keepIn K (.ref f) = true ∧ Binds K fd ps [] ∧ KwB fd ps kp
theorem make_guards {A : Around} {C : Addr} {us : List Value} {kw : List (Str × Value)} (h : A.guards = some []) : (A.under (.builtin "type.__call__" ⟨.ref C :: us, kw⟩)).guards = some [] := by
  simp [Around.under, Code.guards, Code.isGuard, guardIds, pushGuards, h]
section
variable {X : Cx} {CX : CXT} {k : Nat} {f C : Addr} {fd : FuncData} {ps : List Str} {sp : Sp} {dvs : List V} {ds : List Value} {E : XK} {x m : Str} {p pos apos : Pos} {e o : Expr} {es : List Expr} {ta : TE} {t : TA}
theorem run_fnG {pins : List (Addr × Obj)} {σ : L2.St} {H : Hp} {s : Shared} {Q : VK} {us : List Value} {vs : List V} (F : FnG X.prog X.w X.K X.mg X.base CX k f fd ps sp) (hq : X.A.guards = some []) (hr : Room k X.A) (hb : Binds X.K fd ps ds) (hd : Vals dvs ds) (hx : Passes CX X E)
    (I : Inv X pins σ H s) (r : Vals vs us) (h : sp (vs ++ dvs) H Q E) : wpAny (model X.prog X.w) X.A (call (.ref f) us) (EP X pins σ Q) X.xe s := by
  have r2 : Vals (vs ++ dvs) (us ++ ds) := r.append hd
  have hl : (us ++ ds).length = ps.length := by rw [← r2.length]; exact F.len _ _ _ _ h
  refine wpAny_call (codeAny_mono (F.run X.A X.stack s H ⟨us, []⟩ (us ++ ds) (vs ++ dvs) Q E hq hr I.env0 (hb s us I.kIn hl) r2 h) fun r s' hq => ?_)
  cases r with
  | error e => exact hx pins σ H s e s' I hq
  | ok fl =>
    cases fl with
    | ret u => exact I.after hq
    | next => exact False.elim hq
    | brk => exact False.elim hq
    | cont => exact False.elim hq
theorem pe_callG (F : FnG X.prog X.w X.K X.mg X.base CX k f fd ps sp) (hq : X.A.guards = some []) (hr : Room k X.A) (hg : Gl X x) (hm : X.mg x = some (.ref f)) (hk : PySem.W.keepIn X.K (.ref f) = true) (hb : Binds X.K fd ps ds) (hd : Vals dvs ds) (hx : Passes CX X E)
    (ha : PA X (e :: es) t) (hdb : (x == ("__debug__" : Str)) = false := by decide) (he : starEach (e :: es) X.env = (false, eval e X.env) :: starEach es X.env := by rfl) (hpl : (backTo pos (starEach es X.env)).any (·.1) = false := by rfl) :
    PE X (.Call (.Name x p) (e :: es) [] pos) (tCall sp dvs E t) := by
  refine ⟨fun pins s σ H Q I h => ?_⟩
  refine wpAny_Call_Name_kw (ld_glob I hg hm ?_ hdb)
  refine PySem.W.callWith_K (h₀ := X.base) I.ok.mod.kin hk (thn (ha.run pos pins s σ H _ I h) fun us s1 ⟨vs, H1, I1, r, q⟩ => ⟨I1.kIn, ?_⟩) he hpl
  exact run_fnG F hq hr hb hd hx I1 r q
theorem pe_callG0 (F : FnG X.prog X.w X.K X.mg X.base CX k f fd ps sp) (hq : X.A.guards = some []) (hr : Room k X.A) (hg : Gl X x) (hm : X.mg x = some (.ref f)) (hk : PySem.W.keepIn X.K (.ref f) = true) (hb : Binds X.K fd ps ds) (hd : Vals dvs ds) (hx : Passes CX X E)
    (hdb : (x == ("__debug__" : Str)) = false := by decide) : PE X (.Call (.Name x p) [] [] pos) (tCall sp dvs E tNil) := by
  refine ⟨fun pins s σ H Q I h => ?_⟩
  refine wpAny_Call_Name_kw (ld_glob I hg hm ?_ hdb)
  exact PySem.W.callWith_K0 I.kIn hk (run_fnG (us := []) F hq hr hb hd hx I .nil h)
theorem pe_callGL {i : Nat} (F : FnG X.prog X.w X.K X.mg X.base CX k f fd ps sp) (hq : X.A.guards = some []) (hr : Room k X.A) (hN : X.N[i]? = some x) (hv : Vis X.env.scope x) (hk : PySem.W.keepIn X.K (.ref f) = true) (hb : Binds X.K fd ps ds) (hd : Vals dvs ds) (hx : Passes CX X E) (ha : PA X (e :: es) t)
    (hdb : (x == ("__debug__" : Str)) = false := by decide) (hcd : (x == ("__classdict__" : Str)) = false := by decide)
    (he : starEach (e :: es) X.env = (false, eval e X.env) :: starEach es X.env := by rfl) (hpl : (backTo pos (starEach es X.env)).any (·.1) = false := by rfl) : PE X (.Call (.Name x p) (e :: es) [] pos) (tCallL i f sp dvs E t) := by
  refine ⟨fun pins s σ H Q I h => ?_⟩
  obtain ⟨hs, ht⟩ := h
  refine wpAny_Call_Name_kw (thn ((pe_var (pos := p) hN hv hdb hcd).run pins s σ H (fun v H1 => v = .ref f ∧ H1 = H) I ⟨.ref f, hs, rfl, rfl⟩) fun u s1 ⟨v, H1, I1, r1, q1⟩ => ?_)
  obtain ⟨rfl, rfl⟩ := q1
  cases r1
  refine PySem.W.callWith_K (h₀ := X.base) I.ok.mod.kin hk (thn (ha.run pos pins s1 σ _ _ I1 ht) fun us s2 ⟨vs, H2, I2, r, q⟩ => ⟨I2.kIn, ?_⟩) he hpl
  exact run_fnG F hq hr hb hd hx I2 r q
theorem run_makeG {pins : List (Addr × Obj)} {σ : L2.St} {H : Hp} {s : Shared} {Q : VK} {us : List Value} {vs : List V} (M : Mk X.K C f) (F : FnG X.prog X.w X.K X.mg X.base CX k f fd ps sp) (hq : X.A.guards = some []) (hr : Room (k + 1) X.A) (hb : Binds X.K fd ps ds) (hd : Vals dvs ds)
    (hx : Passes CX X E) (I : Inv X pins σ H s) (r : Vals vs us)
    (h : ∀ x dx, H x = none → H dx = none → dx ≠ x → sp (.ref x :: (vs ++ dvs)) (upd (upd H dx (.own x)) x (.ins C dx [])) (fun v H2 => v = .non ∧ Q (.ref x) H2) E) :
    wpAny (model X.prog X.w) X.A (call (.ref C) us) (EP X pins σ Q) X.xe s := by
  have hq' := h (s.heap.objs.size + 1) s.heap.objs.size (I.hok.fresh (Nat.le_succ _)) (I.hok.fresh (Nat.le_refl _)) (Nat.ne_of_lt (Nat.lt_succ_self _))
  have I2 := Inv.made (C := C) I
  have r2 : Vals (V.ref (s.heap.objs.size + 1) :: (vs ++ dvs)) (Value.ref (s.heap.objs.size + 1) :: (us ++ ds)) := .cons rfl (r.append hd)
  have hl : (Value.ref (s.heap.objs.size + 1) :: us ++ ds).length = ps.length := by
    have e := r2.length
    rw [F.len _ _ _ _ hq'] at e
    exact e.symm
  refine wpAny_call (make_map (f := f) I.kIn M.makes M.init (beq_iff_eq.mp M.fn) (codeAny_mono (F.run _ X.stack _ _ ⟨Value.ref (s.heap.objs.size + 1) :: us, []⟩ (Value.ref (s.heap.objs.size + 1) :: (us ++ ds)) _ _ E (make_guards hq) (hr.make C us [])
    (I2.env0.make C us []) (hb _ (Value.ref (s.heap.objs.size + 1) :: us) I2.kIn hl) r2 hq') fun r s' hq' => ?_))
  cases r with
  | error e => exact hx pins σ _ _ e s' I2 hq'
  | ok fl =>
    cases fl with
    | ret u =>
      obtain ⟨v, H', I3, rv, ev, q3⟩ := I2.after hq'
      subst ev
      exact ⟨rv, ⟨V.ref (s.heap.objs.size + 1), H', I3, rfl, q3⟩⟩
    | next => exact False.elim hq'
    | brk => exact False.elim hq'
    | cont => exact False.elim hq'
theorem pe_makeG (M : Mk X.K C f) (F : FnG X.prog X.w X.K X.mg X.base CX k f fd ps sp) (hq : X.A.guards = some []) (hr : Room (k + 1) X.A) (hg : Gl X x) (hm : X.mg x = some (.ref C)) (hb : Binds X.K fd ps ds) (hd : Vals dvs ds) (hx : Passes CX X E)
    (ha : PA X (e :: es) t) (hdb : (x == ("__debug__" : Str)) = false := by decide) (he : starEach (e :: es) X.env = (false, eval e X.env) :: starEach es X.env := by rfl) (hpl : (backTo pos (starEach es X.env)).any (·.1) = false := by rfl) :
    PE X (.Call (.Name x p) (e :: es) [] pos) (tMake C sp dvs E t) := by
  refine ⟨fun pins s σ H Q I h => ?_⟩
  refine wpAny_Call_Name_kw (ld_glob I hg hm ?_ hdb)
  refine PySem.W.callWith_K (h₀ := X.base) I.ok.mod.kin M.kp (thn (ha.run pos pins s σ H _ I h) fun us s1 ⟨vs, H1, I1, r, q⟩ => ⟨I1.kIn, ?_⟩) he hpl
  exact run_makeG M F hq hr hb hd hx I1 r q
theorem pe_makeG0 (M : Mk X.K C f) (F : FnG X.prog X.w X.K X.mg X.base CX k f fd ps sp) (hq : X.A.guards = some []) (hr : Room (k + 1) X.A) (hg : Gl X x) (hm : X.mg x = some (.ref C)) (hb : Binds X.K fd ps ds) (hd : Vals dvs ds) (hx : Passes CX X E)
    (hdb : (x == ("__debug__" : Str)) = false := by decide) : PE X (.Call (.Name x p) [] [] pos) (tMake C sp dvs E tNil) := by
  refine ⟨fun pins s σ H Q I h => ?_⟩
  refine wpAny_Call_Name_kw (ld_glob I hg hm ?_ hdb)
  exact PySem.W.callWith_K0 I.kIn M.kp (run_makeG (us := []) M F hq hr hb hd hx I .nil h)
theorem getprop_okG {a dx q : Addr} {fs : List (Str × V)} {fl : Str} {pins : List (Addr × Obj)} {σ : L2.St} {H : Hp} {s : Shared} {Q : VK} {b : Bool} {E' : Value → Shared → Prop} (I : Inv X pins σ H s) (ea : H a = some (.ins C dx fs)) (c : Cls X.K C) (hp : PropOf X.K C fl q f)
    (F : FnG X.prog X.w X.K X.mg X.base CX k f fd ps sp) (hgd : X.A.guards = some []) (hr : Room (k + 1) X.A) (hb : Binds X.K fd ps ds) (hd : Vals dvs ds) (hx : Passes CX X.nox E) (h : sp (.ref a :: dvs) H Q E) :
    wpAny (model X.prog X.w) X.A (getAttr (.ref a) fl b) (EP X pins σ Q) E' s := by
  obtain ⟨mA, O, _, _, _, _⟩ := ins_get I.hok ea
  obtain ⟨od, J, _⟩ := O.look
  obtain ⟨rest, hrec⟩ := hp.rec_
  have I1 := I.tok (s.toks + 1)
  have hl : ([Value.ref a] ++ ds).length = ps.length := by
    rw [← F.len _ _ _ _ h]
    show ds.length + 1 = dvs.length + 1
    rw [hd.length]
  have hc : (PySem.W.clsIn X.K C).isSome = true := by
    obtain ⟨cd, hc, _⟩ := PySem.W.any_some c.hd
    rw [hc]
    rfl
  refine PySem.W.get_bind I.kIn J (PySem.W.plainGet_of (c.get fl)).1 (PySem.W.findObj_data hc hp.at_ hp.get hp.tak) (PySem.W.plainGet_of (c.get fl)).2 (wpAny_call (PySem.W.prop_get (s := { s with toks := s.toks + 1 }) I.kIn hrec ?_))
  refine codeAny_mono (F.run X.A.in1 X.stack { s with toks := s.toks + 1 } H ⟨[.ref a], []⟩ (.ref a :: ds) (.ref a :: dvs) Q E hgd hr.in1 I1.env0.in1 (hb _ [.ref a] I1.kIn hl) (.cons rfl hd) h) fun r s' hq => ?_
  cases r with
  | error er => exact False.elim (hx pins σ H { s with toks := s.toks + 1 } er s' (I1.wish _) hq)
  | ok fl =>
    cases fl with
    | ret u =>
      obtain ⟨v, H', I3, rv, q3⟩ := I1.after hq
      show wpAny _ _ (handedOut u) _ _ _
      rw [PySem.W.handedOut_of (handed_of rv)]
      exact wpAny_pure ⟨v, H', I3, rv, q3⟩
    | next => exact False.elim hq
    | brk => exact False.elim hq
    | cont => exact False.elim hq
/-! ### keywords -/
theorem PK.mono {kws : List Keyword} {t t' : TA} (h : PK X kws t) (m : ∀ σ H Q, t' σ H Q → t σ H Q) : PK X kws t' := ⟨fun pos pins s σ H Q I q => h.run pos pins s σ H Q I (m _ _ _ q)⟩
theorem kw_all {env : Env} : ∀ {kws : List Keyword}, kwOk kws = true → (backToKw pos (keywordEach kws env)).all (·.1.isSome) = true
  | [], _ => rfl
  | ⟨nm, e, kp⟩ :: kws, h => by
    unfold kwOk at h
    rw [List.all_cons, Bool.and_eq_true] at h
    show (nm.isSome && (backToKw pos (keywordEach kws env)).all (·.1.isSome)) = true
    rw [Bool.and_eq_true]
    exact ⟨h.1, kw_all h.2⟩
theorem kw_none {env : Env} : ∀ {kws : List Keyword}, kwOk kws = true → (backToKw pos (keywordEach kws env)).any (·.1.isNone) = false
  | [], _ => rfl
  | ⟨nm, e, kp⟩ :: kws, h => by
    unfold kwOk at h
    rw [List.all_cons, Bool.and_eq_true] at h
    show (nm.isNone || (backToKw pos (keywordEach kws env)).any (·.1.isNone)) = false
    rw [Bool.or_eq_false_iff]
    refine ⟨?_, kw_none h.2⟩
    cases nm with
    | none => cases h.1
    | some _ => rfl
theorem kw_names {env : Env} : ∀ {kws : List Keyword}, (backToKw pos (keywordEach kws env)).filterMap (·.1) = kws.filterMap (·.arg)
  | [] => rfl
  | ⟨nm, e, kp⟩ :: kws => by
    show List.filterMap (·.1) ((nm, _) :: backToKw pos (keywordEach kws env)) = _
    cases nm with
    | none => exact kw_names (kws := kws)
    | some y => exact congrArg (y :: ·) (kw_names (kws := kws))
theorem run_fnGk {pins : List (Addr × Obj)} {σ : L2.St} {H : Hp} {s : Shared} {Q : VK} {ks : List Str} {us ws ws' : List Value} {vs zs' : List V} (F : FnG X.prog X.w X.K X.mg X.base CX k f fd ps sp) (hq : X.A.guards = some []) (hr : Room k X.A) (hx : Passes CX X E)
    (hb : BindsTo s fd ⟨us, ks.zip ws⟩ (ps.zip (us ++ ws')))
    (I : Inv X pins σ H s) (r : Vals vs us) (rz : Vals zs' ws') (h : sp (vs ++ zs') H Q E) : wpAny (model X.prog X.w) X.A (call (.ref f) us (ks.zip ws)) (EP X pins σ Q) X.xe s := by
  refine wpAny_call (codeAny_mono (F.run X.A X.stack s H ⟨us, ks.zip ws⟩ (us ++ ws') (vs ++ zs') Q E hq hr I.env0 hb (r.append rz) h) fun r s' hq => ?_)
  cases r with
  | error e => exact hx pins σ H s e s' I hq
  | ok fl =>
    cases fl with
    | ret u => exact I.after hq
    | next => exact False.elim hq
    | brk => exact False.elim hq
    | cont => exact False.elim hq
theorem vals_perm : ∀ {ix : List Nat} {zs zs' : List V} {ws : List Value}, Vals zs ws → permA ix zs = some zs' → ∃ ws', permA ix ws = some ws' ∧ Vals zs' ws'
  | [], zs, zs', ws, r, h => by cases h; exact ⟨[], rfl, .nil⟩
  | i :: ix, zs, zs', ws, r, h => by
    unfold permA at h
    split at h
    · rename_i x ys e1 e2
      cases h
      obtain ⟨ws', e3, r'⟩ := vals_perm r e2
      obtain ⟨u, hu, ru⟩ := r.get e1
      exact ⟨u :: ws', by unfold permA; rw [hu, e3], .cons ru r'⟩
    · cases h
/-- what the names are to be -/
def KwOk (ps ks : List Str) (n : Nat) (ix : List Nat) : Prop := n + ks.length = ps.length ∧ ks.Nodup ∧ (∀ k ∈ ks, k ∈ ps.drop n) ∧ permA ix ks = some (ps.drop n)
theorem KwOk.plain {ps ks : List Str} {n : Nat} (nd : ps.Nodup) (h : ks = ps.drop n) (hn : n ≤ ps.length) : KwOk ps ks n (List.range ks.length) := by
  refine ⟨by rw [h, List.length_drop]; omega, by rw [h]; exact nd.sublist (List.drop_sublist _ _), fun k hk => h ▸ hk, ?_⟩
  rw [permA_range, h]
theorem kw_fin {kws : List Keyword} {tk : TA} {pins : List (Addr × Obj)} {σ : L2.St} {Q : VK} (F : FnG X.prog X.w X.K X.mg X.base CX k f fd ps sp) (hq : X.A.guards = some []) (hr : Room k X.A) (hb : KwB fd ps (some ps)) (hx : Passes CX X E) (hkw : PK X kws tk) {s1 : Shared} {vs : List V} {us : List Value} {H1 : Hp} (I1 : Inv X pins σ H1 s1) (r : Vals vs us)
    (q : tk σ H1 (fun zs H2 => ∃ ix zs', KwOk ps (kws.filterMap (·.arg)) vs.length ix ∧ zs.length = (kws.filterMap (·.arg)).length ∧ permA ix zs = some zs' ∧ sp (vs ++ zs') H2 Q E)) :
    wpAny (model X.prog X.w) X.A (evalAll ((backToKw pos (keywordEach kws X.env)).map (·.2))) (fun ks s₂ => X.K.In s₂.heap ∧ wpAny (model X.prog X.w) X.A (call (.ref f) us (((backToKw pos (keywordEach kws X.env)).filterMap (·.1)).zip ks)) (EP X pins σ Q) X.xe s₂) X.xe s1 := by
  refine thn (hkw.run pos pins s1 σ H1 _ I1 q) fun ws s2 ⟨zs, H2, I2, rz, ix, zs', ⟨e1, e2, e3, e4⟩, el, e5, q2⟩ => ⟨I2.kIn, ?_⟩
  obtain ⟨ws', e6, rz'⟩ := vals_perm rz e5
  rw [r.length] at e1 e3 e4
  have hw : ws.length = (kws.filterMap (·.arg)).length := by rw [← rz.length]; exact el
  rw [kw_names]
  exact run_fnGk F hq hr hx ((hb ps rfl).2 s2 us ws ws' _ ix e1 hw e2 e3 e4 e6) I2 r rz' q2
/-- f(e, .., k = v, ..): the names in the parameters' order, all parameters given -/
theorem pe_callGk {kws : List Keyword} {tk : TA} (F : FnG X.prog X.w X.K X.mg X.base CX k f fd ps sp) (hq : X.A.guards = some []) (hr : Room k X.A) (hg : Gl X x) (hm : X.mg x = some (.ref f)) (hk : PySem.W.keepIn X.K (.ref f) = true) (hb : KwB fd ps (some ps)) (hx : Passes CX X E)
    (ha : PA X (e :: es) t) (hkw : PK X kws tk) (hok : kwOk kws = true) (hdb : (x == ("__debug__" : Str)) = false) (hn : (e :: es).all noStar = true) :
    PE X (.Call (.Name x p) (e :: es) kws pos) (fun σ H Q => t σ H fun vs H1 => tk σ H1 fun zs H2 => ∃ ix zs', KwOk ps (kws.filterMap (·.arg)) vs.length ix ∧ zs.length = (kws.filterMap (·.arg)).length ∧ permA ix zs = some zs' ∧ sp (vs ++ zs') H2 Q E) := by
  refine ⟨fun pins s σ H Q I h => ?_⟩
  refine wpAny_Call_Name_kw (ld_glob I hg hm ?_ hdb)
  have h1 : noStar e = true := by rw [List.all_cons, Bool.and_eq_true] at hn; exact hn.1
  have hs : (backTo pos (starEach (e :: es) X.env)).any (·.1) = false := stars_of hn
  refine PySem.W.callWith_KW (h₀ := X.base) I.ok.mod.kin hk (kw_all hok) (thn (ha.run pos pins s σ H _ I h) fun us s1 ⟨vs, H1, I1, r, q⟩ => ?_) (by rw [hs, kw_none hok]; rfl) (star_of h1)
  exact kw_fin F hq hr hb hx hkw I1 r q
theorem pe_callGk0 {kws : List Keyword} {tk : TA} (F : FnG X.prog X.w X.K X.mg X.base CX k f fd ps sp) (hq : X.A.guards = some []) (hr : Room k X.A) (hg : Gl X x) (hm : X.mg x = some (.ref f)) (hk : PySem.W.keepIn X.K (.ref f) = true) (hb : KwB fd ps (some ps)) (hx : Passes CX X E)
    (hkw : PK X kws tk) (hok : kwOk kws = true) (hdb : (x == ("__debug__" : Str)) = false) :
    PE X (.Call (.Name x p) [] kws pos) (fun σ H Q => tk σ H fun zs H2 => ∃ ix zs', KwOk ps (kws.filterMap (·.arg)) 0 ix ∧ zs.length = (kws.filterMap (·.arg)).length ∧ permA ix zs = some zs' ∧ sp zs' H2 Q E) := by
  refine ⟨fun pins s σ H Q I h => ?_⟩
  refine wpAny_Call_Name_kw (ld_glob I hg hm ?_ hdb)
  refine PySem.W.callWith_KW0 (h₀ := X.base) I.ok.mod.kin hk (kw_all hok) ?_ (by rw [kw_none hok]; rfl)
  exact kw_fin (vs := []) (us := []) F hq hr hb hx hkw I .nil h
end
/-- a def of the text by its body -/
theorem fn_ofG {CX : CXT} {P : Program} {w : World} {K : PySem.W.Frag} {mg : Str → Option Value} {base : Heap} {k : Nat} {f : Addr} {name qual : Str} {params : Arguments} {body : List Stmt} {scope : Scope} {dV kV doc pm cdv ct oc : Value} {an od : Option Addr}
    {osl : Array (Option Value)} {N ps : List Str} {sp : Sp} (lk : K.lookup f = some ⟨oc, od, .func (PySem.W.fnOf name qual params body scope dV kV doc pm an cdv ct), osl⟩) (hcd : PySem.W.codeIn K cdv qual = true) (S : FnScope N ps scope)
    (len : ∀ vs H Q E, sp vs H Q E → vs.length = ps.length)
    (hbody : ∀ (A : Around) (outer : List Env) (s : Shared) (H : Hp) (vs : List V) (Q : VK) (E : XK), A.guards = some [] → Room k (A.deeper (envOfC qual scope s.heap.objs.size f cdv)) → sp vs H Q E →
      ∃ t, PSs (cxOf CX P w K mg base N qual scope f cdv A outer s H E) body t ∧ t { nx := fun _ H' => Q .non H', rt := Q } (start N vs) H) :
    FnG P w K mg base CX (k + 1) f (PySem.W.fnOf name qual params body scope dV kV doc pm an cdv ct) ps sp := by
  refine ⟨len, fun A outer s H args us vs Q E hgd hr e0 hb r hsp => ?_⟩
  have hl := len _ _ _ _ hsp
  have KX : K.In s.heap := e0.mod.kin.keeps fun b o e => (e0.bs b o e).1
  have lim : s.heap.NoLimit := e0.mod.nolimit.keeps fun b o e => (e0.bs b o e).1
  have hkind : ∀ y ∈ ps.zip us, scope.names.lookup y.1 = some .local ∨ (scope.names.lookup y.1 = some .cell ∧ ((cellsFrom (s.heap.objs.size + 1) scope.names []).lookup y.1).isSome = true) := fun ⟨n, v⟩ hy => by
    rcases S.par n (List.of_mem_zip hy).1 with q | q
    · exact .inl q
    · exact .inr ⟨q, PySem.W.cellsFrom_some _ _ _ (.inl q)⟩
  refine codeAny_call_function hr.depth (KX _ _ lk) rfl S.co S.gen rfl (PySem.W.codeRec_of KX hcd) (hb _ _ _ _ ?_)
  refine wpAny_newFunctionEnv_cells S.kind hkind fun env he s1 x => ?_
  subst he
  refine ⟨lim.keeps x.toInCall.keep, codeAny_func ?_⟩
  obtain ⟨t, ht, hq⟩ := hbody A outer s H vs Q E hgd (hr.deeper _) hsp
  have I : Inv (cxOf CX P w K mg base N qual scope f cdv A outer s H E) [] (start N vs) H s1 := inv_start S hr.hd e0 hl r x
  refine wpAny_mono (ht.run [] s1 (start N vs) H _ I hq) (fun fl s' hs => ?_) fun e s' hs => hs
  have fin : ∀ {σ' : L2.St} {H' : Hp} {v : V} {u : Value}, Inv (cxOf CX P w K mg base N qual scope f cdv A outer s H E) [] σ' H' s' → RelV v u → Q v H' → L2.CE outer P w H s Q u s' :=
    fun {σ' H' v u} J rv q => ⟨v, H', J.os, J.bare, J.base, J.hok, rv, q⟩
  cases fl with
  | ret u =>
    obtain ⟨v, σ', H', J, rv, q⟩ := hs
    exact fin J rv q
  | next =>
    obtain ⟨σ', H', J, q⟩ := hs
    exact fin (v := V.non) (u := Value.none) J rfl q
  | brk =>
    obtain ⟨_, _, _, q⟩ := hs
    exact False.elim q
  | cont =>
    obtain ⟨_, _, _, q⟩ := hs
    exact False.elim q
end Pv
end

section
set_option Elab.async false
set_option linter.all false
set_option maxRecDepth 100000
set_option maxHeartbeats 4000000
/-! EvCl: closures: cells and functions tracked for a while. -/
namespace Pv
open PySem PySem.Spec PyProof.Rows L2 LamX NdefX
abbrev Tk := List (Addr × Obj)
/-- these objects are tracked, too -/
def trk (H : Hp) (T : Tk) : Hp := fun b => match T.lookup b with
  | some o => some (ExO b o)
  | none => H b
/-- these are not tracked any more -/
def dlt (H : Hp) (T : Tk) : Hp := fun b => match T.lookup b with
  | some _ => none
  | none => H b
section
variable {H H' H2 : Hp} {T : Tk} {b : Addr} {o : Obj} {u : HO}
theorem trk_at (e : T.lookup b = some o) : trk H T b = some (ExO b o) := by unfold trk; rw [e]
theorem trk_ne (e : T.lookup b = none) : trk H T b = H b := by unfold trk; rw [e]
theorem dlt_at (e : T.lookup b = some o) : dlt H T b = none := by unfold dlt; rw [e]
theorem dlt_ne (e : T.lookup b = none) : dlt H T b = H b := by unfold dlt; rw [e]
theorem lk_none (h : ∀ b o, T.lookup b = some o → H b = none) (e : H b = some u) : T.lookup b = none := by
  cases q : T.lookup b with
  | none => rfl
  | some o => rw [h b o q] at e; cases e
theorem lk_kind (h : ∀ b o, T.lookup b = some o → H b = some (ExO b o)) (e : H b = some u) (hu : ∀ φ, u ≠ .ext φ) : T.lookup b = none := by
  cases q : T.lookup b with
  | none => rfl
  | some o => rw [h b o q] at e; exact (hu _ (Option.some.inj e).symm).elim
theorem exO_ok {P : Program} {w : World} {h : Heap} (e : h.get? b = some o) : ObjOk P w H h b (ExO b o) := ⟨e, ⟨o, e⟩, fun h1 h2 p st => st _ p⟩
theorem exO_at {P : Program} {w : World} {h : Heap} (hok : HOk P w H h) (e : H b = some (ExO b o)) : h.get? b = some o := (hok b _ e).1
end
section
variable {P : Program} {w : World} {H H' H2 : Hp} {h : Heap} {T : Tk} {K : PySem.W.Frag} {mg : Str → Option Value} {base : Heap} {A : Around} {outer : List Env} {s s' : Shared}
theorem hok_trk (ok : HOk P w H h) (hT : ∀ b o, T.lookup b = some o → H b = none ∧ h.get? b = some o) : HOk P w (trk H T) h := fun b u e => by
  have hn : ∀ b o, T.lookup b = some o → H b = none := fun b o e => (hT b o e).1
  cases q : T.lookup b with
  | some o =>
    rw [trk_at q] at e
    cases e
    exact exO_ok (hT b o q).2
  | none =>
    rw [trk_ne q] at e
    exact (ok b u e).stay (fun c v _ r => r) (fun c r => by rw [trk_ne (lk_none hn r)]; exact r) fun c xs r => by rw [trk_ne (lk_none hn r)]; exact r
theorem hok_dlt (ok : HOk P w H h) (hT : ∀ b o, T.lookup b = some o → H b = some (ExO b o)) : HOk P w (dlt H T) h := fun b u e => by
  cases q : T.lookup b with
  | some o => rw [dlt_at q] at e; cases e
  | none =>
    rw [dlt_ne q] at e
    exact (ok b u e).stay (fun c v _ r => r) (fun c r => by rw [dlt_ne (lk_kind hT r fun φ z => by cases z)]; exact r) fun c xs r => by rw [dlt_ne (lk_kind hT r fun φ z => by cases z)]; exact r
/-- what may be tracked for a call -/
structure TkOk (T : Tk) (base : Heap) (outer : List Env) (s : Shared) (H : Hp) : Prop where
  non : ∀ b o, T.lookup b = some o → H b = none
  get : ∀ b o, T.lookup b = some o → s.heap.get? b = some o
  nofr : ∀ b o, T.lookup b = some o → b ∉ frs outer
  nobs : ∀ b o, T.lookup b = some o → base.get? b = none
theorem env0_trk (e : Env0 P w K mg base A outer s H) (t : TkOk T base outer s H) : Env0 P w K mg base A outer s (trk H T) where
  frames := e.frames
  mod := e.mod
  bs := fun b o q => by
    refine ⟨(e.bs b o q).1, ?_⟩
    cases z : T.lookup b with
    | none => rw [trk_ne z]; exact (e.bs b o q).2
    | some o' => rw [t.nobs b o' z] at q; cases q
  bsz := e.bsz
  funs := e.funs
  frf := fun b hb => by
    cases z : T.lookup b with
    | none => rw [trk_ne z]; exact e.frf b hb
    | some o' => exact (t.nofr b o' z hb).elim
  hok := hok_trk e.hok fun b o q => ⟨t.non b o q, t.get b o q⟩
  bare := e.bare
theorem env0_dlt (e : Env0 P w K mg base A outer s H) (t : ∀ b o, T.lookup b = some o → H b = some (ExO b o)) : Env0 P w K mg base A outer s (dlt H T) where
  frames := e.frames
  mod := e.mod
  bs := fun b o q => by
    refine ⟨(e.bs b o q).1, ?_⟩
    cases z : T.lookup b with
    | none => rw [dlt_ne z]; exact (e.bs b o q).2
    | some o' => exact dlt_at z
  bsz := e.bsz
  funs := e.funs
  frf := fun b hb => by
    cases z : T.lookup b with
    | none => rw [dlt_ne z]; exact e.frf b hb
    | some o' => exact dlt_at z
  hok := hok_dlt e.hok t
  bare := e.bare
/-- a call's end, told without what was tracked for it alone -/
theorem ce_untrack {Q Q' : VK} {u : Value} (t : TkOk T base outer s H) (h : L2.CE outer P w (trk H T) s Q u s') (i : ∀ v H2, HOk P w H2 s'.heap → Q v H2 → (∀ b o, T.lookup b = some o → H2 b = some (ExO b o)) ∧ Q' v (dlt H2 T)) : L2.CE outer P w H s Q' u s' := by
  obtain ⟨v, H', os, bare, un, hok, r, q⟩ := h
  obtain ⟨k, q'⟩ := i v H' hok q
  refine ⟨v, dlt H' T, os, bare, ⟨fun b o e n hb hx => ?_, fun b o e n hb hx => ?_, fun b o e n hx => ?_, fun b o e hx => un.there b o e hx, fun b xs e => ?_, fun b o u e => ?_, fun b ps e => ?_⟩, hok_dlt hok k, r, q'⟩
  · cases z : T.lookup b with
    | none => exact un.keep b o e (by rw [trk_ne z]; exact n) hb hx
    | some o' =>
      have e2 := t.get b o' z
      rw [e] at e2
      cases e2
      exact exO_at hok (k b o z)
  · cases z : T.lookup b with
    | none => exact un.slot b o e (by rw [trk_ne z]; exact n) hb hx
    | some o' => exact (t.nofr b o' z hb).elim
  · cases z : T.lookup b with
    | none => rw [dlt_ne z]; exact un.free b o e (by rw [trk_ne z]; exact n) hx
    | some o' => exact dlt_at z
  · have z := lk_none t.non e
    rw [dlt_ne z]; exact un.tups b xs (by rw [trk_ne z]; exact e)
  · have z := lk_none t.non e
    rw [dlt_ne z]; exact un.frzs b o u (by rw [trk_ne z]; exact e)
  · have z := lk_none t.non e
    obtain ⟨more, q⟩ := un.tbls b ps (by rw [trk_ne z]; exact e)
    exact ⟨more, by rw [dlt_ne z]; exact q⟩
/-- a call's end, told with what was not tracked in it -/
theorem ce_track {Q Q' : VK} {u : Value} (hok0 : HOk P w H s.heap) (frf : ∀ b ∈ frs outer, H b = none) (t : ∀ b o, T.lookup b = some o → H b = some (ExO b o)) (h : L2.CE outer P w (dlt H T) s Q u s')
    (i : ∀ v H2, (∀ b o, T.lookup b = some o → H2 b = none) → Q v H2 → Q' v (trk H2 T)) : L2.CE outer P w H s Q' u s' := by
  obtain ⟨v, H', os, bare, un, hok, r, q⟩ := h
  have fr : ∀ b o, T.lookup b = some o → b ∉ frs outer := fun b o e z => by
    have := frf b z
    rw [t b o e] at this; cases this
  have g1 : ∀ b o, T.lookup b = some o → H' b = none := fun b o e => un.free b o (exO_at hok0 (t b o e)) (dlt_at e) (by simp)
  have g2 : ∀ b o, T.lookup b = some o → s'.heap.get? b = some o := fun b o e => un.keep b o (exO_at hok0 (t b o e)) (dlt_at e) (fr b o e) (by simp)
  have nn : ∀ {b : Addr}, H b = none → T.lookup b = none := fun {b} n => by
    cases z : T.lookup b with
    | none => rfl
    | some o => rw [t b o z] at n; cases n
  refine ⟨v, trk H' T, os, bare, ⟨fun b o e n hb hx => ?_, fun b o e n hb hx => ?_, fun b o e n hx => ?_, fun b o e hx => un.there b o e hx, fun b xs e => ?_, fun b o u e => ?_, fun b ps e => ?_⟩, hok_trk hok fun b o e => ⟨g1 b o e, g2 b o e⟩, r, i v H' g1 q⟩
  · exact un.keep b o e (by rw [dlt_ne (nn n)]; exact n) hb hx
  · exact un.slot b o e (by rw [dlt_ne (nn n)]; exact n) hb hx
  · rw [trk_ne (nn n)]; exact un.free b o e (by rw [dlt_ne (nn n)]; exact n) hx
  · have z := lk_kind t e fun φ z => by cases z
    rw [trk_ne z]; exact un.tups b xs (by rw [dlt_ne z]; exact e)
  · have z := lk_kind t e fun φ z => by cases z
    rw [trk_ne z]; exact un.frzs b o u (by rw [dlt_ne z]; exact e)
  · have z := lk_kind t e fun φ z => by cases z
    obtain ⟨more, q⟩ := un.tbls b ps (by rw [dlt_ne z]; exact e)
    exact ⟨more, by rw [trk_ne z]; exact q⟩
end
/-! ### data in a heap that differs by such objects -/
section
variable {W : Wr} {m : Fb} {θ : List Addr} {H H' : Hp}
theorem Rd.mv (hn : ∀ b o, H b = some o → (∀ φ, o ≠ .ext φ) → H' b = some o) {a : Addr} {u : HO} (hu : ∀ φ, u ≠ .ext φ) (h : Rd H a u) : Rd H' a u :=
  h.elim (fun z => .inl (hn _ _ z hu)) fun ⟨o, z⟩ => .inr ⟨o, hn _ _ z fun φ q => by cases q⟩
mutual
theorem RepV.mv (hn : ∀ b o, H b = some o → (∀ φ, o ≠ .ext φ) → H' b = some o) : ∀ {d : D} {v : V}, RepV W m θ H d v → RepV W m θ H' d v
  | _, _, .non => .non
  | _, _, .bl b => .bl b
  | _, _, .int i => .int i
  | _, _, .str x => .str x
  | _, _, .ty n => .ty n
  | _, _, .fn i => .fn i
  | _, _, .cls i => .cls i
  | _, _, .tup (.inl ⟨r, n⟩) rs => .tup (.inl ⟨Rd.mv hn (fun φ z => by cases z) r, n⟩) (RepVs.mv hn rs)
  | _, _, .tup (.inr r) rs => .tup (.inr r) (RepVs.mv hn rs)
  | _, _, .lst h n rs => .lst (hn _ _ h fun φ z => by cases z) n (RepVs.mv hn rs)
  | _, _, .scr (.inl ⟨r, n⟩) rs => .scr (.inl ⟨Rd.mv hn (fun φ z => by cases z) r, n⟩) (RepVs.mv hn rs)
  | _, _, .scr (.inr r) rs => .scr (.inr r) (RepVs.mv hn rs)
  | _, _, .obj h n e rs => .obj (hn _ _ h fun φ z => by cases z) n e (RepVs.mv hn rs)
  | _, _, .dic h n e rs => .dic (hn _ _ h fun φ z => by cases z) n e (RepVs.mv hn rs)
  | _, _, .ref h => .ref h
  | _, _, .opq a => .opq a
theorem RepVs.mv (hn : ∀ b o, H b = some o → (∀ φ, o ≠ .ext φ) → H' b = some o) : ∀ {ds : List D} {vs : List V}, RepVs W m θ H ds vs → RepVs W m θ H' ds vs
  | _, _, .nil => .nil
  | _, _, .cons r rs => .cons (RepV.mv hn r) (RepVs.mv hn rs)
end
theorem ObR.mv (hn : ∀ b o, H b = some o → (∀ φ, o ≠ .ext φ) → H' b = some o) (hc : ∀ c q, H c = some (CodeO c q) → H' c = some (CodeO c q)) {o : Ob} {a : Addr} (h : ObR W m θ H o a) : ObR W m θ H' o a := by
  cases o with
  | lst xs => obtain ⟨vs, e, r⟩ := h; exact ⟨vs, hn _ _ e (fun φ z => by cases z), r.mv hn⟩
  | ins c fs => obtain ⟨dx, vfs, e, n, r⟩ := h; exact ⟨dx, vfs, hn _ _ e (fun φ z => by cases z), n, r.mv hn⟩
  | dic kvs => obtain ⟨vkvs, e, n, r⟩ := h; exact ⟨vkvs, hn _ _ e (fun φ z => by cases z), n, r.mv hn⟩
  | tbl i =>
    obtain ⟨e0, ps, e, t, ha⟩ := h
    refine ⟨e0, ps, hn _ _ e (fun φ z => by cases z), t, fun pos cv q => ?_⟩
    obtain ⟨c, e1, e2, n⟩ := ha pos cv q
    exact ⟨c, e1, hc _ _ e2, n⟩
/-- a frame of data alone, in such a heap -/
theorem Rep.mv {F : Fb} {s : S} {σ : L2.St} (hn : ∀ b o, H b = some o → (∀ φ, o ≠ .ext φ) → H' b = some o) (hc : ∀ c q, H c = some (CodeO c q) → H' c = some (CodeO c q)) (hF : ∀ a o, F a → H a = some o → H' a = some o) (hx : ∀ i f cs, getN s.ρ i ≠ .clo f cs) (R : Rep W F θ s σ H) : Rep W F θ s σ H' := by
  refine ⟨R.len, fun i o e => ?_, R.th, fun l a o e e' => (R.st l a o e e').mv hn hc, R.nd, R.own1, R.ownT, R.FT, fun a f => ?_⟩
  · have := R.sl i o e
    revert this
    cases g : getN s.ρ i with
    | no => exact id
    | val d => cases o with
      | none => exact id
      | some v => exact fun r => r.mv hn
    | own ob => cases o with
      | none => exact id
      | some v => exact fun ⟨a, e, r⟩ => ⟨a, e, r.mv hn hc⟩
    | clo f cs => exact (hx i f cs g).elim
  · obtain ⟨o, e, mu⟩ := R.Fd a f
    exact ⟨o, hF a o f e, mu⟩
end
/-! ### ends in such heaps -/
section
variable {W : Wr} {F : Fb} {m0 : Fb} {θ θ2 : List Addr} {H H2 : Hp} {T : Tk} {m2 : List Ob} {x : FX} {v : V}
theorem noClo0 : ∀ (i : Nat) (f : Fn) (cs : List D), getN (⟨[], m2⟩ : S).ρ i ≠ .clo f cs := fun i f cs z => by cases z
/-- an end where the objects of T were not tracked, told where they are -/
theorem rx_trk (hT : ∀ b o, T.lookup b = some o → H b = some (ExO b o)) (hT2 : ∀ b o, T.lookup b = some o → H2 b = none) (h : RX W F m0 θ (dlt H T) θ2 ⟨[], m2⟩ [] H2 x v) : RX W F m0 θ H θ2 ⟨[], m2⟩ [] (trk H2 T) x v := by
  have hn0 : ∀ b o, H2 b = some o → trk H2 T b = some o := fun b o e => by rw [trk_ne (lk_none hT2 e)]; exact e
  have hn : ∀ b o, H2 b = some o → (∀ φ, o ≠ .ext φ) → trk H2 T b = some o := fun b o e _ => hn0 b o e
  have kp : ∀ {m' : Fb}, (∀ b, m' b → ∃ o, H2 b = some o) → Keep m0 θ (dlt H T) m' θ2 H2 → Keep m0 θ H m' θ2 (trk H2 T) := fun {m'} ht k => by
    refine ⟨fun a o e n => ?_, fun a o e z => ?_, k.th⟩
    · cases q : T.lookup a with
      | none => exact hn0 a o (k.kp a o (by rw [dlt_ne q]; exact e) n)
      | some o' =>
        rw [hT a o' q] at e
        rw [trk_at q]; exact e
    · cases q : T.lookup a with
      | none => exact k.mm a o (by rw [dlt_ne q]; exact e) z
      | some o' =>
        obtain ⟨u, e2⟩ := ht a z
        rw [hT2 a o' q] at e2; cases e2
  cases x with
  | d d =>
    obtain ⟨R, k, r⟩ := h
    exact ⟨R.mv hn (fun c q e => hn0 _ _ e) (fun a o _ e => hn0 _ _ e) noClo0, kp (fun b z => let ⟨o, e, _⟩ := R.mt_there (.inr z); ⟨o, e⟩) k, r.mv hn⟩
  | f o =>
    obtain ⟨a, e, n, R, k, r⟩ := h
    refine ⟨a, e, n, R.mv hn (fun c q e => hn0 _ _ e) (fun a o _ e => hn0 _ _ e) noClo0, kp (fun b z => ?_) k, r.mv hn fun c q e => hn0 _ _ e⟩
    rcases z with z | z
    · obtain ⟨o, e, _⟩ := R.mt_there (.inr z); exact ⟨o, e⟩
    · subst z; obtain ⟨o, e, _⟩ := r.there; exact ⟨o, e⟩
/-- an end where the objects of T were tracked, told where they are not -/
theorem rx_dlt (hT : ∀ b o, T.lookup b = some o → H b = none) (hT2 : ∀ b o, T.lookup b = some o → H2 b = some (ExO b o)) (hF : ∀ b o, T.lookup b = some o → ¬ F b) (hc : ∀ c q, H2 c = some (CodeO c q) → T.lookup c = none) (h : RX W F m0 θ (trk H T) θ2 ⟨[], m2⟩ [] H2 x v) :
    RX W F m0 θ H θ2 ⟨[], m2⟩ [] (dlt H2 T) x v := by
  have hn : ∀ b o, H2 b = some o → (∀ φ, o ≠ .ext φ) → dlt H2 T b = some o := fun b o e n => by rw [dlt_ne (lk_kind hT2 e n)]; exact e
  have hc2 : ∀ c q, H2 c = some (CodeO c q) → dlt H2 T c = some (CodeO c q) := fun c q e => by rw [dlt_ne (hc c q e)]; exact e
  have hF2 : ∀ {G : Fb}, (∀ b o, T.lookup b = some o → ¬ G b) → ∀ a o, G a → H2 a = some o → dlt H2 T a = some o := fun {G} hG a o f e => by
    cases q : T.lookup a with
    | none => rw [dlt_ne q]; exact e
    | some o' => exact (hG a o' q f).elim
  have kp : ∀ {m' : Fb}, Keep m0 θ (trk H T) m' θ2 H2 → Keep m0 θ H m' θ2 (dlt H2 T) := fun {m'} k => by
    refine ⟨fun a o e n => ?_, fun a o e z => ?_, k.th⟩
    · have q := lk_none hT e
      rw [dlt_ne q]; exact k.kp a o (by rw [trk_ne q]; exact e) n
    · have q := lk_none hT e
      exact k.mm a o (by rw [trk_ne q]; exact e) z
  cases x with
  | d d =>
    obtain ⟨R, k, r⟩ := h
    exact ⟨R.mv hn hc2 (hF2 hF) noClo0, kp k, r.mv hn⟩
  | f o =>
    obtain ⟨a, e, n, R, k, r⟩ := h
    refine ⟨a, e, n, R.mv hn hc2 (hF2 fun b o' q z => ?_) noClo0, kp k, r.mv hn hc2⟩
    rcases z with z | z
    · exact hF b o' q z
    · subst z
      have e2 := hT2 _ _ q
      cases o with
      | lst xs => obtain ⟨_, e3, _⟩ := r; rw [e2] at e3; cases e3
      | ins c fs => obtain ⟨_, _, e3, _⟩ := r; rw [e2] at e3; cases e3
      | dic kvs => obtain ⟨_, e3, _⟩ := r; rw [e2] at e3; cases e3
      | tbl i => obtain ⟨_, _, e3, _⟩ := r; rw [e2] at e3; cases e3
end
/-! ### a closure's promise -/
def spC (W : Wr) (P : Prog) (rp : D → Option Str) (n : Nat) (f : Fn) (a : Addr) : Sp := fun vs H Q E => ∃ (F : Fb) (θ : List Addr) (xs : List D) (m : List Ob) (cs : List D), Rep W F θ ⟨xs.map Sl.val, m⟩ (vs.map some) H ∧ CloR W (Mt F θ (xs.map Sl.val) (vs.map some)) θ H f cs a ∧
  OkP (fun x s' => ∀ v H' θ', RX W F (M0 θ (xs.map Sl.val) (vs.map some)) θ H θ' ⟨[], s'.m⟩ [] H' x v → Q v H') (evC P rp n f cs (xs.map AX.d) m)
structure HeldC (Pg : Program) (w : World) (K : PySem.W.Frag) (mg : Str → Option Value) (base : Heap) (W : Wr) (P : Prog) (rp : D → Option Str) (k : Nat) : Prop where
  run : ∀ (f : Fn) (A : Around) (outer : List Env) (s : Shared) (H : Hp) (a : Addr) (us : List Value) (vs : List V) (Q : VK) (E : XK), A.guards = some [] → Room k A → Env0 Pg w K mg base A outer s H → Vals vs us → spC W P rp k f a vs H Q E →
    codeAny (model Pg w) A (.call (.ref a) ⟨us, []⟩) (CR (fun _ _ _ _ _ _ => False) outer Pg w H s Q E) s
section
variable {X : Cx} {W : Wr} {P : Prog} {rp : D → Option Str} {k : Nat}
theorem exFn_at {pins : List (Addr × Obj)} {σ : L2.St} {H : Hp} {s : Shared} (I : Inv X pins σ H s) {a : Addr} {o : Obj} {fd : FuncData} (h : H a = some (ExO a o)) (hd : o.data = .func fd) : PySem.W.FnAt a s.heap := by
  have e := exO_at I.hok h
  obtain ⟨oc, od, dt, sl⟩ := o
  have hd : dt = .func fd := hd
  subst hd
  exact ⟨oc, od, fd, sl, e⟩
theorem run_clo (Hc : HeldC X.prog X.w X.K X.mg X.base W P rp k) {pins : List (Addr × Obj)} {σ : L2.St} {H : Hp} {s : Shared} {Q : VK} {us : List Value} {vs : List V} {f : Fn} {a : Addr} (hq : X.A.guards = some []) (hr : Room k X.A) (I : Inv X pins σ H s) (r : Vals vs us)
    (h : spC W P rp k f a vs H Q fun _ _ _ => False) : wpAny (model X.prog X.w) X.A (call (.ref a) us) (EP X pins σ Q) X.xe s := by
  refine wpAny_call (codeAny_mono (Hc.run f X.A X.stack s H a us vs Q _ hq hr I.env0 r h) fun r s' hq => ?_)
  cases r with
  | error e => exact (show False from hq).elim
  | ok fl =>
    cases fl with
    | ret u => exact I.after hq
    | next => exact False.elim hq
    | brk => exact False.elim hq
    | cont => exact False.elim hq
/-- x(..), x a name that holds a closure -/
theorem pe_callClo (Hc : HeldC X.prog X.w X.K X.mg X.base W P rp k) (hq : X.A.guards = some []) (hr : Room k X.A) {i : Nat} {x : Str} {p pos : Pos} {e : Expr} {es : List Expr} {t : TA} (hN : X.N[i]? = some x) (hv : Vis X.env.scope x) (ha : PA X (e :: es) t) (hdb : (x == ("__debug__" : Str)) = false) (hcd : (x == ("__classdict__" : Str)) = false)
    (he : starEach (e :: es) X.env = (false, eval e X.env) :: starEach es X.env) (hpl : ∀ p, (backTo p (starEach es X.env)).any (·.1) = false) :
    PE X (.Call (.Name x p) (e :: es) [] pos) (fun σ H Q => ∃ a o fd f, σ[i]? = some (some (.ref a)) ∧ H a = some (ExO a o) ∧ o.data = .func fd ∧ t σ H fun vs H1 => H1 a = some (ExO a o) ∧ spC W P rp k f a vs H1 Q fun _ _ _ => False) := by
  refine ⟨fun pins s σ H Q I h => ?_⟩
  obtain ⟨a, o, fd, f, hs, h1, hd, ht⟩ := h
  refine wpAny_Call_Name_kw (thn ((pe_var (pos := p) hN hv hdb hcd).run pins s σ H (fun v H1 => v = .ref a ∧ H1 = H) I ⟨.ref a, hs, rfl, rfl⟩) fun u s1 ⟨v, H1, I1, r1, q1⟩ => ?_)
  obtain ⟨ev, eH⟩ := q1
  subst ev
  rw [eH] at I1
  obtain rfl : u = Value.ref a := r1
  refine PySem.W.callWith_F (first := []) (exFn_at I1 h1 hd) (thn (ha.run pos pins s1 σ H _ I1 ht) fun us s2 ⟨vs, H2, I2, r, h2, q⟩ => ⟨exFn_at I2 h2 hd, ?_⟩) he (hpl _)
  exact run_clo Hc hq hr I2 r q
theorem pe_callClo0 (Hc : HeldC X.prog X.w X.K X.mg X.base W P rp k) (hq : X.A.guards = some []) (hr : Room k X.A) {i : Nat} {x : Str} {p pos : Pos} (hN : X.N[i]? = some x) (hv : Vis X.env.scope x) (hdb : (x == ("__debug__" : Str)) = false) (hcd : (x == ("__classdict__" : Str)) = false) :
    PE X (.Call (.Name x p) [] [] pos) (fun σ H Q => ∃ a o fd f, σ[i]? = some (some (.ref a)) ∧ H a = some (ExO a o) ∧ o.data = .func fd ∧ spC W P rp k f a [] H Q fun _ _ _ => False) := by
  refine ⟨fun pins s σ H Q I h => ?_⟩
  obtain ⟨a, o, fd, f, hs, h1, hd, ht⟩ := h
  refine wpAny_Call_Name_kw (thn ((pe_var (pos := p) hN hv hdb hcd).run pins s σ H (fun v H1 => v = .ref a ∧ H1 = H) I ⟨.ref a, hs, rfl, rfl⟩) fun u s1 ⟨v, H1, I1, r1, q1⟩ => ?_)
  obtain ⟨ev, eH⟩ := q1
  subst ev
  rw [eH] at I1
  obtain rfl : u = Value.ref a := r1
  refine PySem.W.callWith_F0 (first := []) (exFn_at I1 h1 hd) ?_
  exact run_clo Hc hq hr I1 .nil ht
end
end Pv
end

section
set_option Elab.async false
set_option linter.all false
set_option maxRecDepth 100000
set_option maxHeartbeats 4000000
/-! EvPm: new objects put into the store. -/
namespace Pv
open PySem PySem.Spec PyProof.Rows L2
section
variable {X : Cx} {W : Wr} {g : G}
/-- a new object put into the store -/
theorem RX.prom {F m0 : Fb} {θ0 θ : List Addr} {H0 H : Hp} {s : S} {σ : L2.St} {o : Ob} {v : V} (h : RX W F m0 θ0 H0 θ s σ H (.f o) v) : ∃ θ', RX W F m0 θ0 H0 θ' ⟨s.ρ, s.m ++ [o]⟩ σ H (.d (.ref s.m.length)) v := by
  obtain ⟨a, rfl, n, R, k, r⟩ := h
  have hn0 : ¬ M0 θ s.ρ σ a := R.FT a (.inr rfl)
  have nth : a ∉ θ := fun z => hn0 (.inl z)
  have eqM : ∀ b, Mt F (θ ++ [a]) s.ρ σ b → Mt (F.and a) θ s.ρ σ b := fun b z => by
    rcases z with z | z | z
    · exact .inl (.inl z)
    · rcases List.mem_append.mp z with z | z
      · exact .inr (.inl z)
      · rw [List.mem_singleton] at z; exact .inl (.inr z)
    · exact .inr (.inr z)
  have th : ∀ (l : Nat) (b : Addr), θ[l]? = some b → (θ ++ [a])[l]? = some b := fun l b e => by
    rw [List.getElem?_append_left (List.getElem?_eq_some_iff.mp e).1]; exact e
  have kp : Keep (Mt (F.and a) θ s.ρ σ) θ H (Mt F (θ ++ [a]) s.ρ σ) (θ ++ [a]) H := ⟨fun _ _ e _ => e, fun b _ _ z => eqM b z, th⟩
  refine ⟨θ ++ [a], ⟨R.len, fun i u e => (R.sl i u e).sub kp fun _ _ _ _ _ e => e, ?_, fun l b u e1 e2 => ?_, ?_, R.own1, fun b z q => ?_, fun b f z => ?_, fun b f => R.Fd b (.inl f)⟩, ⟨k.kp, fun b u e z => ?_, fun l b e => th l b (k.th l b e)⟩, .ref ?_⟩
  · show (θ ++ [a]).length = (s.m ++ [o]).length
    have := R.th
    simp [this]
  · by_cases hl : l < θ.length
    · rw [List.getElem?_append_left hl] at e1
      have e2 : (s.m ++ [o])[l]? = some u := e2
      rw [List.getElem?_append_left (by rw [← R.th]; exact hl)] at e2
      exact (R.st l b u e1 e2).keep kp fun _ e => e
    · have e2 : (s.m ++ [o])[l]? = some u := e2
      have hl' : l = θ.length := by
        have := (List.getElem?_eq_some_iff.mp e1).1
        simp at this; omega
      subst hl'
      rw [List.getElem?_append_right (Nat.le_refl _), Nat.sub_self] at e1
      rw [R.th, List.getElem?_append_right (Nat.le_refl _), Nat.sub_self] at e2
      cases e1; cases e2
      exact r.keep kp fun _ e => e
  · rw [List.nodup_append]
    refine ⟨R.nd, by simp, fun x hx y hy q => ?_⟩
    rw [List.mem_singleton] at hy
    subst hy; subst q
    exact nth hx
  · rcases List.mem_append.mp q with q | q
    · exact R.ownT b z q
    · rw [List.mem_singleton] at q; subst q
      exact hn0 (.inr z)
  · rcases z with z | z
    · rcases List.mem_append.mp z with z | z
      · exact R.FT b (.inl f) (.inl z)
      · rw [List.mem_singleton] at z; subst z; exact n f
    · exact R.FT b (.inl f) (.inr z)
  · refine k.mm b u e ?_
    rcases z with z | z
    · rcases List.mem_append.mp z with z | z
      · exact .inl (.inl z)
      · rw [List.mem_singleton] at z; exact .inr z
    · exact .inl (.inr z)
  · rw [← R.th, List.getElem?_append_right (Nat.le_refl _), Nat.sub_self] <;> rfl
theorem pe_prom {e : Expr} {a : E} (h : PE X e (tE W (ev g a))) : PE X e (tE W (ev g (.prom a))) := by
  refine mono h fun σ H Q hq => ?_
  obtain ⟨F, θ, s, R, q⟩ := hq
  refine tE_bind R q fun x s1 v H1 θ1 rx q1 => ?_
  cases x with
  | d d => exact q1 v H1 θ1 rx
  | f o =>
    obtain ⟨θ', rx'⟩ := RX.prom rx
    exact q1 v H1 θ' rx'
theorem pa_wrap {c : CE} {n : Nat} (he : ∀ e a, cE c n e = some a → PE X e (tE W (ev g a))) : ∀ {es : List Expr} {ps : List Str} {as : List E}, es.all noStar = true → es.mapM (cE c n) = some as → PA X es (tEs W g (wrapP c ps es as))
  | [], ps, as, hn, h => by
    simp at h; subst h
    cases ps <;> exact pa_nil'
  | e :: es, ps, as, hn, h => by
    rw [List.all_cons, Bool.and_eq_true] at hn
    cases ps with
    | nil => exact pa_list (by rw [List.all_cons, Bool.and_eq_true]; exact hn) h he
    | cons p ps =>
      rw [List.mapM_cons] at h
      simp only [Option.bind_eq_bind, Option.bind_eq_some_iff, Option.pure_def, Option.some.injEq] at h
      obtain ⟨a, h1, bs, h2, rfl⟩ := h
      have ih := pa_wrap he (ps := ps) hn.2 h2
      show PA X (e :: es) (tEs W g ((if c.prom p && !notCall e then .prom a else a) :: wrapP c ps es bs))
      split
      · exact pa_cons' hn.1 (pe_prom (he e a h1)) ih
      · exact pa_cons' hn.1 (he e a h1) ih
theorem wrap_len {c : CE} : ∀ {ps : List Str} {es : List Expr} {as : List E}, (wrapP c ps es as).length = as.length
  | [], es, as => by cases es <;> cases as <;> rfl
  | p :: ps, [], as => by cases as <;> rfl
  | p :: ps, e :: es, [] => rfl
  | p :: ps, e :: es, a :: as => congrArg Nat.succ wrap_len
end
end Pv
end

section
set_option Elab.async false
set_option linter.all false
set_option maxRecDepth 100000
set_option maxHeartbeats 4000000
/-! EvT: calls, new instances, attributes, stars. -/
namespace Pv
open PySem PySem.Spec PyProof.Rows L2
/-- a def's promise -/
def spFn (W : Wr) (P : Prog) (rp : D → Option Str) (n f : Nat) : Sp := fun vs H Q E => ∃ (fn : Fn) (F : Fb) (θ : List Addr) (as : List AX) (m : List Ob), P.fns[f]? = some fn ∧ Rep W F θ ⟨as.map AX.sl, m⟩ (vs.map some) H ∧
  OkP (fun x s' => ∀ v H' θ', RX W F (M0 θ (as.map AX.sl) (vs.map some)) θ H θ' ⟨[], s'.m⟩ [] H' x v → (fn.ini = true → vs.head? = some v) → Q (if fn.ini then .non else v) H') (evFn P rp n f [] as m)
abbrev CX0 : CXT := fun _ _ _ _ _ _ => False
abbrev HeldF (X : Cx) (W : Wr) (P : Prog) (rp : D → Option Str) (k f : Nat) : Prop := HeldN X.prog X.w X.K X.mg X.base k (W.fa f) (spFn W P rp k f) (W.par f)
section
variable {X : Cx} {W : Wr} {g : G} {P : Prog} {rp : D → Option Str} {k f : Nat}
theorem evA_map {g : G} : ∀ {as : List E} {s : S}, evA g (as.map A.e) s = (evs g as s).bind fun xs s => .ok (xs.map AX.d) s
  | [], s => rfl
  | a :: as, s => by
    show ((ev g a s).bind fun x s => .ok (AX.d x.frz) s).bind (fun x s => (evA g (as.map A.e) s).bind fun xs s => .ok (x :: xs) s) = ((ev g a s).bind fun x s => (evs g as s).bind fun xs s => .ok (x.frz :: xs) s).bind _
    cases ev g a s with
    | exc _ _ _ => rfl
    | err => rfl
    | ok x s1 =>
      simp only [Out.bind_ok, evA_map (as := as) (s := s1)]
      cases evs g as s1 <;> rfl
theorem callG_ok {α : Type} {f : α} {c : α → List D → List AX → List Ob → Out FX} {caps : List D} {as : List AX} {s : S} {Q : FX → S → Prop} (h : OkP Q (callG c f caps as s)) : OkP (fun x s' => Q x ⟨s.ρ, s'.m⟩) (c f caps as s.m) := by
  unfold callG at h
  cases e : c f caps as s.m with
  | ok x s' => rw [e] at h; exact h
  | exc _ _ _ => rw [e] at h; exact h.elim
  | err => rw [e] at h; exact h.elim
/-- a call's promise from the caller's state -/
theorem sp_of {F : Fb} {θ : List Addr} {s : S} {σ : L2.St} {H : Hp} {xs : List D} {vs : List V} {Q : VK} {E : XK} {fn : Fn} {m0 : Fb} {θ0 : List Addr} {H0 : Hp} (hf : P.fns[f]? = some fn) (hi : fn.ini = false) (R : Rep W F θ s σ H) (k0 : Keep m0 θ0 H0 (M0 θ s.ρ σ) θ H) (rs : RepVs W (Mt F θ s.ρ σ) θ H xs vs)
    (q : OkP (PX W F m0 θ0 H0 σ Q) (callG (evFn P rp k) f [] (xs.map AX.d) s)) : spFn W P rp k f vs H Q E := by
  refine ⟨fn, F.own s.ρ σ, θ, xs.map AX.d, s.m, hf, by rw [ax_vals]; exact R.into rs, (callG_ok q).imp fun x s' q v H' θ' rx _ => ?_⟩
  rw [ax_vals] at rx
  rw [hi, if_neg Bool.false_ne_true]
  exact q v H' θ' ((RX.back R rx).from k0)
theorem noStar_all {e : Expr} {es : List Expr} (h : (e :: es).all noStar = true) : noStar e = true ∧ es.all noStar = true := by
  rw [List.all_cons, Bool.and_eq_true] at h; exact h
theorem pe_callF (Hd : HeldF X W P rp k f) (hgd : X.A.guards = some []) (hr : Room k X.A) {x : Str} {p pos : Pos} {fn : Fn} (hf : P.fns[f]? = some fn) (hini : fn.ini = false) (hgc : g.call = evFn P rp k) (hg : Gl X x) (hm : X.mg x = some (.ref (W.fa f))) (hdb : (x == ("__debug__" : Str)) = false) {es : List Expr} {as : List E} (hl : as.length = es.length) (hn : es.all noStar = true) (ha : PA X es (tEs W g as)) :
    PE X (.Call (.Name x p) es [] pos) (tE W (ev g (.call f (as.map A.e)))) := by
  obtain ⟨fd, ps, F, hk, hb, _⟩ := Hd.ex
  have rd : ∀ {σ H Q}, tE W (ev g (.call f (as.map A.e))) σ H Q → tEs W g as σ H fun vs H1 => spFn W P rp k f (vs ++ []) H1 Q fun _ _ _ => False := fun {σ H Q} hq => by
    obtain ⟨F, θ, s, R, q⟩ := hq
    have q := OkP.bind (show OkP (PX W F (M0 θ s.ρ σ) θ H σ Q) ((evA g (as.map A.e) s).bind _) from q)
    rw [evA_map] at q
    refine ⟨F, θ, s, R, (OkP.bind q).imp fun xs s1 q1 vs H1 θ1 R1 k1 rs => ?_⟩
    show spFn W P rp k f (vs ++ []) H1 Q fun _ _ _ => False
    rw [List.append_nil]
    have q1 : OkP (PX W F (M0 θ s.ρ σ) θ H σ Q) (callG g.call f [] (xs.map AX.d) s1) := q1
    rw [hgc] at q1
    exact sp_of hf hini R1 k1 rs q1
  cases es with
  | nil =>
    refine mono (pe_callG0 (E := fun _ _ _ => False) F hgd hr hg hm hk hb .nil (fun _ _ _ _ _ _ _ z => z.elim) hdb) fun σ H Q hq => ?_
    obtain ⟨F, θ, s', R, q⟩ := rd hq
    cases as with
    | nil => exact q [] H θ R .refl .nil
    | cons a as => cases hl
  | cons e es =>
    obtain ⟨h1, h2⟩ := noStar_all hn
    exact mono (pe_callG F hgd hr hg hm hk hb .nil (fun _ _ _ _ _ _ _ z => z.elim) ha hdb (star_of h1) (stars_of h2)) fun σ H Q hq => rd hq
theorem evs_app {g : G} : ∀ {as bs : List E} {s : S}, evs g (as ++ bs) s = (evs g as s).bind fun xs s => (evs g bs s).bind fun ys s => .ok (xs ++ ys) s
  | [], bs, s => by
    show evs g bs s = (evs g bs s).bind fun ys s => .ok ([] ++ ys) s
    cases evs g bs s <;> rfl
  | a :: as, bs, s => by
    show ((ev g a s).bind fun x s => (evs g (as ++ bs) s).bind fun xs s => .ok (x.frz :: xs) s) = (((ev g a s).bind fun x s => (evs g as s).bind fun xs s => .ok (x.frz :: xs) s)).bind _
    cases ev g a s with
    | exc _ _ _ => rfl
    | err => rfl
    | ok x s1 =>
      simp only [Out.bind_ok, evs_app (as := as) (s := s1)]
      cases evs g as s1 with
      | exc _ _ _ => rfl
      | err => rfl
      | ok xs s2 =>
        simp only [Out.bind_ok]
        cases evs g bs s2 <;> rfl
theorem evs_lenE {g : G} : ∀ {as : List E} {s s' : S} {xs : List D}, evs g as s = .ok xs s' → xs.length = as.length
  | [], s, s', xs, h => by cases (show Out.ok [] s = .ok xs s' from h); rfl
  | a :: as, s, s', xs, h => by
    have h : ((ev g a s).bind fun x s => (evs g as s).bind fun xs s => Out.ok (x.frz :: xs) s) = .ok xs s' := h
    cases e1 : ev g a s with
    | exc _ _ _ => rw [e1] at h; cases h
    | err => rw [e1] at h; cases h
    | ok x s1 =>
      rw [e1] at h
      simp only [Out.bind_ok] at h
      cases e2 : evs g as s1 with
      | exc _ _ _ => rw [e2] at h; cases h
      | err => rw [e2] at h; cases h
      | ok ys s2 =>
        rw [e2] at h
        simp only [Out.bind_ok] at h
        cases h
        exact congrArg Nat.succ (evs_lenE e2)
theorem evs_okl {g : G} {as : List E} {s : S} {Q : List D → S → Prop} (h : OkP Q (evs g as s)) : OkP (fun xs s' => xs.length = as.length ∧ Q xs s') (evs g as s) := by
  cases e : evs g as s with
  | exc _ _ _ => rw [e] at h; exact h.elim
  | err => rw [e] at h; exact h.elim
  | ok xs s' => rw [e] at h; exact ⟨evs_lenE e, h⟩
theorem pk_list {kws : List Keyword} {bs : List E} {c : CE} {n : Nat} (h : kws.mapM (fun k => cE c n k.value) = some bs) (he : ∀ e a, cE c n e = some a → PE X e (tE W (ev g a))) : PK X kws (tEs W g bs) := by
  induction kws generalizing bs with
  | nil =>
    simp at h; subst h
    exact PK.mono pk_nil fun σ H Q hq => by
      obtain ⟨F, θ, s', R, q⟩ := hq
      exact q [] H θ R .refl .nil
  | cons k kws ih =>
    rw [List.mapM_cons] at h
    simp only [Option.bind_eq_bind, Option.bind_eq_some_iff, Option.pure_def, Option.some.injEq] at h
    obtain ⟨a, h1, bs, h2, rfl⟩ := h
    obtain ⟨nm, e, kp⟩ := k
    refine PK.mono (pk_cons (he e a h1) (ih h2)) fun σ H Q hq => ?_
    obtain ⟨F, θ, s', R, q⟩ := hq
    refine tE_bind R q fun x s1 v H1 θ1 rx q1 => ?_
    refine ⟨F, θ1, s1, rx.rep, (OkP.bind q1).imp fun xs s2 q2 vs H2 θ2 R2 k2 rs => ?_⟩
    exact q2 (v :: vs) H2 θ2 R2 (rx.keep.trans k2) (.cons (rx.val.keep (Keep.mt rx.rep k2)) rs)
theorem kw_len : ∀ {kws : List Keyword}, kwOk kws = true → (kws.filterMap (·.arg)).length = kws.length
  | [], _ => rfl
  | ⟨nm, e, kp⟩ :: kws, h => by
    unfold kwOk at h
    rw [List.all_cons, Bool.and_eq_true] at h
    cases nm with
    | none => cases h.1
    | some y => exact congrArg Nat.succ (kw_len (kws := kws) h.2)
theorem reps_perm {m : Fb} {θ : List Addr} {H : Hp} : ∀ {ix : List Nat} {xs ys : List D} {zs : List V}, RepVs W m θ H xs zs → permA ix xs = some ys → ∃ zs', permA ix zs = some zs' ∧ RepVs W m θ H ys zs'
  | [], _, _, _, _, h => by cases h; exact ⟨[], rfl, .nil⟩
  | i :: ix, xs, ys, zs, rs, h => by
    unfold permA at h
    split at h
    · rename_i x ys' e1 e2
      cases h
      obtain ⟨zs', e3, r'⟩ := reps_perm rs e2
      obtain ⟨v, hv, r⟩ := rs.get e1
      exact ⟨v :: zs', by unfold permA; rw [hv, e3], .cons r r'⟩
    · cases h
/-- f(e, .., k = v, ..) -/
theorem pe_callKw (Hd : HeldF X W P rp k f) (hgd : X.A.guards = some []) (hr : Room k X.A) {x : Str} {p pos : Pos} {fn : Fn} (hf : P.fns[f]? = some fn) (hini : fn.ini = false) (hgc : g.call = evFn P rp k) (hg : Gl X x) (hm : X.mg x = some (.ref (W.fa f))) (hdb : (x == ("__debug__" : Str)) = false) {es : List Expr} {as bs : List E} {kws : List Keyword} {ps : List Str}
    (hl : as.length = es.length) (hn : es.all noStar = true) (hok : kwOk kws = true) (hps : W.par f = some ps) (hks : kws.filterMap (·.arg) = ps.drop es.length) (hnd : ps.Nodup) (hle : es.length ≤ ps.length) (hbl : bs.length = kws.length) (ha : PA X es (tEs W g as)) (hkw : PK X kws (tEs W g bs)) :
    PE X (.Call (.Name x p) es kws pos) (tE W (ev g (.call f ((as ++ bs).map A.e)))) := by
  obtain ⟨fd, ps', F, hk, hb, hkb⟩ := Hd.ex
  obtain ⟨e1, _⟩ := hkb ps hps
  subst e1
  rw [hps] at hkb
  have rd : ∀ {σ H Q}, tE W (ev g (.call f ((as ++ bs).map A.e))) σ H Q → tEs W g as σ H fun vs H1 => tEs W g bs σ H1 fun zs H2 => ∃ ix zs', KwOk ps (kws.filterMap (·.arg)) vs.length ix ∧ zs.length = (kws.filterMap (·.arg)).length ∧ permA ix zs = some zs' ∧ spFn W P rp k f (vs ++ zs') H2 Q fun _ _ _ => False := fun {σ H Q} hq => by
    obtain ⟨F, θ, s, R, q⟩ := hq
    have q := OkP.bind (show OkP (PX W F (M0 θ s.ρ σ) θ H σ Q) ((evA g ((as ++ bs).map A.e) s).bind _) from q)
    rw [evA_map, evs_app] at q
    refine ⟨F, θ, s, R, (evs_okl (OkP.bind (OkP.bind q))).imp fun xs s1 ⟨hx, q1⟩ vs H1 θ1 R1 k1 rs => ?_⟩
    have lv : vs.length = es.length := by rw [← hl, ← hx, rs.length]
    refine ⟨F, θ1, s1, R1, (evs_okl (OkP.bind q1)).imp fun ys s2 ⟨hy, q2⟩ zs H2 θ2 R2 k2 rz => ?_⟩
    have lk : (kws.filterMap (·.arg)).length = kws.length := kw_len hok
    have lz : zs.length = (kws.filterMap (·.arg)).length := by rw [← rz.length, hy, hbl, lk]
    refine ⟨_, zs, KwOk.plain hnd (by rw [lv]; exact hks) (by rw [lv]; exact hle), lz, by rw [← lz]; exact permA_range zs, ?_⟩
    have q2 : OkP (PX W F (M0 θ s.ρ σ) θ H σ Q) (callG g.call f [] ((xs ++ ys).map AX.d) s2) := q2
    rw [hgc] at q2
    exact sp_of hf hini R2 (k1.trans k2) ((rs.keep (Keep.mt R1 k2)).append rz) q2
  cases es with
  | nil =>
    refine mono (pe_callGk0 (E := fun _ _ _ => False) F hgd hr hg hm hk hkb (fun _ _ _ _ _ _ _ z => z.elim) hkw hok hdb) fun σ H Q hq => ?_
    obtain ⟨F, θ, s', R, q⟩ := rd hq
    cases as with
    | nil => exact q [] H θ R .refl .nil
    | cons a as => cases hl
  | cons e es => exact mono (pe_callGk F hgd hr hg hm hk hkb (fun _ _ _ _ _ _ _ z => z.elim) ha hkw hok hdb hn) fun σ H Q hq => rd hq
theorem evsA_map {g : G} {as : List E} {s : S} {ix : List Nat} {c : List AX → S → Out FX} : ((evA g (as.map A.e) s).bind fun xs s => match permA ix xs with
      | some ys => c ys s
      | none => .err) = (evs g as s).bind fun xs s => match permA ix xs with
      | some ys => c (ys.map AX.d) s
      | none => .err := by
  rw [evA_map]
  cases evs g as s with
  | exc _ _ _ => rfl
  | err => rfl
  | ok xs s1 =>
    simp only [Out.bind_ok, permA_map]
    cases permA ix xs <;> rfl
/-- f(k = v, ..), the names in any order -/
theorem pe_callKp (Hd : HeldF X W P rp k f) (hgd : X.A.guards = some []) (hr : Room k X.A) {x : Str} {p pos : Pos} {fn : Fn} (hf : P.fns[f]? = some fn) (hini : fn.ini = false) (hgc : g.call = evFn P rp k) (hg : Gl X x) (hm : X.mg x = some (.ref (W.fa f))) (hdb : (x == ("__debug__" : Str)) = false) {bs : List E} {kws : List Keyword} {ps : List Str} {ix : List Nat}
    (hok : kwOk kws = true) (hps : W.par f = some ps) (hko : KwOk ps (kws.filterMap (·.arg)) 0 ix) (hbl : bs.length = kws.length) (hkw : PK X kws (tEs W g bs)) :
    PE X (.Call (.Name x p) [] kws pos) (tE W (ev g (.callK f (bs.map A.e) ix))) := by
  obtain ⟨fd, ps', F, hk, hb, hkb⟩ := Hd.ex
  obtain ⟨e1, _⟩ := hkb ps hps
  subst e1
  rw [hps] at hkb
  refine mono (pe_callGk0 (E := fun _ _ _ => False) F hgd hr hg hm hk hkb (fun _ _ _ _ _ _ _ z => z.elim) hkw hok hdb) fun σ H Q hq => ?_
  obtain ⟨F, θ, s, R, q⟩ := hq
  have q : OkP (PX W F (M0 θ s.ρ σ) θ H σ Q) ((evA g (bs.map A.e) s).bind fun xs s => match permA ix xs with
      | some ys => callG g.call f [] ys s
      | none => .err) := q
  rw [evsA_map] at q
  refine ⟨F, θ, s, R, (evs_okl (OkP.bind q)).imp fun xs s1 ⟨hx, q1⟩ zs H1 θ1 R1 k1 rz => ?_⟩
  have lk : (kws.filterMap (·.arg)).length = kws.length := kw_len hok
  have lz : zs.length = (kws.filterMap (·.arg)).length := by rw [← rz.length, hx, hbl, lk]
  cases ep : permA ix xs with
  | none => rw [ep] at q1; exact q1.elim
  | some ys =>
    rw [ep] at q1
    simp only at q1
    rw [hgc] at q1
    obtain ⟨zs', ez, rz'⟩ := reps_perm rz ep
    exact ⟨ix, zs', hko, lz, ez, sp_of hf hini R1 k1 rz' q1⟩
theorem pe_callX {i : Nat} {x : Str} {p pos : Pos} {e : Expr} {es : List Expr} {t : TA} (hgd : X.A.guards = some []) (hr : Room k X.A) (hN : X.N[i]? = some x) (hv : Vis X.env.scope x) (ha : PA X (e :: es) t) (hdb : (x == ("__debug__" : Str)) = false) (hcd : (x == ("__classdict__" : Str)) = false)
    (he : starEach (e :: es) X.env = (false, eval e X.env) :: starEach es X.env) (hpl : ∀ p, (backTo p (starEach es X.env)).any (·.1) = false) : PE X (.Call (.Name x p) (e :: es) [] pos) (fun σ H Q => ∃ f sp kp, σ[i]? = some (some (.ref f)) ∧ HeldN X.prog X.w X.K X.mg X.base k f sp kp ∧ t σ H fun vs H1 => sp vs H1 Q (fun _ _ _ => False)) := by
  refine ⟨fun pins s σ H Q I h => ?_⟩
  obtain ⟨f, sp, kp, hs, Hd, ht⟩ := h
  obtain ⟨fd, ps, F, hk, hb, _⟩ := Hd.ex
  refine (pe_callGL (i := i) (f := f) (sp := sp) (dvs := []) (E := fun _ _ _ => False) F hgd hr hN hv hk hb .nil (fun _ _ _ _ _ _ _ z => z.elim) ha hdb hcd he (hpl _)).run pins s σ H Q I ⟨hs, ?_⟩
  have e0 : (fun (vs : List V) (H1 : Hp) => sp (vs ++ []) H1 Q (fun _ _ _ => False)) = fun vs H1 => sp vs H1 Q (fun _ _ _ => False) := by
    funext vs H1
    rw [List.append_nil]
  show t σ H (fun vs H1 => sp (vs ++ []) H1 Q (fun _ _ _ => False))
  rw [e0]
  exact ht
/-- a closure's promise from the caller's state -/
theorem spC_of {F : Fb} {θ : List Addr} {s : S} {σ : L2.St} {H : Hp} {xs : List D} {vs : List V} {Q : VK} {E : XK} {fn : Fn} {cs : List D} {a : Addr} {m0 : Fb} {θ0 : List Addr} {H0 : Hp} (R : Rep W F θ s σ H) (k0 : Keep m0 θ0 H0 (M0 θ s.ρ σ) θ H) (rs : RepVs W (Mt F θ s.ρ σ) θ H xs vs) (hc : CloR W (Mt F θ s.ρ σ) θ H fn cs a)
    (q : OkP (PX W F m0 θ0 H0 σ Q) (callG (evC P rp k) fn cs (xs.map AX.d) s)) : spC W P rp k fn a vs H Q E := by
  have sub : ∀ b, Mt (F.own s.ρ σ) θ (xs.map Sl.val) (vs.map some) b → Mt F θ s.ρ σ b := fun b z => by
    rcases z with (z | z) | z | z
    · exact .inl z
    · exact .inr (.inr z)
    · exact .inr (.inl z)
    · exact (own_vals z).elim
  exact ⟨F.own s.ρ σ, θ, xs, s.m, cs, R.into rs, hc.keep (keepLess sub), (callG_ok q).imp fun x s' q v H' θ' rx => q v H' θ' ((RX.back R rx).from k0)⟩
theorem clo_at {F : Fb} {θ : List Addr} {s : S} {σ : L2.St} {H : Hp} {i : Nat} {f : Fn} {cs : List D} (R : Rep W F θ s σ H) (e : getN s.ρ i = .clo f cs) : ∃ a, σ[i]? = some (some (.ref a)) ∧ CloR W (Mt F θ s.ρ σ) θ H f cs a := by
  obtain ⟨o, h, r⟩ := R.slot (by rw [e]; intro z; cases z)
  rw [e] at r
  cases o with
  | none => exact r.elim
  | some v =>
    obtain ⟨a, rfl, r⟩ := r
    exact ⟨a, h, r⟩
/-- a call of a def, of a closure that a name holds -/
theorem pe_callV (Hd : ∀ (f : Nat) (fn : Fn), P.fns[f]? = some fn → HeldF X W P rp k f) (Hc : HeldC X.prog X.w X.K X.mg X.base W P rp k) (hgd : X.A.guards = some []) (hr : Room k X.A) {i : Nat} {x : Str} {p pos : Pos} (hgP : g.P = P) (hgc : g.call = evFn P rp k) (hgl : g.clo = evC P rp k) (hN : X.N[i]? = some x) (hv : Vis X.env.scope x) (hdb : (x == ("__debug__" : Str)) = false) (hcd : (x == ("__classdict__" : Str)) = false)
    {es : List Expr} {as : List E} (hl : as.length = es.length) (hn : es.all noStar = true) (ha : PA X es (tEs W g as)) : PE X (.Call (.Name x p) es [] pos) (tE W (ev g (.callv i (as.map A.e)))) := by
  refine ⟨fun pins s0 σ H Q I hq => ?_⟩
  obtain ⟨F, θ, s, R, q⟩ := hq
  have q : OkP (PX W F (M0 θ s.ρ σ) θ H σ Q) (match getN s.ρ i with
      | .val (.fn f) => if isIni g.P f || (as.map A.e).isEmpty then .err else (evA g (as.map A.e) s).bind fun xs s => callG g.call f [] xs s
      | .clo f caps => (evA g (as.map A.e) s).bind fun xs s => callG g.clo f caps xs s
      | _ => .err) := q
  cases e1 : getN s.ρ i with
  | no => rw [e1] at q; exact q.elim
  | own _ => rw [e1] at q; exact q.elim
  | clo f caps =>
    rw [e1] at q
    obtain ⟨a, hs, hc⟩ := clo_at R e1
    have hc' := hc
    obtain ⟨o, fd, fr, cl, c, ws, h1, n1, h2, h3, _⟩ := hc'
    have q := OkP.bind q
    rw [evA_map] at q
    have q2 : tEs W g as σ H fun vs H1 => H1 a = some (ExO a o) ∧ spC W P rp k f a vs H1 Q fun _ _ _ => False := by
      refine ⟨F, θ, s, R, (OkP.bind q).imp fun xs s1 q1 vs H1 θ1 R1 k1 rs => ?_⟩
      have q1 : OkP (PX W F (M0 θ s.ρ σ) θ H σ Q) (callG g.clo f caps (xs.map AX.d) s1) := q1
      rw [hgl] at q1
      exact ⟨(Keep.mt R k1).kp _ _ h1 n1, spC_of R1 k1 rs (hc.keep (Keep.mt R k1)) q1⟩
    cases es with
    | nil =>
      refine (pe_callClo0 Hc hgd hr hN hv hdb hcd).run pins s0 σ H Q I ⟨a, o, fd, f, hs, h1, h3, ?_⟩
      obtain ⟨F', θ', s', R', q'⟩ := q2
      cases as with
      | nil => exact (q' [] H θ' R' .refl .nil).2
      | cons a as => cases hl
    | cons e es =>
      obtain ⟨n1, n2⟩ := noStar_all hn
      exact (pe_callClo Hc hgd hr hN hv ha hdb hcd (star_of n1) fun p => stars_of n2).run pins s0 σ H Q I ⟨a, o, fd, f, hs, h1, h3, q2⟩
  | val d =>
    rw [e1] at q
    cases d with
    | fn f =>
      simp only at q
      split at q
      · exact q.elim
      · rename_i hi
        rw [Bool.or_eq_true, not_or] at hi
        obtain ⟨hi, hem⟩ := hi
        obtain ⟨v, hv', r⟩ := R.val e1
        cases r
        cases e2 : P.fns[f]? with
        | none => exfalso; refine hi ?_; unfold isIni; rw [hgP, e2]
        | some fn =>
          have hini : fn.ini = false := by
            cases z : fn.ini with
            | false => rfl
            | true => exfalso; refine hi ?_; unfold isIni; rw [hgP, e2]; exact z
          have q := OkP.bind q
          rw [evA_map] at q
          cases es with
          | nil =>
            cases as with
            | nil => exact (hem rfl).elim
            | cons a as => cases hl
          | cons e es =>
          obtain ⟨n1, n2⟩ := noStar_all hn
          refine (pe_callX hgd hr hN hv ha hdb hcd (star_of n1) fun p => stars_of n2).run pins s0 σ H Q I ?_
          refine ⟨_, _, _, hv', Hd f fn e2, F, θ, s, R, (OkP.bind q).imp fun xs s1 q1 vs H1 θ1 R1 k1 rs => ?_⟩
          have q1 : OkP (PX W F (M0 θ s.ρ σ) θ H σ Q) (callG g.call f [] (xs.map AX.d) s1) := q1
          rw [hgc] at q1
          exact sp_of e2 hini R1 k1 rs q1
    | _ => exact q.elim
/-- several arguments behind a new object -/
theorem Rep.consNo {F : Fb} {θ : List Addr} {ρ : List Sl} {m : List Ob} {σ : L2.St} {H : Hp} (R : Rep W F θ ⟨ρ, m⟩ σ H) : Rep W F θ ⟨.no :: ρ, m⟩ (none :: σ) H := by
  have o1 : ∀ a, Own (.no :: ρ) (none :: σ) a ↔ Own ρ σ a := fun a => by
    constructor
    · rintro ⟨i, o, e, e'⟩
      cases i with
      | zero => cases e
      | succ i => exact ⟨i, o, e, by simpa using e'⟩
    · rintro ⟨i, o, e, e'⟩
      exact ⟨i + 1, o, e, by simpa using e'⟩
  have m1 : ∀ a, M0 θ (.no :: ρ) (none :: σ) a ↔ M0 θ ρ σ a := fun a => or_congr Iff.rfl (o1 a)
  have sub : ∀ a, Mt F θ (.no :: ρ) (none :: σ) a → Mt F θ ρ σ a := fun a z => z.imp id (m1 a).mp
  refine ⟨congrArg Nat.succ R.len, fun i o e => ?_, R.th, fun l a o e e' => (R.st l a o e e').keep (keepLess sub) fun _ e => e, R.nd, fun i j o o' a e1 e2 e3 e4 => ?_, fun a z => R.ownT a ((o1 a).mp z), fun a f z => R.FT a f ((m1 a).mp z), R.Fd⟩
  · cases i with
    | zero => trivial
    | succ i => exact (R.sl i o (by simpa using e)).less sub
  · cases i with
    | zero => cases e1
    | succ i => cases j with
      | zero => cases e2
      | succ j => exact congrArg Nat.succ (R.own1 i j o o' a e1 e2 (by simpa using e3) (by simpa using e4))
theorem pe_newC (Hd : HeldF X W P rp k f) (hgd : X.A.guards = some []) (hr : Room (k + 1) X.A) {c : Nat} {x : Str} {p pos : Pos} {fn : Fn} (hc : P.init c = some f) (M : Mk X.K (W.ca c) (W.fa f)) (hf : P.fns[f]? = some fn) (hini : fn.ini = true) (hgP : g.P = P) (hgc : g.make = evFn P rp k) (hg : Gl X x) (hm : X.mg x = some (.ref (W.ca c))) (hdb : (x == ("__debug__" : Str)) = false)
    {es : List Expr} {as : List E} (hl : as.length = es.length) (hn : es.all noStar = true) (ha : PA X es (tEs W g as)) : PE X (.Call (.Name x p) es [] pos) (tE W (ev g (.new c (as.map A.e)))) := by
  obtain ⟨fd, ps, F, hk, hb, _⟩ := Hd.ex
  have rd : ∀ {σ H Q}, tE W (ev g (.new c (as.map A.e))) σ H Q → tEs W g as σ H fun vs H1 => ∀ y dx, H1 y = none → H1 dx = none → dx ≠ y → spFn W P rp k f (.ref y :: (vs ++ [])) (upd (upd H1 dx (.own y)) y (.ins (W.ca c) dx [])) (fun v H2 => v = .non ∧ Q (.ref y) H2) fun _ _ _ => False := fun {σ H Q} hq => by
    obtain ⟨F, θ, s, R, q⟩ := hq
    have q := OkP.bind (show OkP (PX W F (M0 θ s.ρ σ) θ H σ Q) ((evA g (as.map A.e) s).bind _) from q)
    rw [evA_map] at q
    refine ⟨F, θ, s, R, (OkP.bind q).imp fun xs s1 q1 vs H1 θ1 R1 k1 rs y dx hy hdx hne => ?_⟩
    rw [List.append_nil]
    have q1 : OkP (PX W F (M0 θ s.ρ σ) θ H σ Q) (match g.P.init c with
      | some f => callG g.make f [] (.own (.ins c []) :: xs.map AX.d) s1
      | none => .err) := q1
    rw [hgP, hc, hgc] at q1
    have q1 : OkP (PX W F (M0 θ s.ρ σ) θ H σ Q) (callG (evFn P rp k) f [] (.own (.ins c []) :: xs.map AX.d) s1) := q1
    -- the heap with the new object
    have Ri := R1.into rs
    have R2 : Rep W (F.own s1.ρ σ) θ1 ⟨xs.map Sl.val, s1.m⟩ (vs.map some) (upd H1 dx (.own y)) := Ri.lay hdx
    have hy2 : upd H1 dx (.own y) y = none := by rw [upd_ne (Ne.symm hne)]; exact hy
    have R3 : Rep W ((F.own s1.ρ σ).and y) θ1 ⟨xs.map Sl.val, s1.m⟩ (vs.map some) (upd (upd H1 dx (.own y)) y (.ins (W.ca c) dx [])) := R2.new hy2 trivial
    have nF : ¬ (F.own s1.ρ σ) y := fun z => Ri.new_free hy (.inl z)
    have Rc := R3.consNo
    obtain ⟨R4, sub4⟩ := Rc.putO (a := y) (o := .ins c []) (i := 0) nF (Nat.succ_pos _) ⟨dx, [], upd_same, rfl, .nil⟩
    have mapE : (AX.own (.ins c []) :: xs.map AX.d).map AX.sl = .own (.ins c []) :: xs.map Sl.val := by rw [List.map_cons, ax_vals]; rfl
    refine ⟨fn, F.own s1.ρ σ, θ1, .own (.ins c []) :: xs.map AX.d, s1.m, hf, by rw [mapE]; exact R4, (callG_ok q1).imp fun r s' q2 v H' θ' rx hv => ?_⟩
    rw [mapE] at rx
    rw [if_pos hini]
    have : v = .ref y := by have := hv hini; exact (Option.some.inj this).symm
    subst this
    refine ⟨rfl, q2 _ H' θ' ?_⟩
    -- from the heap without it
    have kn : Keep (M0 θ1 (xs.map Sl.val) (vs.map some)) θ1 H1 (M0 θ1 (Sl.own (.ins c []) :: xs.map Sl.val) (((V.ref y) :: vs).map some)) θ1 (upd (upd H1 dx (.own y)) y (.ins (W.ca c) dx [])) := by
      refine ⟨fun a o e n => ?_, fun a o e z => ?_, fun _ _ e => e⟩
      · rw [upd_ne (ne_of_none e hy), upd_ne (ne_of_none e hdx)]; exact e
      · rcases sub4 a z with z | z
        · rcases z with z | ⟨i, o', e1, e2⟩
          · exact .inl z
          · cases i with
            | zero => cases e1
            | succ i => exact .inr ⟨i, o', e1, by simpa using e2⟩
        · subst z; rw [hy] at e; cases e
    exact (RX.back (xs := xs) (τ := vs.map some) R1 (rx.from kn)).from k1
  cases es with
  | nil =>
    refine mono (pe_makeG0 (E := fun _ _ _ => False) M F hgd hr hg hm hb .nil (fun _ _ _ _ _ _ _ z => z.elim) hdb) fun σ H Q hq => ?_
    obtain ⟨F, θ, s', R, q⟩ := rd hq
    cases as with
    | nil => exact q [] H θ R .refl .nil
    | cons a as => cases hl
  | cons e es =>
    obtain ⟨h1, h2⟩ := noStar_all hn
    exact mono (pe_makeG M F hgd hr hg hm hb .nil (fun _ _ _ _ _ _ _ z => z.elim) ha hdb (star_of h1) (stars_of h2)) fun σ H Q hq => rd hq
end
end Pv
end

section
set_option Elab.async false
set_option linter.all false
set_option maxRecDepth 100000
set_option maxHeartbeats 4000000
/-! EvCm: a lambda made and handed to a def. -/
namespace Pv
open PySem PySem.Spec PyProof.Rows L2 LamX NdefX
/-- a function object's text and a closure's form -/
def CloT (c : CE) (fn : Fn) (fr : List Str) (cl : List (Str × Addr)) (cd : Addr) (fd : FuncData) : Prop :=
  ∃ (qual : Str) (params : Arguments) (body : Expr) (scope : Scope) (pm ctv : Value) (n : Nat) (b : E), fd = PySem.W.kla_fn "<lambda>" qual params body scope cl pm (.ref cd) ctv ∧ plainArgs params = true ∧ nscB (lamN params scope) (parNames params) fr scope = true ∧
    cE (c.lam (lamN params scope) scope) n body = some b ∧ fn = ⟨false, (parNames params).length, fr.length, (lamN params scope).length, [.ret b]⟩
/-! ### the cells of a closure -/
theorem mem_lk {α β : Type} [BEq α] [LawfulBEq α] : ∀ {l : List (α × β)} {a : α} {b : β}, l.lookup a = some b → (a, b) ∈ l
  | (c, d) :: l, a, b, h => by
    rw [List.lookup_cons] at h
    by_cases e : a = c
    · subst e
      rw [beq_self_eq_true] at h
      cases h
      exact .head _
    · rw [show (a == c) = false by simpa using e] at h
      exact .tail _ (mem_lk h)
def cellT (cl : List (Str × Addr)) (h : Heap) : Tk := (cl.map (·.1)).filterMap fun y => (cl.lookup y).bind fun c => (h.get? c).map (c, ·)
theorem cellT_of {cl : List (Str × Addr)} {h : Heap} {b : Addr} {o : Obj} (e : (cellT cl h).lookup b = some o) : ∃ y, cl.lookup y = some b ∧ h.get? b = some o := by
  have m := mem_lk e
  unfold cellT at m
  rw [List.mem_filterMap] at m
  obtain ⟨y, _, m⟩ := m
  simp only [Option.bind_eq_some_iff, Option.map_eq_some_iff] at m
  obtain ⟨c, h1, o', h2, h3⟩ := m
  cases h3
  exact ⟨y, h1, h2⟩
theorem lookup_of_mem {T : Tk} {h : Heap} {b : Addr} {o : Obj} (hm : (b, o) ∈ T) (hT : ∀ p ∈ T, h.get? p.1 = some p.2) : T.lookup b = some o := by
  induction T with
  | nil => cases hm
  | cons p T ih =>
    obtain ⟨c, o'⟩ := p
    rw [List.lookup_cons]
    by_cases e : b = c
    · subst e
      have h1 := hT _ (.head _)
      have h2 := hT _ hm
      rw [h1] at h2
      simp only [beq_self_eq_true]
      exact h2
    · have : (b == c) = false := by simpa using e
      rw [this]
      refine ih ?_ fun p hp => hT p (.tail _ hp)
      rcases List.mem_cons.mp hm with z | z
      · cases z; exact (e rfl).elim
      · exact z
theorem cellT_has {cl : List (Str × Addr)} {h : Heap} {y : Str} {c : Addr} {o : Obj} (e : cl.lookup y = some c) (e2 : h.get? c = some o) : (cellT cl h).lookup c = some o := by
  refine lookup_of_mem (h := h) ?_ fun p hp => ?_
  · unfold cellT
    rw [List.mem_filterMap]
    refine ⟨y, List.mem_map.mpr ⟨(y, c), PySem.mem_of_lookup e, rfl⟩, ?_⟩
    rw [e, Option.bind_some, e2] <;> rfl
  · unfold cellT at hp
    rw [List.mem_filterMap] at hp
    obtain ⟨y, _, m⟩ := hp
    simp only [Option.bind_eq_some_iff, Option.map_eq_some_iff] at m
    obtain ⟨c', h1, o', h2, h3⟩ := m
    cases h3
    exact h2
/-! ### a frame with one name more -/
section
variable {W : Wr} {F : Fb} {θ : List Addr} {H : Hp}
theorem own_snoc {ρ : List Sl} {σ : L2.St} {x : Sl} {o : Option V} {a : Addr} (hl : ρ.length = σ.length) (hx : ∀ ob, x ≠ .own ob) : Own (ρ ++ [x]) (σ ++ [o]) a ↔ Own ρ σ a := by
  constructor
  · rintro ⟨i, ob, e, e'⟩
    rw [getN_get] at e
    by_cases h : i < ρ.length
    · rw [List.getElem?_append_left h] at e
      rw [List.getElem?_append_left (by rw [← hl]; exact h)] at e'
      exact ⟨i, ob, by rw [getN_get]; exact e, e'⟩
    · rw [List.getElem?_append_right (Nat.le_of_not_lt h)] at e
      cases q : i - ρ.length with
      | zero => rw [q] at e; exact (hx _ e).elim
      | succ n => rw [q] at e; cases e
  · rintro ⟨i, ob, e, e'⟩
    have h : i < ρ.length := getN_lt (by rw [e]; intro z; cases z)
    rw [getN_get] at e
    exact ⟨i, ob, by rw [getN_get, List.getElem?_append_left h]; exact e, by rw [List.getElem?_append_left (by rw [← hl]; exact h)]; exact e'⟩
theorem Rep.snoc {ρ : List Sl} {m : List Ob} {σ : L2.St} {x : Sl} {o : Option V} (R : Rep W F θ ⟨ρ, m⟩ σ H) (hx : ∀ ob, x ≠ .own ob) (r : SltR W (Mt F θ ρ σ) θ H x o) : Rep W F θ ⟨ρ ++ [x], m⟩ (σ ++ [o]) H := by
  have hl : ρ.length = σ.length := R.len
  have o1 : ∀ a, Own (ρ ++ [x]) (σ ++ [o]) a ↔ Own ρ σ a := fun a => own_snoc hl hx
  have m1 : ∀ a, M0 θ (ρ ++ [x]) (σ ++ [o]) a ↔ M0 θ ρ σ a := fun a => or_congr Iff.rfl (o1 a)
  have sub : ∀ a, Mt F θ (ρ ++ [x]) (σ ++ [o]) a → Mt F θ ρ σ a := fun a z => z.imp id (m1 a).mp
  have gl : ∀ {i}, i < ρ.length → getN (ρ ++ [x]) i = getN ρ i := fun {i} h => by rw [getN_get, getN_get, List.getElem?_append_left h]
  have lt : ∀ {i ob}, getN (ρ ++ [x]) i = .own ob → i < ρ.length := fun {i ob} e => by
    refine Nat.lt_of_not_le fun h => ?_
    rw [getN_get, List.getElem?_append_right h] at e
    cases q : i - ρ.length with
    | zero => rw [q] at e; exact hx _ e
    | succ n => rw [q] at e; cases e
  refine ⟨by simp [hl], fun i u e => ?_, R.th, fun l a o e e' => (R.st l a o e e').keep (keepLess sub) fun _ e => e, R.nd, fun i j o o' a e1 e2 e3 e4 => ?_, fun a z => R.ownT a ((o1 a).mp z), fun a f z => R.FT a f ((m1 a).mp z), R.Fd⟩
  · show SltR W _ θ H (getN (ρ ++ [x]) i) u
    by_cases h : i < ρ.length
    · rw [gl h]
      rw [List.getElem?_append_left (by rw [← hl]; exact h)] at e
      exact (R.sl i u e).less sub
    · rw [List.getElem?_append_right (by rw [← hl]; exact Nat.le_of_not_lt h)] at e
      rw [getN_get, List.getElem?_append_right (Nat.le_of_not_lt h), hl]
      cases q : i - σ.length with
      | zero => rw [q] at e; cases e; exact r.less sub
      | succ n => rw [q] at e; cases e
  · have l1 := lt e1
    have l2 := lt e2
    have e1 : getN (ρ ++ [x]) i = .own o := e1
    have e2 : getN (ρ ++ [x]) j = .own o' := e2
    rw [gl l1] at e1
    rw [gl l2] at e2
    rw [List.getElem?_append_left (by rw [← hl]; exact l1)] at e3
    rw [List.getElem?_append_left (by rw [← hl]; exact l2)] at e4
    exact R.own1 i j o o' a e1 e2 e3 e4
end
/-! ### a table's step -/
structure TabStep (W : Wr) (t : Nat) (H H1 : Hp) (c' : Addr) (q : Str) : Prop where
  ex : H1 = H ∧ H c' = some (CodeO c' q) ∨ ∃ ps' : Array Value, H1 = upd (upd H (W.tab t) (.tbl ps')) c' (CodeO c' q) ∧ H c' = none ∧ c' ≠ W.tab t ∧ TriplesOk ps'.toList ∧
    ∃ ps : Array Value, H (W.tab t) = some (.tbl ps) ∧ ∀ (p : Pos) (cv : Value), codeAmong p ps'.toList = some cv → codeAmong p ps.toList = some cv ∨ (cv = .ref c' ∧ W.tnm t p.line p.col = q)
theorem Rep.tabStep {W : Wr} {F : Fb} {θ : List Addr} {s : S} {σ : L2.St} {H H1 : Hp} {t : Nat} {c' : Addr} {q : Str} (R : Rep W F θ s σ H) (ht : s.m[t]? = some (.tbl t)) (T : TabStep W t H H1 c' q) : Rep W F θ s σ H1 ∧ Keep (M0 θ s.ρ σ) θ H (M0 θ s.ρ σ) θ H1 := by
  rcases T.ex with ⟨rfl, _⟩ | ⟨ps', rfl, hn, hne, htr, ps, hp, ha⟩
  · exact ⟨R, .refl⟩
  · have hlt : t < θ.length := by rw [R.th]; exact (List.getElem?_eq_some_iff.mp ht).1
    have hθ : θ[t]? = some (θ[t]) := List.getElem?_eq_getElem hlt
    have ob := R.st t _ _ hθ ht
    have eb : θ[t] = W.tab t := ob.1
    rw [eb] at hθ ob
    obtain ⟨_, ps0, e0, _, ha0⟩ := ob
    rw [hp] at e0
    cases e0
    have R1 := R.lay (u := CodeO c' q) hn
    have k1 := (Keep.newM (u := CodeO c' q) R hn).less (m'' := M0 θ s.ρ σ) fun b z => .inl z
    have comm : upd (upd H (W.tab t) (.tbl ps')) c' (CodeO c' q) = upd (upd H c' (CodeO c' q)) (W.tab t) (.tbl ps') := by
      funext b
      unfold upd
      by_cases h1 : b = c'
      · subst h1; rw [if_pos rfl, if_neg hne, if_pos rfl]
      · rw [if_neg h1]
        by_cases h2 : b = W.tab t
        · rw [if_pos h2, if_pos h2]
        · rw [if_neg h2, if_neg h2, if_neg h1]
    have hc0 : ¬ Mt F θ s.ρ σ c' := R.new_free hn
    obtain ⟨R2, k2⟩ := R1.chgT (o' := .tbl t) (u := .tbl ps') hθ ht trivial fun m' θ' H'' kp eH => by
      refine ⟨rfl, ps', by rw [eH]; exact upd_same, htr, fun p cv hcv => ?_⟩
      have kc : H'' c' = some (CodeO c' q) ∧ ¬ m' c' := ⟨kp.kp _ _ upd_same hc0, fun z => hc0 (kp.mm _ _ upd_same z)⟩
      rcases ha p cv hcv with z | ⟨z1, z2⟩
      · obtain ⟨c, e1, e2, n2⟩ := ha0 p cv z
        have e3 : upd H c' (CodeO c' q) c = some (CodeO c (W.tnm t p.line p.col)) := by rw [upd_ne (ne_of_none e2 hn)]; exact e2
        exact ⟨c, e1, kp.kp _ _ e3 n2, fun z => n2 (kp.mm _ _ e3 z)⟩
      · exact ⟨c', z1, by rw [z2]; exact kc.1, kc.2⟩
    have em : s.m.set t (.tbl t) = s.m := by
      obtain ⟨hl, he⟩ := List.getElem?_eq_some_iff.mp ht
      have := List.set_getElem_self hl
      rw [he] at this
      exact this
    rw [em] at R2
    rw [comm]
    exact ⟨R2, k1.trans k2⟩
/-! ### the making -/
section
variable {X : Cx} {pins : List (Addr × Obj)} {σ : L2.St} {H : Hp} {s : Shared} {W : Wr}
theorem mk_lam {t : Nat} {c : Addr} {params : Arguments} {body : Expr} {scope : Scope} {pos : Pos} {E : Value → Shared → Prop} {Q : Value → Shared → Prop} {ps : Array Value} (I : Inv X pins σ H s) (TB : TabB X.base X.mg c (W.tab t)) (hcode : X.env.code = .ref c) (hP : H (W.tab t) = some (.tbl ps)) (ht : TriplesOk ps.toList)
    (ha : ∀ (p : Pos) (cv : Value), codeAmong p ps.toList = some cv → ∃ c, cv = .ref c ∧ H c = some (CodeO c (W.tnm t p.line p.col))) (hn : W.tnm t pos.line pos.col = X.env.qual ++ "<lambda>") (hdef : defaultsOf params X.env = ([], [])) (hfree : ∀ y ∈ scope.names, y.2 = .free → ∃ c, X.env.cells.lookup y.1 = some c)
    (h : ∀ (f c' : Addr) (pm ctv : Value) (H1 : Hp) (s' : Shared), Inv X pins σ H1 s' → TabStep W t H H1 c' (X.env.qual ++ "<lambda>") →
      s'.heap.get? f = some (PySem.W.kla_obj "<lambda>" (X.env.qual ++ "<lambda>") params body scope (cloFrom X.env.cells scope.names []) pm c' ctv) → H1 f = none → f ∉ frs X.stack → X.base.get? f = none → (codeAmong pos ps.toList = some (.ref c') ∨ H c' = none) → H1 c' = some (CodeO c' (X.env.qual ++ "<lambda>")) → Q (.ref f) s') :
    wpAny (model X.prog X.w) X.A (eval (.Lambda params body scope pos) X.env) Q E s := by
  refine PySem.W.kla_eval hdef ?_
  have bP : s.heap.BuiltinsAt X.mg (W.tab t) := TB.bm.keeps I.bk
  have hP' : s.heap.get? (W.tab t) = some { cls := .none, data := .fields ps } := I.hok _ _ hP
  have nofr : ∀ f, s.heap.objs.size ≤ f → f ∉ frs X.stack := fun f hf z => by
    rcases List.mem_cons.mp (I.stkSub _ z) with e | e
    · have h1 := I.lt
      rw [← e] at h1
      exact Nat.lt_irrefl _ (Nat.lt_of_lt_of_le h1 hf)
    · exact I.nofs hf e
  have nobs : ∀ f, s.heap.objs.size ≤ f → X.base.get? f = none := fun f hf => Heap.get?_none_of_le (Nat.le_trans (Nat.le_trans I.ok.bsz I.sz) hf)
  cases hc : codeAmong pos ps.toList with
  | none =>
    refine PySem.W.kla_makeFunction (mg := X.mg) (c := c) (P := W.tab t) (ps := ps) (closure_ok hfree) I.ok.glob (I.mod.glob.keeps I.bk) hcode (TB.code.keeps I.bk) hP' ht hc TB.gP bP fun c' ctv h' tk hx hge hlt hrec htb => ?_
    obtain ⟨c2, oc, vs, tq, e2, hoc, hd, hv⟩ := hrec
    cases e2
    have hsz : s.heap.objs.size ≤ h'.objs.size := Nat.le_trans hge (Nat.le_of_lt hlt)
    have nC : H c' = none := I.hok.fresh hge
    have I1 := inv_table (t' := tk) (more := #[rawInt pos.line, rawInt pos.col, .ref c']) (h' := h'.push (PySem.W.kla_obj "<lambda>" (X.env.qual ++ "<lambda>") params body scope (cloFrom X.env.cells scope.names []) ((X.mg "__name__").getD .none) c' ctv)) I hP
      (fun b o hb e => Heap.get?_push_of_some _ (hx b o hb e)) (Heap.get?_push_of_some _ htb) hge ⟨oc, vs, tq, Heap.get?_push_of_some _ hoc, hd, hv⟩
    have eL : (ps ++ #[rawInt pos.line, rawInt pos.col, .ref c']).toList = ps.toList ++ [rawInt pos.line, rawInt pos.col, .ref c'] := by simp
    refine h h'.objs.size c' ((X.mg "__name__").getD .none) ctv _ _ I1 ⟨.inr ⟨_, rfl, nC, fun z => ?_, by rw [eL]; exact PySem.TriplesOk_snoc _ _ _ _ ht, ps, hP, fun p cv hcv => ?_⟩⟩ (Heap.get?_push_size _ rfl) ?_ (nofr _ hsz) (nobs _ hsz) (.inr nC) upd_same
    · rw [z, hP] at nC; cases nC
    · rw [eL] at hcv
      rcases among_app2 _ ht hcv with z | ⟨z, z1, z2⟩
      · exact .inl z
      · exact .inr ⟨z, by rw [← z1, ← z2]; exact hn⟩
    · have n1 : h'.objs.size ≠ c' := Nat.ne_of_gt hlt
      have n2 : h'.objs.size ≠ W.tab t := Nat.ne_of_gt (Nat.lt_of_lt_of_le (Heap.lt_size hP') hsz)
      rw [upd_ne n1, upd_ne n2]
      exact I.hok.fresh hsz
  | some cv =>
    obtain ⟨c', e, hco⟩ := ha pos cv hc
    subst e
    rw [hn] at hco
    refine PySem.W.kla_makeFunctionHit (mg := X.mg) (c := c) (P := W.tab t) (ps := ps) (closure_ok hfree) I.ok.glob (I.mod.glob.keeps I.bk) hcode (TB.code.keeps I.bk) hP' ht hc bP fun ctv h' tk hx hsz => ?_
    have I1 : Inv X pins σ H { s with heap := h'.push (PySem.W.kla_obj "<lambda>" (X.env.qual ++ "<lambda>") params body scope (cloFrom X.env.cells scope.names []) ((X.mg "__name__").getD .none) c' ctv), toks := tk } := I.kept fun b o e => Heap.get?_push_of_some _ (hx b o e)
    exact h h'.objs.size c' ((X.mg "__name__").getD .none) ctv H _ I1 ⟨.inl ⟨rfl, hco⟩⟩ (Heap.get?_push_size _ rfl) (I.hok.fresh hsz) (nofr _ hsz) (nobs _ hsz) (.inl hc) hco
end
end Pv
end

section
set_option Elab.async false
set_option linter.all false
set_option maxRecDepth 100000
set_option maxHeartbeats 4000000
/-! EvCn: f(.., lambda ..: ..). -/
namespace Pv
open PySem PySem.Spec PyProof.Rows L2 LamX NdefX
section
variable {X : Cx} {W : Wr} {P : Prog} {rp : D → Option Str} {k : Nat} {g : G}
theorem caps_vals {F : Fb} {θ : List Addr} {s : S} {σ : L2.St} {H : Hp} (R : Rep W F θ s σ H) : ∀ {caps : List Nat} {cs : List D}, capsOf s caps = some cs → ∃ ws, RepVs W (Mt F θ s.ρ σ) θ H cs ws ∧ ws.length = caps.length ∧ ∀ i j : Nat, caps[i]? = some j → ∃ v, ws[i]? = some v ∧ σ[j]? = some (some v)
  | [], cs, h => by
    cases (show some [] = some cs from h)
    exact ⟨[], .nil, rfl, fun i j e => by simp at e⟩
  | j :: caps, cs, h => by
    unfold capsOf at h
    cases e1 : getN s.ρ j with
    | no => rw [e1] at h; cases h
    | own _ => rw [e1] at h; cases h
    | clo _ _ => rw [e1] at h; cases h
    | val d =>
      rw [e1] at h
      cases e2 : capsOf s caps with
      | none => rw [e2] at h; cases h
      | some xs =>
        rw [e2] at h
        cases h
        obtain ⟨ws, h1, h2, h3⟩ := caps_vals R e2
        obtain ⟨v, hv, r⟩ := R.val e1
        refine ⟨v :: ws, .cons r h1, congrArg Nat.succ h2, fun i j' e => ?_⟩
        cases i with
        | zero => simp at e; subst e; exact ⟨v, rfl, hv⟩
        | succ i => obtain ⟨v', q1, q2⟩ := h3 i j' (by simpa using e); exact ⟨v', by simpa using q1, q2⟩
theorem fields_no {o : Obj} {vs : Array Value} (h : o.data = .fields vs) (hk : (∃ u, o.data = .cell u) ∨ ∃ fd, o.data = .func fd) : False := by
  rcases hk with ⟨u, e⟩ | ⟨fd, e⟩ <;> rw [h] at e <;> cases e
/-- the call, the lambda made -/
theorem lam_fin {pins : List (Addr × Obj)} {σ : L2.St} {H1 : Hp} {s' : Shared} {F : Fb} {θ : List Addr} {s1 : S} {m0 : Fb} {θ0 : List Addr} {H0 : Hp} {xs : List D} {vs : List V} {us0 : List Value} {Q : VK} {fn fnl : Fn} {f f' c' : Nat} {cs : List D} {caps : List Nat} {fr ps : List Str} {N : List Str}
    {params : Arguments} {body : Expr} {scope : Scope} {pm ctv : Value}
    (Hd : HeldF X W P rp k f) (hgd : X.A.guards = some []) (hr : Room k X.A) (hf : P.fns[f]? = some fn) (hini : fn.ini = false)
    (I : Inv X pins σ H1 s') (R : Rep W F θ s1 σ H1) (k0 : Keep m0 θ0 H0 (M0 θ s1.ρ σ) θ H1) (rs : RepVs W (Mt F θ s1.ρ σ) θ H1 xs vs) (rv : Vals vs us0)
    (hob : s'.heap.get? f' = some (PySem.W.kla_obj "<lambda>" (X.env.qual ++ "<lambda>") params body scope (cloFrom X.env.cells scope.names []) pm c' ctv)) (hf0 : H1 f' = none) (hfr : f' ∉ frs X.stack) (hbs : X.base.get? f' = none)
    (hco : H1 c' = some (CodeO c' (X.env.qual ++ "<lambda>"))) (nco : ¬ Mt F θ s1.ρ σ c')
    (hcl : W.cloP fnl fr (cloFrom X.env.cells scope.names []) c' (PySem.W.kla_fn "<lambda>" (X.env.qual ++ "<lambda>") params body scope (cloFrom X.env.cells scope.names []) pm (.ref c') ctv))
    (hcaps : capsOf s1 caps = some cs) (hat : caps.map (fun j => X.N[j]?) = fr.map some) (hS : NScope N ps fr scope) (hkin : ∀ y ∈ fr, X.env.scope.names.lookup y = some .cell ∧ X.fn y = true)
    (q : OkP (PX W F m0 θ0 H0 σ Q) (callG (evFn P rp k) f [] (xs.map AX.d ++ [.clo fnl cs]) s1)) :
    wpAny (model X.prog X.w) X.A (call (.ref (W.fa f)) (us0 ++ [.ref f'])) (EP X pins σ Q) X.xe s' := by
  obtain ⟨fd, pps, FG, hk, hb, _⟩ := Hd.ex
  have hfree : ∀ y ∈ scope.names, y.2 = .free → ∃ c, X.env.cells.lookup y.1 = some c := fun y hy e => I.ok.has _ (.inl (hkin _ (hS.free y hy e)).1)
  have clm : ∀ {y c}, (cloFrom X.env.cells scope.names []).lookup y = some c → X.env.cells.lookup y = some c ∧ y ∈ fr := fun {y c} e => by
    refine ⟨clo_cm hfree e, ?_⟩
    rcases cloFrom_mem (PySem.mem_of_lookup e) with hm | ⟨h1, h2⟩
    · cases hm
    · exact hS.free _ h1 rfl
  -- what is tracked for the call
  let cl := cloFrom X.env.cells scope.names []
  let of : Obj := PySem.W.kla_obj "<lambda>" (X.env.qual ++ "<lambda>") params body scope cl pm c' ctv
  let T : Tk := (f', of) :: cellT cl s'.heap
  have Tget : ∀ b o, T.lookup b = some o → (b = f' ∧ o = of) ∨ ∃ y, cl.lookup y = some b ∧ s'.heap.get? b = some o := fun b o e => by
    have e : ((f', of) :: cellT cl s'.heap).lookup b = some o := e
    rw [List.lookup_cons] at e
    by_cases z : b = f'
    · subst z
      rw [beq_self_eq_true] at e
      exact .inl ⟨rfl, (Option.some.inj e).symm⟩
    · rw [show (b == f') = false by simpa using z] at e
      exact .inr (cellT_of e)
  have Tget2 : ∀ b o, T.lookup b = some o → s'.heap.get? b = some o := fun b o e => by
    rcases Tget b o e with ⟨rfl, rfl⟩ | ⟨y, _, h⟩
    · exact hob
    · exact h
  have Tcell : ∀ y c o, cl.lookup y = some c → s'.heap.get? c = some o → T.lookup c = some o := fun y c o e e2 => by
    refine lookup_of_mem (h := s'.heap) (.tail _ (mem_lk (cellT_has e e2))) fun p hp => ?_
    rcases List.mem_cons.mp hp with rfl | hp
    · exact hob
    · unfold cellT at hp
      rw [List.mem_filterMap] at hp
      obtain ⟨y', _, m⟩ := hp
      simp only [Option.bind_eq_some_iff, Option.map_eq_some_iff] at m
      obtain ⟨c2, h1, o', h2, h3⟩ := m
      cases h3
      exact h2
  have Tf : T.lookup f' = some of := by
    show ((f', of) :: cellT cl s'.heap).lookup f' = some of
    rw [List.lookup_cons, beq_self_eq_true]
  have cab : ∀ y c, cl.lookup y = some c → X.s_0.heap.objs.size ≤ c := fun y c e => I.ok.cab y c (hkin y (clm e).2).2 (clm e).1
  have Tnon : ∀ b o, T.lookup b = some o → H1 b = none := fun b o e => by
    rcases Tget b o e with ⟨rfl, rfl⟩ | ⟨y, h, _⟩
    · exact hf0
    · exact I.freeC y b (clm h).1
  have tk : TkOk T X.base X.stack s' H1 := by
    refine ⟨Tnon, Tget2, fun b o e => ?_, fun b o e => ?_⟩
    · rcases Tget b o e with ⟨rfl, rfl⟩ | ⟨y, h, _⟩
      · exact hfr
      · intro z
        rcases List.mem_cons.mp (I.stkSub _ z) with e2 | e2
        · exact I.cne y b (clm h).1 e2
        · obtain ⟨_, o2, ho2, _⟩ := I.ok.funs.mem e2
          exact Nat.lt_irrefl _ (Nat.lt_of_lt_of_le (Heap.lt_size ho2) (cab y b h))
    · rcases Tget b o e with ⟨rfl, rfl⟩ | ⟨y, h, _⟩
      · exact hbs
      · exact Heap.get?_none_of_le (Nat.le_trans I.ok.bsz (cab y b h))
  have Tkind : ∀ b o, T.lookup b = some o → (∃ u, o.data = .cell u) ∨ ∃ fd, o.data = .func fd := fun b o e => by
    rcases Tget b o e with ⟨rfl, rfl⟩ | ⟨y, h, h2⟩
    · exact .inr ⟨_, rfl⟩
    · obtain ⟨v, o2, h3, h4⟩ := I.cell y b (clm h).1
      rw [h2] at h3; cases h3
      exact .inl ⟨v, h4⟩
  have hn0 : ∀ b o, H1 b = some o → trk H1 T b = some o := fun b o e => by rw [trk_ne (lk_none Tnon e)]; exact e
  -- the callee's frame
  obtain ⟨ws, rw1, rw2, rw3⟩ := caps_vals R hcaps
  have Ri := R.into rs
  have noC : ∀ i f cs, getN (⟨xs.map Sl.val, s1.m⟩ : S).ρ i ≠ .clo f cs := fun i f cs z => by
    have z : getN (xs.map Sl.val) i = .clo f cs := z
    rw [getN_get, List.getElem?_map] at z
    cases e : xs[i]? with
    | none => rw [e] at z; cases z
    | some x => rw [e] at z; cases z
  have Rm := Ri.mv (H' := trk H1 T) (fun b o e _ => hn0 b o e) (fun c q e => hn0 _ _ e) (fun a o _ e => hn0 _ _ e) noC
  have sub : ∀ b, Mt (F.own s1.ρ σ) θ (xs.map Sl.val) (vs.map some) b → Mt F θ s1.ρ σ b := fun b z => by
    rcases z with (z | z) | z | z
    · exact .inl z
    · exact .inr (.inr z)
    · exact .inr (.inl z)
    · exact (own_vals z).elim
  have nT : ∀ b o, T.lookup b = some o → ¬ Mt F θ s1.ρ σ b := fun b o e => R.new_free (Tnon b o e)
  have hclo : CloR W (Mt (F.own s1.ρ σ) θ (xs.map Sl.val) (vs.map some)) θ (trk H1 T) fnl cs f' := by
    refine ⟨of, _, fr, cl, c', ws, trk_at Tf, fun z => nT _ _ Tf (sub _ z), rfl, rfl, hcl, hn0 _ _ hco, fun z => nco (sub _ z), (rw1.keep (keepLess sub)).mv fun b o e _ => hn0 b o e, ?_, fun y c e => ?_, fun x y c e1 e2 => I.ok.inj x y c (clm e1).1 (clm e2).1, fun i y e => ?_⟩
    · rw [rw2]
      have := congrArg List.length hat
      rwa [List.length_map, List.length_map] at this
    · obtain ⟨v, o, h1, h2⟩ := I.cell y c (clm e).1
      have ht := Tcell y c o e h1
      exact ⟨fun z => nT _ _ ht (sub _ z), o, v, trk_at ht, h2⟩
    · have e2 : (caps.map fun j => X.N[j]?)[i]? = some (some y) := by rw [hat, List.getElem?_map, e] <;> rfl
      rw [List.getElem?_map] at e2
      cases ej : caps[i]? with
      | none => rw [ej] at e2; cases e2
      | some j =>
        rw [ej] at e2
        have hj : X.N[j]? = some y := Option.some.inj (show some (X.N[j]?) = some (some y) from e2)
        have hy : y ∈ fr := List.mem_of_getElem? e
        obtain ⟨a, ha⟩ := I.ok.has y (.inl (hkin y hy).1)
        have hca : cl.lookup y = some a := clo_has hfree (PySem.mem_of_lookup (hS.frk y hy)) ha
        refine ⟨a, hca, fun v ev => ?_⟩
        obtain ⟨v', q1, q2⟩ := rw3 i j ej
        rw [ev] at q1
        cases q1
        obtain ⟨mm, hn, hl⟩ := I.loc
        obtain ⟨u, r, l⟩ := hl j y v hj q2 (.inr (.inl (hkin y hy).1))
        rcases l with ⟨z, _⟩ | ⟨_, a', ha', o, hcell, hdat⟩
        · have z : X.env.scope.names.lookup y = some .local := z
          rw [(hkin y hy).1] at z; cases z
        · rw [ha] at ha'
          cases ha'
          exact ⟨o, u, trk_at (Tcell y a o hca hcell), hdat, r⟩
  have Rc : Rep W (F.own s1.ρ σ) θ ⟨xs.map Sl.val ++ [.clo fnl cs], s1.m⟩ (vs.map some ++ [some (.ref f')]) (trk H1 T) := Rm.snoc (fun ob z => by cases z) ⟨f', rfl, hclo⟩
  have mapE : (xs.map AX.d ++ [AX.clo fnl cs]).map AX.sl = xs.map Sl.val ++ [.clo fnl cs] := by rw [List.map_append, ax_vals]; rfl
  have mapV : (vs ++ [V.ref f']).map some = vs.map some ++ [some (.ref f')] := by rw [List.map_append]; rfl
  have m0e : ∀ b, M0 θ (xs.map Sl.val ++ [.clo fnl cs]) (vs.map some ++ [some (.ref f')]) b ↔ M0 θ (xs.map Sl.val) (vs.map some) b := fun b => or_congr Iff.rfl (own_snoc (by rw [List.length_map, List.length_map]; exact rs.length) fun ob z => by cases z)
  -- the promise
  have sp : spFn W P rp k f (vs ++ [.ref f']) (trk H1 T) (fun v H2 => (∀ b o, T.lookup b = some o → H2 b = some (ExO b o)) ∧ ((∀ c q, H2 c = some (CodeO c q) → T.lookup c = none) → Q v (dlt H2 T))) fun _ _ _ => False := by
    refine ⟨fn, F.own s1.ρ σ, θ, xs.map AX.d ++ [.clo fnl cs], s1.m, hf, by rw [mapE, mapV]; exact Rc, (callG_ok q).imp fun x s2 q2 v H' θ' rx _ => ?_⟩
    rw [mapE, mapV] at rx
    rw [hini, if_neg Bool.false_ne_true]
    have rx1 : RX W (F.own s1.ρ σ) (M0 θ (xs.map Sl.val) (vs.map some)) θ (trk H1 T) θ' ⟨[], s2.m⟩ [] H' x v := rx.from (keepLess fun b z => (m0e b).mp z)
    have hT2 : ∀ b o, T.lookup b = some o → H' b = some (ExO b o) := fun b o e => rx1.keep.kp b _ (trk_at e) fun z => nT b o e (sub b (.inr z))
    refine ⟨hT2, fun hc => ?_⟩
    have rx2 := rx_dlt Tnon hT2 (fun b o e z => nT b o e (sub b (.inl z))) hc rx1
    exact q2 v (dlt H' T) θ' ((RX.back (xs := xs) (τ := vs.map some) R rx2).from k0)
  have hl : (vs ++ [V.ref f']).length = pps.length := FG.len _ _ _ _ sp
  have rv2 : Vals (vs ++ [.ref f']) (us0 ++ [.ref f']) := rv.append (.cons rfl .nil)
  have bd := hb s' (us0 ++ [.ref f']) I.kIn (by rw [List.append_nil, ← rv2.length]; exact hl)
  rw [List.append_nil] at bd
  refine wpAny_call (codeAny_mono (FG.run X.A X.stack s' (trk H1 T) ⟨us0 ++ [.ref f'], []⟩ (us0 ++ [.ref f']) (vs ++ [.ref f']) _ _ hgd hr (env0_trk I.env0 tk) bd rv2 sp) fun r s2 hq => ?_)
  cases r with
  | error e => exact (show False from hq).elim
  | ok fl =>
    cases fl with
    | next => exact False.elim hq
    | brk => exact False.elim hq
    | cont => exact False.elim hq
    | ret u =>
      refine I.after (ce_untrack tk hq fun v H2 hok2 hq2 => ⟨hq2.1, hq2.2 fun c qn e => ?_⟩)
      cases z : T.lookup c with
      | none => rfl
      | some o =>
        exfalso
        have e2 := exO_at hok2 (hq2.1 c o z)
        obtain ⟨c2, oc, vs2, tq, e3, e4, e5, _⟩ := codeO_at hok2 e
        cases e3
        rw [e2] at e4
        cases e4
        exact fields_no e5 (Tkind c o z)
/-! ### arguments, a lambda behind them -/
abbrev TL := L2.St → Hp → (Value → Hp → Shared → Prop) → Prop
structure PV (X : Cx) (l : Expr) (tl : TL) : Prop where
  run : ∀ (pins : List (Addr × Obj)) (s : Shared) (σ : L2.St) (H : Hp) (Q : Value → Hp → Shared → Prop), Inv X pins σ H s → tl σ H Q → wpAny (model X.prog X.w) X.A (eval l X.env) (fun v s' => ∃ H', Inv X pins σ H' s' ∧ Q v H' s') X.xe s
structure PAL (X : Cx) (es : List Expr) (l : Expr) (t : L2.St → Hp → (List V → Value → Hp → Shared → Prop) → Prop) : Prop where
  run : ∀ (pos : Pos) (pins : List (Addr × Obj)) (s : Shared) (σ : L2.St) (H : Hp) (Q : List V → Value → Hp → Shared → Prop), Inv X pins σ H s → t σ H Q →
    wpAny (model X.prog X.w) X.A (spliced (backTo pos (starEach (es ++ [l]) X.env))) (fun us s' => ∃ us0 u vs H', us = us0 ++ [u] ∧ Inv X pins σ H' s' ∧ Vals vs us0 ∧ Q vs u H' s') X.xe s
theorem pal_list {l : Expr} {tl : TL} (hl : noStar l = true) (h : PV X l tl) {c : CE} {n : Nat} (he : ∀ e a, cE c n e = some a → PE X e (tE W (ev g a))) : ∀ {es : List Expr} {as : List E}, es.all noStar = true → es.mapM (cE c n) = some as → PAL X es l (fun σ H Q => tEs W g as σ H fun vs H' => tl σ H' (Q vs))
  | [], as, _, hm => by
    simp at hm; subst hm
    refine ⟨fun pos pins s σ H Q I hq => ?_⟩
    obtain ⟨F, θ, s', R, q⟩ := hq
    have ht : tl σ H (Q []) := q [] H θ R .refl .nil
    rw [List.nil_append, star_of hl]
    show wpAny _ _ (spliced ((false, eval l X.env) :: backTo pos (starEach [] X.env))) _ _ s
    refine Calls.spliced_cons (wpAny_mono (h.run pins s σ H (Q []) I ht) (fun v s1 ⟨H', J, q1⟩ => ?_) fun _ _ x => x)
    exact Calls.spliced_nil ⟨[], v, [], H', rfl, J, .nil, q1⟩
  | e :: es, as, hn, hm => by
    obtain ⟨n1, n2⟩ := noStar_all hn
    rw [List.mapM_cons] at hm
    simp only [Option.bind_eq_bind, Option.bind_eq_some_iff, Option.pure_def, Option.some.injEq] at hm
    obtain ⟨a, h1, bs, h2, rfl⟩ := hm
    have ih := pal_list hl h he n2 h2
    refine ⟨fun pos pins s σ H Q I hq => ?_⟩
    obtain ⟨F, θ, s', R, q⟩ := hq
    have q2 : tE W (ev g a) σ H fun v H1 => tEs W g bs σ H1 fun vs H2 => tl σ H2 (Q (v :: vs)) := by
      refine tE_bind R q fun x s1 v H1 θ1 rx q1 => ?_
      refine ⟨F, θ1, s1, rx.rep, (OkP.bind q1).imp fun xs s2 q2 vs H2 θ2 R2 k2 rs => ?_⟩
      exact q2 (v :: vs) H2 θ2 R2 (rx.keep.trans k2) (.cons (rx.val.keep (Keep.mt rx.rep k2)) rs)
    rw [List.cons_append, star_of n1]
    show wpAny _ _ (spliced ((false, eval e X.env) :: backTo pos (starEach (es ++ [l]) X.env))) _ _ s
    refine Calls.spliced_cons (thn ((he e a h1).run pins s σ H _ I q2) fun u s1 ⟨v, H1, I1, rv, q3⟩ => ?_)
    refine wpAny_mono (ih.run pos pins s1 σ H1 (fun vs => Q (v :: vs)) I1 q3) (fun us s2 ⟨us0, w, vs, H2, e1, I2, rv2, q4⟩ => ?_) fun _ _ x => x
    exact ⟨u :: us0, w, v :: vs, H2, by rw [e1]; rfl, I2, .cons rv rv2, q4⟩
/-- a lambda's reading -/
def tLm (X : Cx) (W : Wr) (t : Nat) (params : Arguments) (body : Expr) (scope : Scope) (pos : Pos) : TL := fun _ H Q => ∃ ps : Array Value, H (W.tab t) = some (.tbl ps) ∧ TriplesOk ps.toList ∧ (∀ (p : Pos) (cv : Value), codeAmong p ps.toList = some cv → ∃ c, cv = .ref c ∧ H c = some (CodeO c (W.tnm t p.line p.col))) ∧
  ∀ (f c' : Addr) (pm ctv : Value) (H1 : Hp) (s' : Shared), TabStep W t H H1 c' (X.env.qual ++ "<lambda>") →
      s'.heap.get? f = some (PySem.W.kla_obj "<lambda>" (X.env.qual ++ "<lambda>") params body scope (cloFrom X.env.cells scope.names []) pm c' ctv) → H1 f = none → f ∉ frs X.stack → X.base.get? f = none → (codeAmong pos ps.toList = some (.ref c') ∨ H c' = none) → H1 c' = some (CodeO c' (X.env.qual ++ "<lambda>")) → Q (.ref f) H1 s'
theorem pv_lam {t : Nat} {c : Addr} {params : Arguments} {body : Expr} {scope : Scope} {pos : Pos} (TB : TabB X.base X.mg c (W.tab t)) (hcode : X.env.code = .ref c) (hn : W.tnm t pos.line pos.col = X.env.qual ++ "<lambda>") (hdef : defaultsOf params X.env = ([], []))
    (hfree : ∀ y ∈ scope.names, y.2 = .free → X.env.scope.names.lookup y.1 = some .cell) : PV X (.Lambda params body scope pos) (tLm X W t params body scope pos) := by
  refine ⟨fun pins s σ H Q I h => ?_⟩
  obtain ⟨ps, h1, h2, h3, h4⟩ := h
  exact mk_lam I TB hcode h1 h2 h3 hn hdef (fun y hy e => I.ok.has _ (.inl (hfree y hy e))) fun f c' pm ctv H1 s' J ts a1 a2 a3 a4 a5 a6 => ⟨H1, J, h4 f c' pm ctv H1 s' ts a1 a2 a3 a4 a5 a6⟩
theorem evA_lam {g : G} {as : List E} {l : A} {s : S} : evA g (as.map A.e ++ [l]) s = (evs g as s).bind fun xs s => (evA1 g l s).bind fun y s => .ok (xs.map AX.d ++ [y]) s := by
  induction as generalizing s with
  | nil =>
    show ((evA1 g l s).bind fun x s => (evA g [] s).bind fun xs s => .ok (x :: xs) s) = (evA1 g l s).bind fun y s => .ok ([] ++ [y]) s
    cases evA1 g l s <;> rfl
  | cons a as ih =>
    show ((ev g a s).bind fun x s => .ok (AX.d x.frz) s).bind (fun x s => (evA g (as.map A.e ++ [l]) s).bind fun xs s => .ok (x :: xs) s) = ((ev g a s).bind fun x s => (evs g as s).bind fun xs s => .ok (x.frz :: xs) s).bind _
    cases ev g a s with
    | exc _ _ _ => rfl
    | err => rfl
    | ok x s1 =>
      simp only [Out.bind_ok, ih (s := s1)]
      cases evs g as s1 with
      | exc _ _ _ => rfl
      | err => rfl
      | ok xs s2 =>
        simp only [Out.bind_ok]
        cases evA1 g l s2 <;> rfl
/-- f(.., lambda ..: ..) -/
theorem pe_callLam {c : CE} {n : Nat} {f t : Nat} (Hd : HeldF X W P rp k f) (hgd : X.A.guards = some []) (hr : Room k X.A) {x : Str} {p pos : Pos} {fn : Fn} (hf : P.fns[f]? = some fn) (hini : fn.ini = false) (hgc : g.call = evFn P rp k) (hg : Gl X x) (hm : X.mg x = some (.ref (W.fa f))) (hdb : (x == ("__debug__" : Str)) = false)
    {es : List Expr} {as : List E} {b : E} {caps : List Nat} {cd : Addr} {params : Arguments} {body : Expr} {scope : Scope} {lpos : Pos} (hn : es.all noStar = true) (hm2 : es.mapM (cE c n) = some as) (he : ∀ e a, cE c n e = some a → PE X e (tE W (ev g a)))
    (TB : TabB X.base X.mg cd (W.tab t)) (hcode : X.env.code = .ref cd) (hqn : W.tnm t lpos.line lpos.col = X.env.qual ++ "<lambda>") (hpl : plainArgs params = true) (hS : NScope (lamN params scope) (parNames params) (frees scope) scope) (hkin : ∀ y ∈ frees scope, X.env.scope.names.lookup y = some .cell ∧ X.fn y = true)
    (hat : caps.map (fun j => X.N[j]?) = (frees scope).map some)
    (hcl : ∀ cl c' pm ctv, W.cloP ⟨false, (parNames params).length, caps.length, (lamN params scope).length, [.ret b]⟩ (frees scope) cl c' (PySem.W.kla_fn "<lambda>" (X.env.qual ++ "<lambda>") params body scope cl pm (.ref c') ctv)) :
    PE X (.Call (.Name x p) (es ++ [.Lambda params body scope lpos]) [] pos) (tE W (ev g (.call f (as.map A.e ++ [.lam (parNames params).length (lamN params scope).length b caps t])))) := by
  have hdef : defaultsOf params X.env = ([], []) := by
    obtain ⟨a1, a2, a3, a4, a5, a6, a7⟩ := params
    unfold plainArgs at hpl
    simp only [Bool.and_eq_true, List.isEmpty_iff, Option.isNone_iff_eq_none] at hpl
    obtain ⟨⟨⟨⟨⟨h1, h2⟩, h3⟩, h4⟩, h5⟩, h6⟩ := hpl
    subst h5; subst h6
    rfl
  have hlv := pv_lam (body := body) (X := X) (params := params) (scope := scope) (pos := lpos) TB hcode hqn hdef fun y hy e => (hkin _ (hS.free y hy e)).1
  have hpal := pal_list rfl hlv he hn hm2
  have hkc := Hd
  obtain ⟨fd, ps, F, hk, hb, _⟩ := hkc.ex
  refine ⟨fun pins s0 σ H Q I hq => ?_⟩
  obtain ⟨F, θ, s, R, q⟩ := hq
  have q := OkP.bind (show OkP (PX W F (M0 θ s.ρ σ) θ H σ Q) ((evA g (as.map A.e ++ [.lam (parNames params).length (lamN params scope).length b caps t]) s).bind _) from q)
  rw [evA_lam] at q
  -- the reading of the arguments
  have q2 : tEs W g as σ H fun vs H' => tLm X W t params body scope lpos σ H' fun u H1 s' => ∃ f', u = .ref f' ∧ ∀ (pins : List (Addr × Obj)) (us0 : List Value), Inv X pins σ H1 s' → Vals vs us0 → wpAny (model X.prog X.w) X.A (call (.ref (W.fa f)) (us0 ++ [.ref f'])) (EP X pins σ Q) X.xe s' := by
    refine ⟨F, θ, s, R, (OkP.bind q).imp fun xs s1 q1 vs H1 θ1 R1 k1 rs => ?_⟩
    have q1 : OkP (fun a s => OkP (PX W F (M0 θ _ σ) θ H σ Q) (callG g.call f [] a s)) ((match s1.m[t]?, capsOf s1 caps with
      | some (.tbl t'), some xs => if t' = t then Out.ok (AX.clo ⟨false, (parNames params).length, caps.length, (lamN params scope).length, [.ret b]⟩ xs) s1 else Out.err
      | _, _ => Out.err).bind fun y s => Out.ok (xs.map AX.d ++ [y]) s) := q1
    rw [hgc] at q1
    cases e1 : s1.m[t]? with
    | none => rw [e1] at q1; exact q1.elim
    | some ob =>
      cases ob with
      | lst _ => rw [e1] at q1; exact q1.elim
      | dic _ => rw [e1] at q1; exact q1.elim
      | ins _ _ => rw [e1] at q1; exact q1.elim
      | tbl t' =>
        cases e2 : capsOf s1 caps with
        | none => rw [e1, e2] at q1; exact q1.elim
        | some cs =>
          rw [e1, e2] at q1
          have qa : OkP (fun a s_1 => OkP (PX W F (M0 θ s.ρ σ) θ H σ Q) (callG (evFn P rp k) f [] a s_1)) ((if t' = t then Out.ok (AX.clo ⟨false, (parNames params).length, caps.length, (lamN params scope).length, [.ret b]⟩ cs) s1 else Out.err).bind fun y s => Out.ok (xs.map AX.d ++ [y]) s) := q1
          by_cases et : t' = t
          case neg => rw [if_neg et] at qa; exact qa.elim
          rw [if_pos et] at qa
          have qb : OkP (PX W F (M0 θ s.ρ σ) θ H σ Q) (callG (evFn P rp k) f [] (xs.map AX.d ++ [AX.clo ⟨false, (parNames params).length, caps.length, (lamN params scope).length, [.ret b]⟩ cs]) s1) := qa
          subst et
          have hlt : t' < θ1.length := by rw [R1.th]; exact (List.getElem?_eq_some_iff.mp e1).1
          obtain ⟨eb, ps', hP, ht, ha⟩ := R1.st t' _ _ (List.getElem?_eq_getElem hlt) e1
          rw [eb] at hP
          refine ⟨ps', hP, ht, fun p cv hc => let ⟨c, h1, h2, _⟩ := ha p cv hc; ⟨c, h1, h2⟩, fun f' c' pm ctv H2 s' ts a1 a2 a3 a4 a5 a6 => ⟨f', rfl, fun pins2 us0 I2 rv => ?_⟩⟩
          obtain ⟨R2, k2⟩ := R1.tabStep e1 ts
          have nco : ¬ Mt F θ1 s1.ρ σ c' := by
            rcases a5 with z | z
            · obtain ⟨c2, h1, _, h3⟩ := ha _ _ z
              cases h1
              exact h3
            · exact R1.new_free z
          exact lam_fin hkc hgd hr hf hini I2 R2 (k1.trans k2) (rs.keep k2.fb) rv a1 a2 a3 a4 a6 nco (hcl _ _ _ _) e2 hat hS hkin qb
  refine wpAny_Call_Name_kw (ld_glob I hg hm ?_ hdb)
  have fin : ∀ (e : Expr) (es' : List Expr), es ++ [.Lambda params body scope lpos] = e :: es' → (e :: es').all noStar = true → wpAny (model X.prog X.w) X.A (callWith pos (.ref (W.fa f)) [] (backTo pos (starEach (es ++ [.Lambda params body scope lpos]) X.env)) []) (EP X pins σ Q) X.xe s0 := by
    intro e es' ee hn'
    obtain ⟨n1, n2⟩ := noStar_all hn'
    rw [ee]
    refine PySem.W.callWith_K (h₀ := X.base) I.ok.mod.kin hk ?_ (star_of n1) (stars_of n2)
    rw [← ee]
    refine wpAny_mono (hpal.run pos pins s0 σ H _ I q2) (fun us s2 ⟨us0, u, vs, H2, e1, I2, rv, f', e2, q3⟩ => ?_) fun _ _ x => x
    subst e1; subst e2
    exact ⟨I2.kIn, q3 pins us0 I2 rv⟩
  have hall : (es ++ [Expr.Lambda params body scope lpos]).all noStar = true := by
    rw [List.all_append, hn]; rfl
  cases ees : es ++ [Expr.Lambda params body scope lpos] with
  | nil => simp at ees
  | cons e es' =>
    rw [ees] at hall
    have := fin e es' ees hall
    rw [ees] at this
    exact this
end
end Pv
end

section
set_option Elab.async false
set_option linter.all false
set_option maxRecDepth 100000
set_option maxHeartbeats 4000000
/-! EvU: attributes, stars, slices. -/
namespace Pv
open PySem PySem.Spec PyProof.Rows L2
/-- what the classes of the program are in the written part -/
structure ClsOk (K : PySem.W.Frag) (W : Wr) (P : Prog) (fld : Str → Bool) : Prop where
  cf : ∀ c, CF K (W.ca c)
  prop : ∀ (c : Nat) (n : Str) (f : Nat), P.prop c n = some f → ∃ p, PropOf K (W.ca c) n p (W.fa f)
  noat : ∀ (c : Nat) (n : Str), fld n = true → P.prop c n = none → NoAttr K (W.ca c) n
  mks : ∀ (c f : Nat), P.init c = some f → Mk K (W.ca c) (W.fa f)
section
variable {X : Cx} {W : Wr} {g : G} {P : Prog} {rp : D → Option Str} {k : Nat} {fld : Str → Bool}
theorem pe_attrX {e : Expr} {ta : TE} {n : Str} {pos : Pos} (hgd : X.A.guards = some []) (hr : Room (k + 1) X.A) (hb : attributeBase e n X.env (eval e X.env) = eval e X.env) (he : PE X e ta) :
    PE X (.Attribute e n pos) (fun σ H Q => ta σ H fun x H1 => ∃ a C dx fs, x = .ref a ∧ H1 a = some (.ins C dx fs) ∧ Cls X.K C ∧
      ((∃ v, NoAttr X.K C n ∧ fs.lookup n = some v ∧ Q v H1) ∨ ∃ p f sp kp, PropOf X.K C n p f ∧ HeldN X.prog X.w X.K X.mg X.base k f sp kp ∧ sp [.ref a] H1 Q (fun _ _ _ => False))) := by
  refine ⟨fun pins s σ H Q I h => ?_⟩
  refine attr_of hb (thn (he.run pins s σ H _ I h) fun u s1 ⟨x, H1, I1, rx, a, C, dx, fs, ex, ea, c, q⟩ => ?_)
  subst ex
  obtain rfl : u = Value.ref a := rx
  rcases q with ⟨v, na, l, q⟩ | ⟨p, f, sp, kp, hp, Hd, q⟩
  · exact getattr_ok I1 ea c na l fun u' s2 I2 ru => ⟨v, H1, I2, ru, q⟩
  · obtain ⟨fd, ps, F, hk, hb', _⟩ := Hd.ex
    exact getprop_okG (E := fun _ _ _ => False) I1 ea c hp F hgd hr hb' .nil (fun _ _ _ _ _ _ _ z => z.elim) q
theorem look_rep {m : Fb} {θ : List Addr} {H : Hp} {n : Str} {d : D} : ∀ {fs : List (Str × D)} {vfs : List (Str × V)}, vfs.map (·.1) = fs.map (·.1) → RepVs W m θ H (fs.map (·.2)) (vfs.map (·.2)) → fs.lookup n = some d → ∃ v, vfs.lookup n = some v ∧ RepV W m θ H d v
  | [], [], _, _, h => by cases h
  | [], _ :: _, e, _, _ => by cases e
  | _ :: _, [], e, _, _ => by cases e
  | (x, d') :: fs, (y, v') :: vfs, e, rs, h => by
    simp only [List.map_cons, List.cons.injEq] at e
    obtain ⟨e1, e2⟩ := e
    subst e1
    cases rs with
    | cons r rs =>
      rw [List.lookup_cons] at h ⊢
      cases q : n == y with
      | true => rw [q] at h; simp only at h ⊢; cases h; exact ⟨_, rfl, r⟩
      | false => rw [q] at h; simp only at h ⊢; exact look_rep e2 rs h
theorem pe_attr2 (hK : W.K = X.K) (C : ClsOk X.K W P fld) (Hd : ∀ (f : Nat) (fn : Fn), P.fns[f]? = some fn → HeldF X W P rp k f) (hP : ∀ (c : Nat) (n : Str) (f : Nat), P.prop c n = some f → ∃ fn, P.fns[f]? = some fn ∧ fn.ini = false) (hgd : X.A.guards = some []) (hr : Room (k + 1) X.A) (hgP : g.P = P) (hgm : g.make = evFn P rp k)
    {e : Expr} {a : E} {n : Str} {pos : Pos} (hf : fld n = true) (hb : notCall e = true) (he : PE X e (tO W g a)) : PE X (.Attribute e n pos) (tE W (ev g (.attr a n))) := by
  have hb' : attributeBase e n X.env (eval e X.env) = eval e X.env := by cases e <;> first | rfl | cases hb
  refine mono (pe_attrX hgd hr hb' he) fun σ H Q hq => ?_
  obtain ⟨F, θ, s, R, q⟩ := hq
  refine opd_bind (P := PX W F (M0 θ s.ρ σ) θ H σ Q) R q fun x s1 v H1 θ1 R1 k1 ox q1 => ?_
  cases ef : fin a x s1 with
  | none => rw [ef] at q1; exact q1.elim
  | some d =>
    rw [ef] at q1
    cases d with
    | obj c fs =>
      have cn := fin_cn R1 ox ef
      obtain ⟨b, dx, vfs, rfl, hb2, en, rs⟩ := cn
      refine ⟨b, _, dx, vfs, rfl, hb2, (C.cf c).cls, ?_⟩
      simp only [hgP] at q1
      cases ep : P.prop c n with
      | none =>
        rw [ep] at q1
        obtain ⟨z, ez, q2⟩ := OkP.lift q1
        simp only [Option.map_eq_some_iff] at ez
        obtain ⟨d, ed, rfl⟩ := ez
        obtain ⟨v', hv', r⟩ := look_rep en rs ed
        exact .inl ⟨v', C.noat c n hf ep, hv', q2 v' H1 θ1 ⟨R1, k1, r⟩⟩
      | some f =>
        rw [ep] at q1
        obtain ⟨p, hp⟩ := C.prop c n f ep
        obtain ⟨fn, hfn, hini⟩ := hP c n f ep
        simp only at q1
        split at q1
        · rename_i pu
          have rv : RepV W (Mt F θ1 s1.ρ σ) θ1 H1 (.obj c fs) (.ref b) := by
            unfold isPure at pu
            unfold Opn at ox
            unfold fin at ef
            cases eb : isBor a with
            | some i =>
              rw [eb] at pu ox ef
              simp only at pu ef
              cases gi : getN s1.ρ i with
              | no => rw [gi] at pu; cases pu
              | clo _ _ => rw [gi] at pu; cases pu
              | own _ => rw [gi] at pu; cases pu
              | val d =>
                rw [gi] at pu
                cases d with
                | obj c' fs' =>
                  obtain ⟨w, hw, r⟩ := R1.val gi
                  rw [ox] at hw; cases hw
                  unfold rdB at ef
                  rw [gi] at ef
                  cases ef
                  exact r
                | _ => cases pu
            | none =>
              rw [eb] at pu ox ef
              simp only at pu ef
              cases x with
              | obj c' fs' => cases ef; exact ox
              | _ => cases pu
          refine .inr ⟨p, _, _, _, hp, Hd f fn hfn, ?_⟩
          have q1 : OkP (PX W F (M0 θ s.ρ σ) θ H σ Q) (callG (evFn P rp k) f [] ([D.obj c fs].map AX.d) s1) := by rw [← hgm]; exact q1
          exact sp_of hfn hini R1 k1 (.cons rv .nil) q1
        · exact q1.elim
    | _ => exact q1.elim
/-! ### stars -/
theorem seqS_cn (hK : W.K = X.K) {m : Fb} {θ : List Addr} {H : Hp} {d : D} {v : V} {ys : List D} (c : Cn W m θ H d v) (e : seqS d = some ys) : ∃ p xs, v = .ref p ∧ (SqT X.K H p xs ∨ SqL X.K H p xs) ∧ RepVs W m θ H ys xs := by
  cases d <;> first | (cases e; done) | skip
  · obtain ⟨a, vs, rfl, h, rs⟩ := c; cases e; exact ⟨a, vs, rfl, .inl (hK ▸ h), rs⟩
  · obtain ⟨a, vs, rfl, h, rs⟩ := c; cases e; exact ⟨a, vs, rfl, .inr (.of h), rs⟩
  · obtain ⟨a, vs, rfl, h, rs⟩ := c; cases e; exact ⟨a, vs, rfl, .inr (hK ▸ h), rs⟩
theorem pe_tupS2 (hK : W.K = X.K) {x : E} {t : E} {ex et : Expr} {x1 : Nat} {p pos : Pos} (hn : noStar ex = true) (hx : PE X ex (tE W (ev g x))) (ht : PE X et (tO W g t)) : PE X (.Tuple [ex, .Starred et p] x1 pos) (tE W (ev g (.tupS [x] t))) := by
  refine mono (pe_tup (pa_cons hx (StX.pa_star ht pa_nil) (star_of hn))) fun σ H Q hq => ?_
  obtain ⟨F, θ, s, R, q⟩ := hq
  have q : OkP (PX W F (M0 θ s.ρ σ) θ H σ Q) (((ev g x s).bind fun x s => .ok [x.frz] s).bind fun xs s => (opd t (ev g t) s).bind fun y s => match (fin t y s).bind seqS with
      | some ys => if xs.length + ys.length ≤ LINE then .ok (.d (.tup (xs ++ ys))) s else .err
      | none => .err) := q
  refine ⟨F, θ, s, R, (OkP.bind (OkP.bind q)).imp fun x' s1 q1 v H1 θ1 rx => ?_⟩
  refine opd_bind (P := PX W F (M0 θ s.ρ σ) θ H σ Q) rx.rep q1 fun y s2 w H2 θ2 R2 k2 oy q2 => ?_
  cases ef : (fin t y s2).bind seqS with
  | none => rw [ef] at q2; exact q2.elim
  | some ys =>
    rw [ef] at q2
    obtain ⟨d, ed, ey⟩ := Option.bind_eq_some_iff.mp ef
    obtain ⟨p, xs, rfl, hs, rs⟩ := seqS_cn (X := X) hK (fin_cn R2 oy ed) ey
    simp only at q2
    split at q2
    · rename_i hl
      refine ⟨p, xs, rfl, hs, ?_⟩
      show (v :: (xs ++ [])).length ≤ sizeLine ∧ _
      rw [List.append_nil]
      have rv := RepV.keep (Keep.mt rx.rep k2) rx.val
      refine ⟨by rw [← LINE_eq, List.length_cons, ← rs.length]; have : ([x'.frz] : List D).length = 1 := rfl; omega, fun b hb => ?_⟩
      exact q2 _ _ _ (RX.newT R2 (rx.keep.trans k2) hb (.cons rv rs))
    · exact q2.elim
theorem pe_tupS3 (hK : W.K = X.K) {x : E} {t : E} {ex et : Expr} {x1 : Nat} {p pos : Pos} (hn : noStar ex = true) (ht : PE X et (tO W g t)) (hx : PE X ex (tE W (ev g x))) : PE X (.Tuple [.Starred et p, ex] x1 pos) (tE W (ev g (.tupS1 t [x]))) := by
  refine mono (pe_tup (StX.pa_star ht (pa_cons hx pa_nil (star_of hn)))) fun σ H Q hq => ?_
  obtain ⟨F, θ, s, R, q⟩ := hq
  refine opd_bind (P := PX W F (M0 θ s.ρ σ) θ H σ Q) R q fun y s1 w H1 θ1 R1 k1 oy q1 => ?_
  cases ef : (fin t y s1).bind seqS with
  | none => rw [ef] at q1; exact q1.elim
  | some ys =>
    rw [ef] at q1
    obtain ⟨d, ed, ey⟩ := Option.bind_eq_some_iff.mp ef
    obtain ⟨p, xs, rfl, hs, rs⟩ := seqS_cn (X := X) hK (fin_cn R1 oy ed) ey
    refine ⟨p, xs, rfl, hs, ?_⟩
    have q1 : OkP (PX W F (M0 θ s.ρ σ) θ H σ Q) (((ev g x s1).bind fun x s => .ok [x.frz] s).bind fun xs s => if xs.length + ys.length ≤ LINE then .ok (.d (.tup (ys ++ xs))) s else .err) := q1
    refine ⟨F, θ1, s1, R1, (OkP.bind (OkP.bind q1)).imp fun x' s2 q2 v H2 θ2 rx => ?_⟩
    have q2 : OkP (PX W F (M0 θ s.ρ σ) θ H σ Q) (if ([x'.frz] : List D).length + ys.length ≤ LINE then .ok (.d (.tup (ys ++ [x'.frz]))) s2 else .err) := q2
    split at q2
    · rename_i hl
      have rs' := rs.keep (Keep.mt R1 rx.keep)
      refine ⟨by rw [← LINE_eq, List.length_append, ← rs.length]; have : ([x'.frz] : List D).length = 1 := rfl; have : ([v] : List V).length = 1 := rfl; omega, fun b hb => ?_⟩
      exact q2 _ _ _ (RX.newT rx.rep (k1.trans rx.keep) hb (rs'.append (.cons rx.val .nil)))
    · exact q2.elim
theorem pe_tupM (hK : W.K = X.K) {es fs : List Expr} {as bs : List E} {a : E} {et : Expr} {c : CE} {n x1 : Nat} {p pos : Pos} (hn : es.all noStar = true) (hn2 : fs.all noStar = true) (h1 : es.mapM (cE c n) = some as) (h2 : fs.mapM (cE c n) = some bs) (he : ∀ e a, cE c n e = some a → PE X e (tE W (ev g a))) (ht : PE X et (tO W g a)) :
    PE X (.Tuple (es ++ .Starred et p :: fs) x1 pos) (tE W (ev g (.tupM as a bs))) := by
  refine mono (pe_tup (pa_pre hn h1 he (StX.pa_star ht (pa_list hn2 h2 he)))) fun σ H Q hq => ?_
  obtain ⟨F, θ, s, R, q⟩ := hq
  refine ⟨F, θ, s, R, (OkP.bind q).imp fun xs s1 q1 vs H1 θ1 R1 k1 rs => ?_⟩
  refine opd_bind (P := PX W F (M0 θ s.ρ σ) θ H σ Q) R1 q1 fun y s2 w H2 θ2 R2 k2 oy q2 => ?_
  cases ef : (fin a y s2).bind seqS with
  | none => rw [ef] at q2; exact q2.elim
  | some ys =>
    rw [ef] at q2
    obtain ⟨d, ed, ey⟩ := Option.bind_eq_some_iff.mp ef
    obtain ⟨p, ws, rfl, hs, rw'⟩ := seqS_cn (X := X) hK (fin_cn R2 oy ed) ey
    refine ⟨p, ws, rfl, hs, F, θ2, s2, R2, (OkP.bind q2).imp fun zs s3 q3 us H3 θ3 R3 k3 rz => ?_⟩
    split at q3
    · rename_i hl
      have r1 := rs.keep (Keep.mt R1 (k2.trans k3))
      have r2 := rw'.keep (Keep.mt R2 k3)
      refine ⟨?_, fun b hb => ?_⟩
      · rw [← LINE_eq, List.length_append, List.length_append, ← rs.length, ← rw'.length, ← rz.length]; omega
      · have := q3 _ _ _ (RX.newT R3 (k1.trans (k2.trans k3)) hb (by rw [List.append_assoc]; exact r1.append (r2.append rz)))
        exact this
    · exact q3.elim
/-! ### slices -/
/-- a slice's part as the evaluator tells it -/
def tP (W : Wr) (g : G) (a : E) : TO := fun σ H Q => ∃ F θ s, Rep W F θ s σ H ∧
    OkP (fun x s' => partOk a x.frz = true ∧ ∀ o v H' θ', RX W F (M0 θ s.ρ σ) θ H θ' s' σ H' x v → bound x.frz = some o → Q o H') (ev g a s)
theorem part_some {e : Expr} {a : E} (hn : isNon a = false) (h : PE X e (tE W (ev g a))) : PO X (some e) (tP W g a) := by
  refine ⟨fun pins s σ H Q I hq => (po_some h).run pins s σ H Q I ?_⟩
  obtain ⟨F, θ, s', R, q⟩ := hq
  refine ⟨F, θ, s', R, q.imp fun x s1 ⟨pk, q1⟩ v H1 θ1 rx => ?_⟩
  have ei : ∃ i, x.frz = .int i := by
    unfold partOk at pk
    cases z : x.frz <;> rw [z] at pk <;> first | exact ⟨_, rfl⟩ | (rw [hn] at pk; cases pk) | cases pk
  obtain ⟨i, ei⟩ := ei
  have rv := rx.val
  rw [ei] at rv
  cases rv
  exact ⟨i, rfl, q1 (some i) _ H1 θ1 rx (by rw [ei]; rfl)⟩
theorem part_non : PO X none (tP W g (.const .non)) := by
  refine ⟨fun pins s σ H Q I hq => po_none.run pins s σ H Q I ?_⟩
  obtain ⟨F, θ, s', R, q⟩ := hq
  exact q.2 none .non H θ ⟨R, .refl, .non⟩ rfl
theorem pe_slice2 (hK : W.K = X.K) {e : Expr} {lo hi : Option Expr} {a l h : E} {p2 pos : Pos} (he : PE X e (tO W g a)) (hl : PO X lo (tP W g l)) (hh : PO X hi (tP W g h)) : PE X (.Subscript e (.Slice lo hi none p2) pos) (tE W (ev g (.slice a l h))) := by
  refine mono (pe_slice (sl_any hK) he hl hh) fun σ H Q hq => ?_
  obtain ⟨F, θ, s, R, q⟩ := hq
  refine opd_bind (P := PX W F (M0 θ s.ρ σ) θ H σ Q) R q fun x s1 v H1 θ1 R1 k1 ox q1 => ?_
  refine ⟨F, θ1, s1, R1, (OkP.bind q1).imp fun y s2 q2 => ?_⟩
  split at q2
  · rename_i pk
    refine ⟨pk, fun o v2 H2 θ2 ry hb => ?_⟩
    refine ⟨F, θ2, s2, ry.rep, (OkP.bind q2).imp fun z s3 q3 => ?_⟩
    split at q3
    · rename_i pk3
      refine ⟨pk3, fun o3 v3 H3 θ3 rz hb3 => ?_⟩
      obtain ⟨w, ew, q4⟩ := OkP.lift q3
      obtain ⟨d, ed, ew⟩ := Option.bind_eq_some_iff.mp ew
      refine ⟨d, _, θ3, w, _, _, fin_cn rz.rep ((ox.later R1 ry.keep).later ry.rep rz.keep) ed, hb, hb3, ew, fun w' H' r => ?_, fun a z => rz.rep.mt_there z⟩
      exact q4 _ _ _ (r.rx rz.rep ((k1.trans ry.keep).trans rz.keep))
    · exact q3.elim
  · exact q2.elim
end
end Pv
end

section
set_option Elab.async false
set_option linter.all false
set_option maxRecDepth 100000
set_option maxHeartbeats 4000000
/-! EvV: the context; tests; what is sound of each form. -/
namespace Pv
open PySem PySem.Spec PyProof.Rows L2
/-- the built-in names that are used -/
structure XOk (X : Cx) (W : Wr) (P : Prog) (rp : D → Option Str) (k : Nat) (c : CE) : Prop where
  N : X.N = c.N
  sc : X.env.scope = c.sc
  nd : X.N.Nodup
  calm : X.calm = true
  K : W.K = X.K
  room : Room (k + 1) X.A
  gd : X.A.guards = some []
  sto : ∀ x : Str, c.sto x = true → Loc X.env.scope x ∧ (X.fn x = true ∨ X.env.scope.names.lookup x = some .local)
  con : ∀ (x : Str) (d : D), c.con x = some d → ∃ u v, X.mg x = some u ∧ RelV v u ∧ ∀ m θ H, RepV W m θ H d v
  blt : ∀ x ∈ BL, X.mg x = none
  fns : ∀ (x : Str) (f : Nat), c.fns x = some f → X.mg x = some (.ref (W.fa f)) ∧ ∃ fn, P.fns[f]? = some fn ∧ fn.ini = false
  par : c.par = W.par
  cls : ∀ (x : Str) (q : Nat), c.cls x = some q → X.mg x = some (.ref (W.ca q)) ∧ ∃ f fn, P.init q = some f ∧ P.fns[f]? = some fn ∧ fn.ini = true
  held1 : ∀ (f : Nat) (fn : Fn), P.fns[f]? = some fn → HeldF X W P rp (k + 1) f
  held0 : ∀ (f : Nat) (fn : Fn), P.fns[f]? = some fn → HeldF X W P rp k f
  C : ClsOk X.K W P c.fld
  prop : ∀ (q : Nat) (n : Str) (f : Nat), P.prop q n = some f → ∃ fn, P.fns[f]? = some fn ∧ fn.ini = false
  heldC : HeldC X.prog X.w X.K X.mg X.base W P rp (k + 1)
  tnm : c.tnm = W.tnm
  tabk : ∀ t, c.tab = some t → (∃ cd, X.env.code = .ref cd ∧ LamX.TabB X.base X.mg cd (W.tab t)) ∧ X.env.qual = c.qual
  cloI : ∀ (fn : Fn) (fr : List Str) (cl : List (Str × Addr)) (cd : Addr) (fd : FuncData), CloT c fn fr cl cd fd → W.cloP fn fr cl cd fd
  rpr : ∀ X' : Cx, X'.K = X.K → X'.calm = true → X'.A.guards = some [] → X'.A.units + 64 < cLine → CallR X' (.builtin "repr") (r1 W rp .repr)
section
variable {X : Cx} {W : Wr} {P : Prog} {rp : D → Option Str} {k : Nat} {c : CE} {g : G}
/-! ### the pieces of readings -/
theorem o2_read {a b : E} {o : O2} {σ : L2.St} {H : Hp} {Q : VK} (hq : tE W (ev g (.o2 o a b)) σ H Q) : tOp (r2 W o) (tO W g a) (tO W g b) σ H Q := by
  obtain ⟨F, θ, s, R, q⟩ := hq
  refine opd_bind R q fun x s1 v H1 θ1 R1 k1 ox q1 => ?_
  refine opd_bind R1 q1 fun y s2 w H2 θ2 R2 k2 oy q2 => ?_
  obtain ⟨z, ez, q3⟩ := OkP.liftD q2
  simp only [Option.bind_eq_some_iff] at ez
  obtain ⟨dx, ex, dy, ey, ez⟩ := ez
  refine ⟨dx, dy, _, θ2, z, fin_cn R2 (ox.later R1 k2) ex, fin_cn R2 oy ey, ez, fun w' H' r => ?_, fun a z => R2.mt_there z⟩
  exact q3 _ _ _ (r.rx R2 (k1.trans k2))
theorem o1_read {a : E} {o : O1} {σ : L2.St} {H : Hp} {Q : VK} (hq : tE W (ev g (.o1 o a)) σ H Q) : tO W g a σ H fun v H1 => r1 W g.repr o [v] H1 Q := by
  obtain ⟨F, θ, s, R, q⟩ := hq
  refine opd_bind R q fun x s1 v H1 θ1 R1 k1 ox q1 => ?_
  obtain ⟨z, ez, q3⟩ := OkP.liftD q1
  simp only [Option.bind_eq_some_iff] at ez
  obtain ⟨dx, ex, ez⟩ := ez
  refine ⟨dx, v, _, θ1, z, rfl, fin_cn R1 ox ex, ez, fun w' H' r => ?_, fun a z => R1.mt_there z⟩
  exact q3 _ _ _ (r.rx R1 k1)
/-- a test of an expression that yields a bool -/
theorem test_of {a : E} (na : isBor a = none) (hb : ∀ s x s', ev g a s = .ok x s' → ∃ b, x = .d (.bl b)) {σ : L2.St} {H : Hp} {Q : Bool → Hp → Prop} (hq : tT W g a σ H Q) : tE W (ev g a) σ H fun v H' => ∃ b, v = .bl b ∧ Q b H' := by
  obtain ⟨F, θ, s, R, q⟩ := hq
  rw [tst_ev na] at q
  refine ⟨F, θ, s, R, ?_⟩
  cases e : ev g a s with
  | exc _ _ _ => rw [e] at q; exact q.elim
  | err => rw [e] at q; exact q.elim
  | ok x s1 =>
    rw [e] at q
    obtain ⟨b, rfl⟩ := hb s x s1 e
    intro v H1 θ1 rx
    obtain ⟨R1, k1, r⟩ := rx
    cases r
    exact ⟨b, rfl, q H1 θ1 R1 k1⟩
def isCmp : O2 → Bool
  | .eq | .ne | .lt | .le | .gt | .ge | .isin | .notin | .is | .isnot => true
  | _ => false
theorem cmp_bl {o : O2} (h : isCmp o = true) {x y : D} {z : FX} (e : op2 o x y = some z) : ∃ b, z = .d (.bl b) := by
  cases o <;> first | (cases h; done) | skip
  all_goals
    simp only [op2] at e
    repeat' (split at e)
    all_goals first
      | (cases e; done)
      | (cases e; exact ⟨_, rfl⟩)
      | (simp only [Option.map_eq_some_iff] at e; obtain ⟨b, _, rfl⟩ := e; exact ⟨_, rfl⟩)
theorem lift_ok {α : Type} {s : S} {o : Option α} {x : α} {s' : S} (h : lift s o = .ok x s') : o = some x ∧ s' = s := by
  cases o with
  | none => cases h
  | some a => cases h; exact ⟨rfl, rfl⟩
theorem bind_ok {α β : Type} {o : Out α} {k : α → S → Out β} {x : β} {s' : S} (h : o.bind k = .ok x s') : ∃ a s1, o = .ok a s1 ∧ k a s1 = .ok x s' := by
  cases o with
  | ok a s1 => exact ⟨a, s1, rfl, h⟩
  | exc _ _ _ => cases h
  | err => cases h
theorem o2_bl {a b : E} {o : O2} (h : isCmp o = true) : ∀ s x s', ev g (.o2 o a b) s = .ok x s' → ∃ b, x = .d (.bl b) := by
  intro s x s' e
  obtain ⟨x1, s1, _, e⟩ := bind_ok e
  obtain ⟨x2, s2, _, e⟩ := bind_ok e
  obtain ⟨e, _⟩ := lift_ok e
  simp only [Option.bind_eq_some_iff] at e
  obtain ⟨dx, _, dy, _, e⟩ := e
  exact cmp_bl h e
theorem chain_bl {a b c : E} {o o' : O2} (h' : isCmp o' = true) : ∀ s x s', ev g (.chain o o' a b c) s = .ok x s' → ∃ b, x = .d (.bl b) := by
  intro s x s' e
  obtain ⟨x1, s1, _, e⟩ := bind_ok e
  obtain ⟨x2, s2, _, e⟩ := bind_ok e
  split at e
  · obtain ⟨x3, s3, _, e⟩ := bind_ok e
    obtain ⟨e, _⟩ := lift_ok e
    simp only [Option.bind_eq_some_iff] at e
    obtain ⟨dx, _, dy, _, e⟩ := e
    exact cmp_bl h' e
  · cases e; exact ⟨_, rfl⟩
  · cases e
theorem o1_bl {a : E} {o : O1} (h : o = .isN ∨ o = .notN) : ∀ s x s', ev g (.o1 o a) s = .ok x s' → ∃ b, x = .d (.bl b) := by
  intro s x s' e
  obtain ⟨x1, s1, _, e⟩ := bind_ok e
  obtain ⟨e, _⟩ := lift_ok e
  simp only [Option.bind_eq_some_iff] at e
  obtain ⟨dx, _, e⟩ := e
  rcases h with rfl | rfl <;> (cases dx <;> cases e <;> exact ⟨_, rfl⟩)
theorem isCmp_of {op : CmpOp} {o : O2} (h : cmpOf op = some o) : isCmp o = true := by cases op <;> cases h <;> rfl
/-! ### tests of each form -/
def plainT : Expr → Bool
  | .UnaryOp .Not _ _ => false
  | .BoolOp .. => false
  | .IfExp .. => false
  | .Compare .. => false
  | _ => true
theorem plainT_he {e : Expr} (h : plainT e = true) (env : Env) : ∀ whole, isTrue e env whole = (do let v ← whole; standAt e.pos; holding [v] (truthy v)) := by
  intro whole
  cases e <;> first | rfl | (cases h; done) | skip
  rename_i op a pos
  cases op <;> first | rfl | cases h
theorem monoT {e : Expr} {t t' : TT} (h : PT X e t) (i : ∀ σ H Q, t' σ H Q → t σ H Q) : PT X e t' := ⟨fun pins s σ H Q I q => h.run pins s σ H Q I (i σ H Q q)⟩
theorem pt_cmp2 (hK : W.K = X.K) (hu : X.A.units + 64 < cLine) {op : CmpOp} {o : O2} (h : cmpOf op = some o) {a b : E} {ea eb : Expr} {pos : Pos} (hb' : notSet eb = true) (ha : PE X ea (tO W g a)) (hb : PE X eb (tO W g b)) : PT X (.Compare ea [op] [eb] pos) (tT W g (.o2 o a b)) :=
  monoT (pt_cmpR (cmp_rule hK hu h) ha hb (marks_of hb')) fun σ H Q hq => o2_read (test_of rfl (o2_bl (isCmp_of h)) hq)
theorem pt_isN2 {a : E} {ea : Expr} {j : Nat} {p pos : Pos} (ha : PE X ea (tO W g a)) : PT X (.Compare ea [.Is] [.Constant .none j p] pos) (tT W g (.o1 .isN a)) :=
  monoT (pt_cmp (pc_isN' (rp := g.repr) ha) rfl) fun σ H Q hq => o1_read (test_of rfl (o1_bl (.inl rfl)) hq)
theorem pt_notN2 {a : E} {ea : Expr} {j : Nat} {p pos : Pos} (ha : PE X ea (tO W g a)) : PT X (.Compare ea [.IsNot] [.Constant .none j p] pos) (tT W g (.o1 .notN a)) :=
  monoT (pt_cmp (pc_notN' (rp := g.repr) ha) rfl) fun σ H Q hq => o1_read (test_of rfl (o1_bl (.inr rfl)) hq)
theorem chain_read {a b c : E} {o o' : O2} {σ : L2.St} {H : Hp} {Q : VK} (hq : tE W (ev g (.chain o o' a b c)) σ H Q) : tChain (r2 W o) (r2 W o') (tO W g a) (tO W g b) (tO W g c) σ H Q := by
  obtain ⟨F, θ, s, R, q⟩ := hq
  refine opd_bind R q fun x s1 v H1 θ1 R1 k1 ox q1 => ?_
  refine opd_bind R1 q1 fun y s2 w H2 θ2 R2 k2 oy q2 => ?_
  have ox2 := ox.later R1 k2
  rcases bool_x' q2 with ⟨ez, q3⟩ | ⟨ez, q3⟩
  all_goals
    simp only [Option.bind_eq_some_iff] at ez
    obtain ⟨dx, ex, dy, ey, ez⟩ := ez
  · refine ⟨dx, dy, _, θ2, _, fin_cn R2 ox2 ex, fin_cn R2 oy ey, ez, fun w' H' r => ?_, fun a z => R2.mt_there z⟩
    rcases r with ⟨rfl, r⟩ | ⟨_, _, _, h, _⟩
    · cases r
      refine ⟨true, rfl, ?_⟩
      rw [if_pos rfl]
      refine opd_bind R2 q3 fun z s3 u H3 θ3 R3 k3 oz q4 => ?_
      obtain ⟨z', ez', q5⟩ := OkP.liftD q4
      simp only [Option.bind_eq_some_iff] at ez'
      obtain ⟨dy', ey', dz, ez2, ez'⟩ := ez'
      refine ⟨dy', dz, _, θ3, z', fin_cn R3 (oy.later R2 k3) ey', fin_cn R3 oz ez2, ez', fun w' H' r => ?_, fun a z => R3.mt_there z⟩
      exact q5 _ _ _ (r.rx R3 ((k1.trans k2).trans k3))
    · cases h
  · refine ⟨dx, dy, _, θ2, _, fin_cn R2 ox2 ex, fin_cn R2 oy ey, ez, fun w' H' r => ?_, fun a z => R2.mt_there z⟩
    rcases r with ⟨rfl, r⟩ | ⟨_, _, _, h, _⟩
    · cases r
      refine ⟨false, rfl, ?_⟩
      rw [if_neg (by decide)]
      exact q3 _ _ _ ⟨R2, k1.trans k2, .bl _⟩
    · cases h
theorem pt_chain2 (hK : W.K = X.K) (hu : X.A.units + 64 < cLine) {op op' : CmpOp} {o o' : O2} (h : cmpOf op = some o) (h' : cmpOf op' = some o') {a b c : E} {ea eb ec : Expr} {pos : Pos} (hb' : notSet eb = true) (hc' : notSet ec = true)
    (ha : PE X ea (tO W g a)) (hb : PE X eb (tO W g b)) (hc : PE X ec (tO W g c)) : PT X (.Compare ea [op, op'] [eb, ec] pos) (tT W g (.chain o o' a b c)) :=
  monoT (pt_chain (cmp_rule hK hu h) (cmp_rule hK hu h') ha hb hc (marks_of hc')) fun σ H Q hq => chain_read (test_of rfl (chain_bl (isCmp_of h')) hq)
/-! ### names -/
theorem slot_facts (K : XOk X W P rp k c) {x : Str} {i : Nat} (h : slotOf c x = some i) : X.N[i]? = some x ∧ Vis X.env.scope x ∧ (x == ("__debug__" : Str)) = false ∧ (x == ("__classdict__" : Str)) = false := by
  unfold slotOf at h
  split at h
  · rename_i q
    simp only [Bool.and_eq_true, Bool.not_eq_true', oddName, Bool.or_eq_false_iff] at q
    refine ⟨by rw [K.N]; exact ixOf_get h, ?_, q.2.1.1, q.2.1.2⟩
    rw [K.sc]
    have q1 := q.1
    unfold CE.isSlot at q1
    unfold Vis
    cases e : c.sc.names.lookup x with
    | none => rw [e] at q1; cases q1
    | some y => rw [e] at q1; cases y <;> first | (cases q1; done) | simp
  · cases h
theorem pe_slotV (K : XOk X W P rp k c) {x : Str} {i : Nat} {p : Pos} (h : slotOf c x = some i) : PE X (.Name x p) (tVar i) := by
  obtain ⟨h1, h2, h3, h4⟩ := slot_facts K h
  exact pe_var h1 h2 h3 h4
theorem gl_of (K : XOk X W P rp k c) {x : Str} (h : c.isGl x = true) : Gl X x := by
  unfold CE.isGl at h
  show X.env.scope.names.lookup x = _
  rw [K.sc]
  cases e : c.sc.names.lookup x with
  | none => rw [e] at h; cases h
  | some y => rw [e] at h; cases y <;> first | (cases h; done) | rfl
theorem isBl_of {x y : Str} (h : isBl c x y = true) : x = y ∧ c.isGl x = true := by
  unfold isBl at h
  rw [Bool.and_eq_true, beq_iff_eq] at h
  exact h
end
end Pv
end

section
set_option Elab.async false
set_option linter.all false
set_option maxRecDepth 100000
set_option maxHeartbeats 4000000
/-! EvW: expressions are sound. -/
namespace Pv
open PySem PySem.Spec PyProof.Rows L2
section
variable {X : Cx} {W : Wr} {P : Prog} {rp : D → Option Str} {k : Nat} {c : CE} {g : G}
theorem bl1_glue (K : XOk X W P rp k c) (hgr : g.repr = rp) {x : Str} {o : O1} (h : bl1 c x = some o) {ea : Expr} {a : E} {p pos : Pos} (hn : noStar ea = true) (ha : PE X ea (tO W g a)) : PE X (.Call (.Name x p) [ea] [] pos) (tE W (ev g (.o1 o a))) := by
  refine pe_o1l ha fun {ta} h1 => ?_
  rw [hgr]
  have pa := pa_cons h1 pa_nil (star_of hn)
  have st : starEach [ea] X.env = (false, eval ea X.env) :: starEach [] X.env := star_of hn
  unfold bl1 at h
  by_cases q : isBl c x "len" = true
  · rw [if_pos q] at h; obtain ⟨rfl, q2⟩ := isBl_of q; cases h
    exact pe_callB (cr_len K.K) (gl_of K q2) (K.blt _ (by decide)) boot_len pa (by decide) (by decide) st rfl
  rw [if_neg q] at h
  by_cases q : isBl c x "sum" = true
  · rw [if_pos q] at h; obtain ⟨rfl, q2⟩ := isBl_of q; cases h
    exact pe_callB (cr_sum1 K.K K.calm) (gl_of K q2) (K.blt _ (by decide)) PyProof.Rows.boot_sum pa (by decide) (by decide) st rfl
  rw [if_neg q] at h
  by_cases q : isBl c x "max" = true
  · rw [if_pos q] at h; obtain ⟨rfl, q2⟩ := isBl_of q; cases h
    exact pe_callB (cr_max1 K.K K.calm) (gl_of K q2) (K.blt _ (by decide)) PyProof.Rows.boot_max pa (by decide) (by decide) st rfl
  rw [if_neg q] at h
  by_cases q : isBl c x "min" = true
  · rw [if_pos q] at h; obtain ⟨rfl, q2⟩ := isBl_of q; cases h
    exact pe_callB (cr_min1 K.K K.calm) (gl_of K q2) (K.blt _ (by decide)) PyProof.Rows.boot_min pa (by decide) (by decide) st rfl
  rw [if_neg q] at h
  by_cases q : isBl c x "sorted" = true
  · rw [if_pos q] at h; obtain ⟨rfl, q2⟩ := isBl_of q; cases h
    exact pe_callB (cr_sorted1 K.K K.calm) (gl_of K q2) (K.blt _ (by decide)) PyProof.Rows.boot_sorted pa (by decide) (by decide) st rfl
  rw [if_neg q] at h
  by_cases q : isBl c x "any" = true
  · rw [if_pos q] at h; obtain ⟨rfl, q2⟩ := isBl_of q; cases h
    exact pe_callB (cr_any1 K.calm) (gl_of K q2) (K.blt _ (by decide)) PyProof.Rows.boot_any pa (by decide) (by decide) st rfl
  rw [if_neg q] at h
  by_cases q : isBl c x "all" = true
  · rw [if_pos q] at h; obtain ⟨rfl, q2⟩ := isBl_of q; cases h
    exact pe_callB (cr_all1 K.calm) (gl_of K q2) (K.blt _ (by decide)) PyProof.Rows.boot_all pa (by decide) (by decide) st rfl
  rw [if_neg q] at h
  by_cases q : isBl c x "abs" = true
  · rw [if_pos q] at h; obtain ⟨rfl, q2⟩ := isBl_of q; cases h
    exact pe_callB cr_abs (gl_of K q2) (K.blt _ (by decide)) PyProof.Rows.boot_abs pa (by decide) (by decide) st rfl
  rw [if_neg q] at h
  by_cases q : isBl c x "int" = true
  · rw [if_pos q] at h; obtain ⟨rfl, q2⟩ := isBl_of q; cases h
    exact pe_callTy cr_int (gl_of K q2) (K.blt _ (by decide)) PyProof.Rows.boot_int pa (by decide) (by decide) st rfl
  rw [if_neg q] at h
  by_cases q : isBl c x "tuple" = true
  · rw [if_pos q] at h; obtain ⟨rfl, q2⟩ := isBl_of q; cases h
    exact pe_callTy (cr_tuple K.K) (gl_of K q2) (K.blt _ (by decide)) PyProof.Rows.boot_tuple pa (by decide) (by decide) st rfl
  rw [if_neg q] at h
  by_cases q : isBl c x "repr" = true
  · rw [if_pos q] at h; obtain ⟨rfl, q2⟩ := isBl_of q; cases h
    exact pe_callB (K.rpr X rfl K.calm K.gd K.room.units) (gl_of K q2) (K.blt _ (by decide)) PyProof.Rows.boot_repr pa (by decide) (by decide) st rfl
  rw [if_neg q] at h
  by_cases q : isBl c x "list" = true
  · rw [if_pos q] at h; obtain ⟨rfl, q2⟩ := isBl_of q; cases h
    exact pe_callTy (cr_list K.K) (gl_of K q2) (K.blt _ (by decide)) PyProof.Rows.boot_list pa (by decide) (by decide) st rfl
  rw [if_neg q] at h
  cases h
theorem bl2_glue (K : XOk X W P rp k c) {x : Str} {o : O2} (h : bl2 c x = some o) {ea eb : Expr} {a b : E} {p pos : Pos} (hn : noStar ea = true) (hn' : noStar eb = true) (ha : PE X ea (tO W g a)) (hb : PE X eb (tO W g b)) : PE X (.Call (.Name x p) [ea, eb] [] pos) (tE W (ev g (.o2 o a b))) := by
  refine pe_o2l ha hb fun {ta tb} h1 h2 => ?_
  have pa := pa_cons h1 (pa_cons h2 pa_nil (star_of hn')) (star_of hn)
  have st : starEach [ea, eb] X.env = (false, eval ea X.env) :: starEach [eb] X.env := star_of hn
  have sp : ∀ {p}, (backTo p (starEach [eb] X.env)).any (·.1) = false := fun {p} => stars_of (by simp [hn'])
  unfold bl2 at h
  split at h
  · rename_i q; obtain ⟨rfl, q2⟩ := isBl_of q; cases h
    exact pe_callB (cr_max2 K.calm) (gl_of K q2) (K.blt _ (by decide)) PyProof.Rows.boot_max pa (by decide) (by decide) st sp
  split at h
  · rename_i q; obtain ⟨rfl, q2⟩ := isBl_of q; cases h
    exact pe_callB (cr_min2 K.calm) (gl_of K q2) (K.blt _ (by decide)) PyProof.Rows.boot_min pa (by decide) (by decide) st sp
  split at h
  · rename_i q; obtain ⟨rfl, q2⟩ := isBl_of q; cases h
    exact pe_callB cr_divmod (gl_of K q2) (K.blt _ (by decide)) PyProof.Rows.boot_divmod pa (by decide) (by decide) st sp
  split at h
  · rename_i q; obtain ⟨rfl, q2⟩ := isBl_of q; cases h
    exact pe_callB (cr_isinst K.K fun q => K.K ▸ K.C.cf q) (gl_of K q2) (K.blt _ (by decide)) PyProof.Rows.boot_isinstance pa (by decide) (by decide) st sp
  · cases h
/-- the context of a block -/
theorem XOk.blk (K : XOk X W P rp k c) {scope : Scope} {s : Shared} {H : Hp} {C : Addr} {cl : List (Str × Addr)} {fp : List Addr} : XOk (X.blk s H scope (compEnvC scope cl C X.env) fp) W P rp k (c.block scope) where
  N := K.N
  sc := by show relS scope X.env.scope = relS scope c.sc; rw [K.sc]
  nd := K.nd
  calm := K.calm
  K := K.K
  room := K.room
  gd := K.gd
  sto := fun x h => by
    have h : (scope.names.lookup x == some .local || scope.names.lookup x == some .cell) = true := h
    rw [Bool.or_eq_true, beq_iff_eq, beq_iff_eq] at h
    rcases h with h | h
    · have : (relS scope X.env.scope).names.lookup x = some .local := lookup_relS_keep (by decide) h
      exact ⟨.inl this, .inr this⟩
    · have : (relS scope X.env.scope).names.lookup x = some .cell := lookup_relS_keep (by decide) h
      exact ⟨.inr this, .inl (by show (scope.names.lookup x == some .cell) = true; rw [h]; rfl)⟩
  con := K.con
  blt := K.blt
  fns := K.fns
  par := K.par
  cls := K.cls
  held1 := K.held1
  held0 := K.held0
  C := K.C
  prop := K.prop
  rpr := fun X' h1 h2 h3 h4 => K.rpr X' h1 h2 h3 h4
  heldC := K.heldC
  tnm := K.tnm
  tabk := fun t h => nomatch h
  cloI := K.cloI
/-- what is proved of the texts at one depth -/
structure Snd (X : Cx) (W : Wr) (P : Prog) (rp : D → Option Str) (k : Nat) (c : CE) (g : G) (n : Nat) : Prop where
  E : ∀ (e : Expr) (a : E), cE c n e = some a → PE X e (tE W (ev g a)) ∧ isBor a = none ∧ (notIf e = true → PT X e (tT W g a)) ∧ (∀ op vs pos, e = .BoolOp op vs pos → PW X e (tT W g a))
  O : ∀ (e : Expr) (a : Pv.E), cO c n e = some a → PE X e (tO W g a) ∧ (notIf e = true → PT X e (tT W g a))
  P : ∀ (o : Option Expr) (a : Pv.E), cP c n o = some a → PO X o (tP W g a)
  C : ∀ (x : Str) (as : List Expr) (a : Pv.E), cCall c n x as = some a → ∀ p pos, PE X (.Call (.Name x p) as [] pos) (tE W (ev g a)) ∧ isBor a = none
  I : ∀ (t e : Expr) (it : Pv.It), cI c n t e = some it → PI X t e (tI W (evI g it))
  T : ∀ (t : Expr) (t' : Pv.T), cT c n t = some t' → PG X t (tG W g t')
theorem pts_list {es : List Expr} {ts : List T} (hn : es.all noStar = true) {cT' : Expr → Option T} (h : es.mapM cT' = some ts) (he : ∀ e t, cT' e = some t → PG X e (tG W g t)) : PGs X es (tGs W g ts) ∧ ts.length = es.length := by
  induction es generalizing ts with
  | nil => simp at h; subst h; exact ⟨pgs_nil', rfl⟩
  | cons e es ih =>
    rw [List.all_cons, Bool.and_eq_true] at hn
    rw [List.mapM_cons] at h
    simp only [Option.bind_eq_bind, Option.bind_eq_some_iff, Option.pure_def, Option.some.injEq] at h
    obtain ⟨t, h1, bs, h2, rfl⟩ := h
    obtain ⟨i1, i2⟩ := ih hn.2 h2
    exact ⟨pgs_cons' hn.1 (he e t h1) i1, congrArg Nat.succ i2⟩
theorem mapM_len {α β : Type} {f : α → Option β} : ∀ {es : List α} {as : List β}, es.mapM f = some as → as.length = es.length
  | [], as, h => by simp at h; subst h; rfl
  | e :: es, as, h => by
    rw [List.mapM_cons] at h
    simp only [Option.bind_eq_bind, Option.bind_eq_some_iff, Option.pure_def, Option.some.injEq] at h
    obtain ⟨t, h1, bs, h2, rfl⟩ := h
    exact congrArg Nat.succ (mapM_len h2)
theorem bl_ok {a : E} (hn : isBor a = none) (K : XOk X W P rp k c) {e : Expr} (h : PE X e (tE W (ev g a))) : PE X e (tO W g a) := by
  unfold tO
  rw [hn]
  exact h
theorem own_ok {N : List Str} {sc : Scope} {own : List (Str × Nat)} {t : T} (h : inOwn t own = true) : ∀ j ∈ tSlots t, j ∈ own.map (·.2) := fun j hj => by
  have := List.all_eq_true.mp h j hj
  simpa using this
theorem set_iter {it : Expr} {env : Env} (h : notSet it = true) : ∀ x, foldedSetIterable it env x = pure x := fun x => by
  cases it <;> first | rfl | cases h
end
end Pv
end

section
set_option Elab.async false
set_option linter.all false
set_option maxRecDepth 100000
set_option maxHeartbeats 4000000
/-! EvX: the induction over expressions. -/
namespace Pv
open PySem PySem.Spec PyProof.Rows L2
section
variable {X : Cx} {W : Wr} {P : Prog} {rp : D → Option Str} {k : Nat} {c : CE} {n : Nat}
theorem lamOf_eq : ∀ {as es : List Expr} {params : Arguments} {body : Expr} {scope : Scope} {pos : Pos}, lamOf as = some (es, params, body, scope, pos) → as = es ++ [.Lambda params body scope pos] ∧ True
  | [], es, params, body, scope, pos, h => by simp [lamOf] at h
  | e :: r, es, params, body, scope, pos, h => by
    unfold lamOf at h
    split at h
    · rename_i hx
      cases hx
    · rename_i hx
      cases hx
      cases h
      exact ⟨rfl, trivial⟩
    · rename_i hx hy
      cases hy
      simp only [Option.map_eq_some_iff] at h
      obtain ⟨⟨es', x⟩, h1, h2⟩ := h
      cases h2
      obtain ⟨e1, _⟩ := lamOf_eq h1
      exact ⟨by rw [e1]; rfl, trivial⟩
theorem ix_all {N : List Str} (hN : X.N = N) : ∀ {fr : List Str} {caps : List Nat}, fr.mapM (ixOf N) = some caps → caps.map (fun j => X.N[j]?) = fr.map some
  | [], caps, h => by simp at h; subst h; rfl
  | y :: fr, caps, h => by
    rw [List.mapM_cons] at h
    simp only [Option.bind_eq_bind, Option.bind_eq_some_iff, Option.pure_def, Option.some.injEq] at h
    obtain ⟨i, h1, bs, h2, rfl⟩ := h
    rw [List.map_cons, List.map_cons, ix_all hN h2, hN, ixOf_get h1]
abbrev SndAt (X : Cx) (W : Wr) (P : Prog) (rp : D → Option Str) (k : Nat) (c : CE) (n : Nat) : Prop := Snd X W P rp k c (gAt P rp k) n
abbrev IH (W : Wr) (P : Prog) (rp : D → Option Str) (k n : Nat) : Prop := ∀ (X : Cx) (c : CE), XOk X W P rp k c → SndAt X W P rp k c n
/-- what is to be shown of an expression -/
abbrev ES (X : Cx) (W : Wr) (P : Prog) (rp : D → Option Str) (k : Nat) (e : Expr) (a : E) : Prop := PE X e (tE W (ev (gAt P rp k) a)) ∧ isBor a = none ∧ (notIf e = true → PT X e (tT W (gAt P rp k) a)) ∧ (∀ op vs pos, e = .BoolOp op vs pos → PW X e (tT W (gAt P rp k) a))
theorem es_plain (K : XOk X W P rp k c) {e : Expr} {a : E} (hp : plainT e = true) (hn : isBor a = none) (h : PE X e (tE W (ev (gAt P rp k) a))) : ES X W P rp k e a :=
  ⟨h, hn, fun _ => pt_plain K.K (bl_ok hn K h) (plainT_he hp X.env), fun op vs pos e1 => by subst e1; cases hp⟩
theorem e_name (K : XOk X W P rp k c) {x : Str} {p : Pos} {a : E} (h : cE c (n + 1) (.Name x p) = some a) : ES X W P rp k (.Name x p) a := by
  simp only [cE] at h
  cases hs : slotOf c x with
  | some i =>
    rw [hs] at h
    simp only at h
    cases h
    split
    · exact es_plain K rfl rfl (ps_slotP (pe_slotV K hs))
    · exact es_plain K rfl rfl (ps_slot (pe_slotV K hs))
  | none =>
    rw [hs] at h
    simp only at h
    split at h
    · rename_i q
      rw [Bool.and_eq_true, Bool.not_eq_true'] at q
      have gl := gl_of K q.1
      have od := q.2
      simp only [oddName, Bool.or_eq_false_iff] at od
      have nm : x ≠ "__name__" := by have := od.2; simpa using this
      cases ht : sub1 c x with
      | some t =>
        rw [ht] at h
        cases h
        have hx : x ∈ BL ∧ bootBuiltins x = some (.type t.name) := by
          unfold sub1 at ht
          split at ht
          · rename_i q; obtain ⟨rfl, _⟩ := isBl_of q; cases ht; exact ⟨by decide, PyProof.Rows.boot_int⟩
          split at ht
          · rename_i q; obtain ⟨rfl, _⟩ := isBl_of q; cases ht; exact ⟨by decide, by decide +kernel⟩
          split at ht
          · rename_i q; obtain ⟨rfl, _⟩ := isBl_of q; cases ht; exact ⟨by decide, by decide +kernel⟩
          split at ht
          · rename_i q; obtain ⟨rfl, _⟩ := isBl_of q; cases ht; exact ⟨by decide, PyProof.Rows.boot_tuple⟩
          split at ht
          · rename_i q; obtain ⟨rfl, _⟩ := isBl_of q; cases ht; exact ⟨by decide, by decide +kernel⟩
          · cases ht
        exact es_plain K rfl rfl (pe_const (pe_bltn gl (K.blt x hx.1) hx.2 (v := .ty t.name) rfl nm od.1.1) fun _ _ _ => .ty _)
      | none =>
        rw [ht] at h
        simp only [Option.map_eq_some_iff] at h
        obtain ⟨d, hd, rfl⟩ := h
        obtain ⟨u, v, hm, r, rr⟩ := K.con x d hd
        exact es_plain K rfl rfl (pe_const (pe_glob gl hm r od.1.1) rr)
    · cases h
theorem e_const (K : XOk X W P rp k c) {q : PySem.Const} {j : Nat} {p : Pos} {a : E} (h : cE c (n + 1) (.Constant q j p) = some a) : ES X W P rp k (.Constant q j p) a := by
  cases q <;> first | (simp only [cE] at h; cases h; done) | skip
  all_goals (simp only [cE] at h; cases h)
  · exact es_plain K rfl rfl (pe_const pe_non fun _ _ _ => .non)
  · exact es_plain K rfl rfl (pe_const pe_bl fun _ _ _ => .bl _)
  · exact es_plain K rfl rfl (pe_const pe_int fun _ _ _ => .int _)
  · exact es_plain K rfl rfl (pe_const pe_str fun _ _ _ => .str _)
theorem e_bin (S : SndAt X W P rp k c n) (K : XOk X W P rp k c) {l r : Expr} {op : Operator} {p : Pos} {a : E} (h : cE c (n + 1) (.BinOp l op r p) = some a) : ES X W P rp k (.BinOp l op r p) a := by
  simp only [cE] at h
  split at h
  · rename_i o x y h1 h2 h3
    cases h
    exact es_plain K rfl rfl (pe_bin2 K.K h1 (S.O l x h2).1 (S.O r y h3).1)
  · cases h
theorem e_un (S : SndAt X W P rp k c n) (K : XOk X W P rp k c) {l : Expr} {op : UnaryOp} {p : Pos} {a : E} (h : cE c (n + 1) (.UnaryOp op l p) = some a) : ES X W P rp k (.UnaryOp op l p) a := by
  simp only [cE] at h
  split at h
  · rename_i x h1
    split at h
    · rename_i hi
      cases h
      obtain ⟨s1, s2⟩ := S.O l x h1
      exact ⟨pe_notV K.K s1, rfl, fun _ => pt_not2 (s2 hi), fun op vs pos e1 => by cases e1⟩
    · cases h
  · rename_i x h1
    cases h
    exact es_plain K rfl rfl (pe_neg (S.O l x h1).1)
  · cases h
theorem e_bool (S : SndAt X W P rp k c n) (K : XOk X W P rp k c) {op : BoolOp} {vs : List Expr} {p : Pos} {a : E} (h : cE c (n + 1) (.BoolOp op vs p) = some a) : ES X W P rp k (.BoolOp op vs p) a := by
  simp only [cE] at h
  split at h
  · rename_i e1
    split at h
    · rename_i hi
      obtain ⟨s1, s2, s3, s4⟩ := S.E e1 a h
      have pw : PW X (.BoolOp op [e1] p) (tT W (gAt P rp k) a) := by
        cases op
        · exact pw_and1 (s3 hi)
        · exact pw_or1 (s3 hi)
      exact ⟨pe_one s1, s2, fun _ => pw.pt, fun _ _ _ _ => pw⟩
    · cases h
  · rename_i e1 e2 r
    split at h
    · rename_i hi
      split at h
      · rename_i x y h1 h2
        cases h
        obtain ⟨a1, a2, a3, a4⟩ := S.E e1 x h1
        obtain ⟨b1, b2, b3, b4⟩ := S.E _ y h2
        have pw := pw_and2 (pos := p) a2 b2 (a3 hi) (b4 _ _ _ rfl)
        exact ⟨pe_and2 a1 b1, rfl, fun _ => pw.pt, fun _ _ _ _ => pw⟩
      · rename_i x y h1 h2
        cases h
        obtain ⟨a1, a2, a3, a4⟩ := S.E e1 x h1
        obtain ⟨b1, b2, b3, b4⟩ := S.E _ y h2
        have pw := pw_or2 (pos := p) a2 b2 (a3 hi) (b4 _ _ _ rfl)
        exact ⟨pe_or2 a1 b1, rfl, fun _ => pw.pt, fun _ _ _ _ => pw⟩
      · cases h
    · cases h
  · cases h
theorem units_ok (K : XOk X W P rp k c) : X.A.units + 64 < cLine := K.room.units
theorem e_cmp (S : SndAt X W P rp k c n) (K : XOk X W P rp k c) {l : Expr} {ops : List CmpOp} {bs : List Expr} {p : Pos} {a : E} (h : cE c (n + 1) (.Compare l ops bs p) = some a) : ES X W P rp k (.Compare l ops bs p) a := by
  simp only [cE] at h
  split at h
  · rename_i op b
    split at h
    · simp only [Option.map_eq_some_iff] at h
      obtain ⟨x, h1, rfl⟩ := h
      have s := (S.O l x h1).1
      exact ⟨pe_isN s, rfl, fun _ => pt_isN2 s, fun op vs pos e1 => by cases e1⟩
    · simp only [Option.map_eq_some_iff] at h
      obtain ⟨x, h1, rfl⟩ := h
      have s := (S.O l x h1).1
      exact ⟨pe_notN s, rfl, fun _ => pt_notN2 s, fun op vs pos e1 => by cases e1⟩
    · split at h
      · rename_i hb
        split at h
        · rename_i o x y h1 h2 h3
          cases h
          have s1 := (S.O l x h2).1
          have s2 := (S.O _ y h3).1
          exact ⟨pe_cmp2 K.K (units_ok K) h1 hb s1 s2, rfl, fun _ => pt_cmp2 K.K (units_ok K) h1 hb s1 s2, fun op vs pos e1 => by cases e1⟩
        · cases h
      · cases h
  · rename_i op op' b d
    split at h
    · rename_i hb
      rw [Bool.and_eq_true] at hb
      split at h
      · rename_i o o' x y z h1 h2 h3 h4 h5
        cases h
        have s1 := (S.O l x h3).1
        have s2 := (S.O _ y h4).1
        have s3 := (S.O _ z h5).1
        exact ⟨pe_chain2 K.K (units_ok K) h1 h2 hb.1 hb.2 s1 s2 s3, rfl, fun _ => pt_chain2 K.K (units_ok K) h1 h2 hb.1 hb.2 s1 s2 s3, fun op vs pos e1 => by cases e1⟩
      · cases h
    · cases h
  · cases h
theorem e_ite (S : SndAt X W P rp k c n) (K : XOk X W P rp k c) {t x y : Expr} {p : Pos} {a : E} (h : cE c (n + 1) (.IfExp t x y p) = some a) : ES X W P rp k (.IfExp t x y p) a := by
  simp only [cE] at h
  split at h
  · rename_i hi
    split at h
    · rename_i t' x' y' h1 h2 h3
      cases h
      exact ⟨pe_ite2 ((S.O t t' h1).2 hi) (S.E x x' h2).1 (S.E y y' h3).1, rfl, fun z => (nomatch z), fun op vs pos e1 => by cases e1⟩
    · cases h
  · cases h
theorem e_tup (S : SndAt X W P rp k c n) (K : XOk X W P rp k c) {es : List Expr} {q : Nat} {p : Pos} {a : E} (h : cE c (n + 1) (.Tuple es q p) = some a) : ES X W P rp k (.Tuple es q p) a := by
  simp only [cE] at h
  split at h
  · rename_i hn
    simp only [Option.map_eq_some_iff] at h
    obtain ⟨as, h1, rfl⟩ := h
    exact es_plain K rfl rfl (pe_tup2 (pa_list hn h1 fun e a h => (S.E e a h).1))
  · split at h
    · split at h
      · rename_i hb
        split at h
        · rename_i x y h1 h2
          cases h
          exact es_plain K rfl rfl (pe_tupS3 K.K hb (S.O _ x h1).1 (S.E _ y h2).1)
        · cases h
      · cases h
    · split at h
      · rename_i hb
        split at h
        · rename_i x y h1 h2
          cases h
          exact es_plain K rfl rfl (pe_tupS2 K.K hb (S.E _ x h1).1 (S.O _ y h2).1)
        · cases h
      · cases h
    · split at h
      · rename_i pre t sp post hsp
        have es := splitStar_eq hsp
        split at h
        · rename_i hb
          rw [Bool.and_eq_true] at hb
          split at h
          · rename_i xs y zs h1 h2 h3
            cases h
            rw [es]
            exact es_plain K rfl rfl (pe_tupM K.K hb.1 hb.2 h1 h3 (fun e a h => (S.E e a h).1) (S.O _ y h2).1)
          · cases h
        · cases h
      · cases h
theorem e_lst (S : SndAt X W P rp k c n) (K : XOk X W P rp k c) {es : List Expr} {p : Pos} {a : E} (h : cE c (n + 1) (.List es p) = some a) : ES X W P rp k (.List es p) a := by
  simp only [cE] at h
  split at h
  · rename_i hn
    simp only [Option.map_eq_some_iff] at h
    obtain ⟨as, h1, rfl⟩ := h
    exact es_plain K rfl rfl (pe_lst2 (pa_list hn h1 fun e a h => (S.E e a h).1))
  · cases h
theorem e_sub (S : SndAt X W P rp k c n) (K : XOk X W P rp k c) {l s : Expr} {p : Pos} {a : E} (h : cE c (n + 1) (.Subscript l s p) = some a) : ES X W P rp k (.Subscript l s p) a := by
  simp only [cE] at h
  split at h
  · rename_i lo hi pp
    split at h
    · rename_i x y z h1 h2 h3
      cases h
      exact es_plain K rfl rfl (pe_slice2 K.K (S.O l x h1).1 (S.P lo y h2) (S.P hi z h3))
    · cases h
  · cases h
  · rename_i hs hs'
    split at h
    · rename_i x y h1 h2
      cases h
      refine es_plain K rfl rfl (pe_idx2 K.K ?_ (S.O l x h1).1 (S.O s y h2).1)
      cases s <;> first | rfl | exact (hs' _ _ _ _ rfl).elim
    · cases h
theorem e_attr (S : SndAt X W P rp k c n) (K : XOk X W P rp k c) {l : Expr} {f : Str} {p : Pos} {a : E} (h : cE c (n + 1) (.Attribute l f p) = some a) : ES X W P rp k (.Attribute l f p) a := by
  simp only [cE] at h
  split at h
  · rename_i hb
    rw [Bool.and_eq_true] at hb
    simp only [Option.map_eq_some_iff] at h
    obtain ⟨x, h1, rfl⟩ := h
    exact es_plain K rfl rfl (pe_attr2 K.K K.C K.held0 K.prop K.gd K.room rfl rfl hb.2 hb.1 (S.O l x h1).1)
  · cases h
theorem e_call (S : SndAt X W P rp k c n) (K : XOk X W P rp k c) {f : Expr} {as : List Expr} {ks : List Keyword} {p : Pos} {a : E} (h : cE c (n + 1) (.Call f as ks p) = some a) : ES X W P rp k (.Call f as ks p) a := by
  simp only [cE] at h
  split at h
  · rename_i x pp
    split at h
    · cases h
    · rename_i od
      split at h
      · rename_i e1
        split at h
        · cases h
        · rename_i hn
          have hn : noStar e1 = true := by simpa using hn
          split at h
          · rename_i a' hq
            split at hq
            · rename_i hs
              obtain ⟨rfl, hs2⟩ := isBl_of hs
              have hx : ∃ x2 p2 q2, e1 = .Call (.Name x2 p2) [a'] [] q2 ∧ isBl c x2 "set" = true ∧ noStar a' = true := by
                unfold setArg at hq
                split at hq
                · split at hq
                  · rename_i hb
                    cases hq
                    rw [Bool.and_eq_true] at hb
                    exact ⟨_, _, _, rfl, hb.1, hb.2⟩
                  · cases hq
                · cases hq
              obtain ⟨x2, p2, q2, rfl, hb, hn2⟩ := hx
              obtain ⟨rfl, hb2⟩ := isBl_of hb
              simp only [Option.map_eq_some_iff] at h
              obtain ⟨y, h1, rfl⟩ := h
              exact es_plain K rfl rfl (pe_setS2 K.calm (gl_of K hs2) (K.blt "sorted" (by decide)) (gl_of K hb2) (K.blt "set" (by decide)) hn2 (S.O _ y h1).1)
            · cases hq
          · split at h
            · rename_i o ho
              simp only [Option.map_eq_some_iff] at h
              obtain ⟨x', h1, rfl⟩ := h
              exact es_plain K rfl rfl (bl1_glue K rfl ho hn (S.O e1 x' h1).1)
            · obtain ⟨h1, h2⟩ := S.C x _ a h pp p
              exact es_plain K rfl h2 h1
      · rename_i e1 e2
        split at h
        · rename_i o ho
          split at h
          · rename_i hn
            rw [Bool.and_eq_true] at hn
            split at h
            · rename_i y z h1 h2
              cases h
              exact es_plain K rfl rfl (bl2_glue K ho hn.1 hn.2 (S.O e1 y h1).1 (S.O e2 z h2).1)
            · cases h
          · cases h
        · obtain ⟨h1, h2⟩ := S.C x _ a h pp p
          exact es_plain K rfl h2 h1
      · obtain ⟨h1, h2⟩ := S.C x _ a h pp p
        exact es_plain K rfl h2 h1
  · rename_i x pp kw kws
    split at h
    · rename_i hc
      simp only [Bool.and_eq_true, Bool.not_eq_true'] at hc
      obtain ⟨⟨⟨od, hg⟩, hn⟩, hok⟩ := hc
      simp only [oddName, Bool.or_eq_false_iff] at od
      split at h
      · rename_i f hf
        split at h
        · rename_i ps xs ys hps h1 h2
          obtain ⟨hm, fn, hfn, hini⟩ := K.fns x f hf
          split at h
          · rename_i hks
            cases h
            exact es_plain K rfl rfl (pe_callKw (K.held1 f fn hfn) K.gd K.room hfn hini rfl (gl_of K hg) hm od.1.1 (mapM_len h1) hn hok (by rw [← K.par]; exact hps) hks.1 hks.2.1 hks.2.2 (mapM_len h2) (pa_list hn h1 fun e a h => (S.E e a h).1) (pk_list h2 fun e a h => (S.E e a h).1))
          · split at h
            · rename_i hka
              cases h
              rw [Bool.and_eq_true, List.isEmpty_iff] at hka
              obtain ⟨e0, hka⟩ := hka
              subst e0
              unfold kwAny at hka
              simp only [Bool.and_eq_true, decide_eq_true_eq] at hka
              exact es_plain K rfl rfl (pe_callKp (K.held1 f fn hfn) K.gd K.room hfn hini rfl (gl_of K hg) hm od.1.1 hok (by rw [← K.par]; exact hps) ⟨by rw [Nat.zero_add]; exact hka.1, hka.2.1, hka.2.2.1, hka.2.2.2⟩ (mapM_len h2) (pk_list h2 fun e a h => (S.E e a h).1))
            · cases h
        · cases h
      · cases h
    · cases h
  · cases h
theorem e_lc (ih : IH W P rp k n) (K : XOk X W P rp k c) {elt : Expr} {gens : List Comprehension} {scope : Scope} {p : Pos} {a : E} (h : cE c (n + 1) (.ListComp elt gens scope p) = some a) : ES X W P rp k (.ListComp elt gens scope p) a := by
  have S := ih X c K
  simp only [cE] at h
  split at h
  · rename_i t it ifs
    split at h
    · rename_i own ho
      split at h
      · rename_i hb
        rw [Bool.and_eq_true] at hb
        have ok : BlkOk X.N X.env.scope scope own := blkOk_by (by rw [K.N, K.sc]; exact hb.1)
        split at h
        · rename_i t' it' h1 h2
          split at h
          · rename_i hio
            simp only [Option.map_eq_some_iff] at h
            obtain ⟨x, hx, rfl⟩ := h
            exact es_plain K rfl rfl (pe_lc' K.calm K.nd (own_ok (N := []) (sc := scope) hio) (S.I t it it' h2) ok (fun s H C cl fp => (ih _ _ K.blk).T t t' h1) (fun s H C cl fp => pts_nil') (fun s H C cl fp => ((ih _ _ K.blk).E elt x hx).1) (set_iter hb.2))
          · cases h
        · rename_i t' it' i h1 h2
          split at h
          · cases h
          · rename_i hio
            have hio : inOwn t' own = true ∧ notIf i = true := by simpa using hio
            split at h
            · rename_i i' x hi hx
              cases h
              exact es_plain K rfl rfl (pe_lc' K.calm K.nd (own_ok (N := []) (sc := scope) hio.1) (S.I t it it' h2) ok (fun s H C cl fp => (ih _ _ K.blk).T t t' h1) (fun s H C cl fp => pts_one' (((ih _ _ K.blk).O i i' hi).2 hio.2)) (fun s H C cl fp => ((ih _ _ K.blk).E elt x hx).1) (set_iter hb.2))
            · cases h
        · cases h
      · cases h
    · cases h
  · cases h
theorem e_dc (ih : IH W P rp k n) (K : XOk X W P rp k c) {kx vx : Expr} {gens : List Comprehension} {scope : Scope} {p : Pos} {a : E} (h : cE c (n + 1) (.DictComp kx vx gens scope p) = some a) : ES X W P rp k (.DictComp kx vx gens scope p) a := by
  have S := ih X c K
  simp only [cE] at h
  split at h
  · rename_i t it ifs
    split at h
    · rename_i own ho
      split at h
      · rename_i hb
        rw [Bool.and_eq_true] at hb
        have ok : BlkOk X.N X.env.scope scope own := blkOk_by (by rw [K.N, K.sc]; exact hb.1)
        split at h
        · rename_i t' it' k' v' h1 h2 h3 h4
          split at h
          · rename_i hio
            cases h
            exact es_plain K rfl rfl (pe_dc' K.calm K.nd (own_ok (N := []) (sc := scope) hio) (S.I t it it' h2) ok (fun s H C cl fp => (ih _ _ K.blk).T t t' h1) (fun s H C cl fp => pts_nil') (fun s H C cl fp => ((ih _ _ K.blk).E kx k' h3).1) (fun s H C cl fp => ((ih _ _ K.blk).E vx v' h4).1) (set_iter hb.2))
          · cases h
        · cases h
      · cases h
    · cases h
  · cases h
theorem snd : ∀ (n : Nat), IH W P rp k n
  | 0 => fun X c K => ⟨fun e a h => by simp [cE] at h, fun e a h => by simp [cO] at h, fun o a h => by simp [cP] at h, fun x as a h => by simp [cCall] at h, fun t e it h => by simp [cI] at h, fun t t' h => by simp [cT] at h⟩
  | n + 1 => fun X c K => by
    have ih : IH W P rp k n := snd n
    have S := ih X c K
    refine ⟨fun e a h => ?_, fun e a h => ?_, fun o a h => ?_, fun x as a h p pos => ?_, fun t e it h => ?_, fun t t' h => ?_⟩
    · cases e with
      | Name x p => exact e_name K h
      | Constant q j p => exact e_const K h
      | BinOp l op r p => exact e_bin S K h
      | UnaryOp op l p => exact e_un S K h
      | BoolOp op vs p => exact e_bool S K h
      | Compare l ops bs p => exact e_cmp S K h
      | IfExp t x y p => exact e_ite S K h
      | Tuple es q p => exact e_tup S K h
      | List es p => exact e_lst S K h
      | Subscript l s p => exact e_sub S K h
      | Attribute l f p => exact e_attr S K h
      | Call f as ks p => exact e_call S K h
      | ListComp elt gens scope p => exact e_lc ih K h
      | DictComp kx vx gens scope p => exact e_dc ih K h
      | _ => simp [cE] at h
    · have gen : cE c n e = some a → PE X e (tO W (gAt P rp k) a) ∧ (notIf e = true → PT X e (tT W (gAt P rp k) a)) := fun h => by
        obtain ⟨h1, h2, h3, _⟩ := S.E e a h
        exact ⟨bl_ok h2 K h1, h3⟩
      cases e with
      | Name x p =>
        simp only [cO] at h
        cases hs : slotOf c x with
        | some i =>
          rw [hs] at h
          cases h
          have h1 := pe_slotV (p := p) K hs
          have h2 : PE X (.Name x p) (tO W (gAt P rp k) (.slotB i)) := h1
          exact ⟨h2, fun _ => pt_plain K.K h2 (plainT_he rfl X.env)⟩
        | none => rw [hs] at h; exact gen h
      | _ => exact gen (by simpa only [cO] using h)
    · cases o with
      | none => simp only [cP] at h; cases h; exact part_non
      | some e =>
        simp only [cP] at h
        split at h
        · rename_i a' h1
          split at h
          · cases h
          · rename_i hn
            cases h
            exact part_some (by simpa using hn) (S.E e a h1).1
        · cases h
    · simp only [cCall] at h
      split at h
      · rename_i hq
        rw [Bool.and_eq_true, Bool.not_eq_true'] at hq
        obtain ⟨hn, od⟩ := hq
        simp only [oddName, Bool.or_eq_false_iff] at od
        split at h
        · rename_i i hs
          simp only [Option.map_eq_some_iff] at h
          obtain ⟨xs, h1, rfl⟩ := h
          obtain ⟨f1, f2, f3, f4⟩ := slot_facts K hs
          exact ⟨pe_callV K.held1 K.heldC K.gd K.room rfl rfl rfl f1 f2 f3 f4 (mapM_len h1) hn (pa_list hn h1 fun e a h => (S.E e a h).1), rfl⟩
        · split at h
          · rename_i hg
            have gl := gl_of K hg
            split at h
            · rename_i f hf
              obtain ⟨hm, fn, hfn, hini⟩ := K.fns x f hf
              split at h
              · rename_i es params body scope lpos hla
                split at h
                case h_2 => cases h
                rename_i t htab
                split at h
                case isFalse => cases h
                rename_i hok
                split at h
                case h_2 => cases h
                rename_i xs b caps h1 h2 h3
                cases h
                obtain ⟨eas, hes⟩ := lamOf_eq hla
                subst eas
                rw [List.all_append, Bool.and_eq_true] at hn
                unfold lamOk at hok
                simp only [Bool.and_eq_true, decide_eq_true_eq, List.all_eq_true, beq_iff_eq] at hok
                obtain ⟨⟨⟨k1, k2⟩, k3⟩, k4⟩ := hok
                obtain ⟨⟨cd, hcd, TB⟩, hq⟩ := K.tabk t htab
                refine ⟨pe_callLam (K.held1 f fn hfn) K.gd K.room hfn hini rfl gl hm od.1.1 hn.1 h1 (fun e a h => (S.E e a h).1) TB hcd (by rw [← K.tnm, hq]; exact k4) k1 (NdefX.nscope_by k2) (fun y hy => ?_) ?_ fun cl c' pm ctv => K.cloI _ _ _ _ _ ⟨_, params, body, scope, pm, ctv, n, b, rfl, k1, k2, h2, by rw [mapM_len h3]⟩, rfl⟩
                · obtain ⟨q1, q2⟩ := k3 y hy
                  rw [← K.sc] at q1
                  refine ⟨q1, ((K.sto y q2).2).resolve_right fun z => ?_⟩
                  rw [q1] at z; cases z
                · exact ix_all K.N h3
              simp only [Option.map_eq_some_iff] at h
              obtain ⟨xs, h1, rfl⟩ := h
              exact ⟨pe_callF (K.held1 f fn hfn) K.gd K.room hfn hini rfl gl hm od.1.1 (wrap_len.trans (mapM_len h1)) hn (pa_wrap (fun e a h => (S.E e a h).1) hn h1), rfl⟩
            · split at h
              · rename_i q hf
                simp only [Option.map_eq_some_iff] at h
                obtain ⟨xs, h1, rfl⟩ := h
                obtain ⟨hm, f, fn, hc, hfn, hini⟩ := K.cls x q hf
                exact ⟨pe_newC (K.held0 f fn hfn) K.gd K.room hc (K.C.mks q f hc) hfn hini rfl rfl gl hm od.1.1 (mapM_len h1) hn (pa_list hn h1 fun e a h => (S.E e a h).1), rfl⟩
              · cases h
          · cases h
      · cases h
    · have gen : ∀ {e it}, (cE c n e).map It.seq = some it → PI X t e (tI W (evI (gAt P rp k) it)) := fun {e it} h => by
        simp only [Option.map_eq_some_iff] at h
        obtain ⟨a, h1, rfl⟩ := h
        exact pi_seq K.K (S.E e a h1).1
      simp only [cI] at h
      split at h
      · rename_i x p as pos
        split at h
        · cases h
        · rename_i hn
          have hn : as.all noStar = true := by simpa using hn
          split at h
          · rename_i q
            obtain ⟨rfl, q2⟩ := isBl_of q
            have gl := gl_of K q2
            have hm := K.blt "range" (by decide)
            split at h
            · rename_i xs h1
              split at h
              · rename_i hl
                cases h
                have hlen := mapM_len h1
                simp only [Bool.or_eq_true, beq_iff_eq] at hl
                have pa := pa_list (g := gAt P rp k) hn h1 fun e a h => (S.E e a h).1
                match as, hn, hlen, pa with
                | [e1], hn, hlen, pa => exact pi_rng1 gl hm hlen (by simpa using hn) pa
                | [e1, e2], hn, hlen, pa =>
                  simp only [List.all_cons, List.all_nil, Bool.and_true, Bool.and_eq_true] at hn
                  exact pi_rng2 gl hm hlen hn.1 hn.2 pa
                | [e1, e2, e3], hn, hlen, pa =>
                  simp only [List.all_cons, List.all_nil, Bool.and_true, Bool.and_eq_true] at hn
                  exact pi_rng3 gl hm hlen hn.1 hn.2.1 hn.2.2 pa
                | [], _, hlen, _ => simp at hlen; subst hlen; simp at hl
                | _ :: _ :: _ :: _ :: _, _, hlen, _ => simp at hlen; omega
              · cases h
            · cases h
          split at h
          · rename_i q
            obtain ⟨rfl, q2⟩ := isBl_of q
            have gl := gl_of K q2
            have hm := K.blt "zip" (by decide)
            split at h
            · rename_i y z h1
              split at h
              · rename_i ht
                cases h
                cases t <;> first | (cases ht; done) | skip
                match as, hn, h1 with
                | [e1, e2], hn, h1 =>
                  simp only [List.all_cons, List.all_nil, Bool.and_true, Bool.and_eq_true] at hn
                  simp only [List.mapM_cons, List.mapM_nil, Option.bind_eq_bind, Option.bind_eq_some_iff, Option.pure_def, Option.some.injEq] at h1
                  obtain ⟨a1, q1, r1, ⟨a2, q3, r2, rfl, rfl⟩, q4⟩ := h1
                  cases q4
                  exact pi_zip2 K.K gl hm hn.1 hn.2 (S.E _ _ q1).1 (S.E _ _ q3).1
                | [], _, h1 => have := mapM_len h1; simp at this
                | [_], _, h1 => have := mapM_len h1; simp at this
                | _ :: _ :: _ :: _, _, h1 => have := mapM_len h1; simp at this
              · cases h
            · cases h
          split at h
          · rename_i q
            obtain ⟨rfl, q2⟩ := isBl_of q
            have gl := gl_of K q2
            have hm := K.blt "enumerate" (by decide)
            split at h
            · rename_i y h1
              split at h
              · rename_i ht
                cases h
                cases t <;> first | (cases ht; done) | skip
                match as, hn, h1 with
                | [e1], hn, h1 =>
                  simp only [List.mapM_cons, List.mapM_nil, Option.bind_eq_bind, Option.bind_eq_some_iff, Option.pure_def, Option.some.injEq] at h1
                  obtain ⟨a1, q1, r1, rfl, q4⟩ := h1
                  cases q4
                  exact pi_enum2 K.K gl hm (by simpa using hn) (S.E _ _ q1).1
                | [], _, h1 => have := mapM_len h1; simp at this
                | _ :: _ :: _, _, h1 => have := mapM_len h1; simp at this
              · cases h
            · cases h
          · exact gen h
      · exact gen h
    · simp only [cT] at h
      split at h
      · rename_i x p
        split at h
        · rename_i hs
          simp only [Option.map_eq_some_iff] at h
          obtain ⟨i, h1, rfl⟩ := h
          obtain ⟨f1, _, _, _⟩ := slot_facts K h1
          obtain ⟨l1, l2⟩ := K.sto x hs
          exact pg_slot (pg_name K.nd f1 l1 l2)
        · cases h
      · rename_i es q p
        split at h
        · rename_i hn
          simp only [Option.map_eq_some_iff] at h
          obtain ⟨ts, h1, rfl⟩ := h
          obtain ⟨h2, h3⟩ := pts_list hn h1 fun e t h => S.T e t h
          exact pg_tup2 K.K K.calm hn h3 h2
        · split at h
          · rename_i hn
            split at h
            · rename_i k' ts hk h1
              cases h
              obtain ⟨h2, h3⟩ := pts_list hn h1 fun e t h => S.T e t h
              exact pg_star K.K K.calm hn (by rw [h3, List.length_map]) hk h2
            · cases h
          · cases h
      · rename_i o i p
        split at h
        · rename_i x pp
          split at h
          · rename_i hs
            split at h
            · rename_i j i' h1 h2
              cases h
              exact pg_sub2 (by have := K.room.units; omega) hs (pe_slotV K h1) (S.E i i' h2).1
            · cases h
          · cases h
        · cases h
      · cases h
end
end Pv
end

section
set_option Elab.async false
set_option linter.all false
set_option maxRecDepth 100000
set_option maxHeartbeats 4000000
/-! EvY: several values at once; parallel stores; attributes stored. -/
namespace Pv
open PySem PySem.Spec PyProof.Rows L2
def HX (W : Wr) (m : Fb) (θ : List Addr) (H : Hp) : FX → V → Prop
  | .d d, v => RepV W m θ H d v
  | .f o, v => ∃ a, v = .ref a ∧ ObR W m θ H o a
inductive HXs (W : Wr) (m : Fb) (θ : List Addr) (H : Hp) : List FX → List V → Prop
  | nil : HXs W m θ H [] []
  | cons {x : FX} {v : V} {xs : List FX} {vs : List V} : HX W m θ H x v → HXs W m θ H xs vs → HXs W m θ H (x :: xs) (v :: vs)
/-- the new objects among some values -/
def held : List FX → List V → Fb
  | .f _ :: xs, v :: vs, a => v = .ref a ∨ held xs vs a
  | .d _ :: xs, _ :: vs, a => held xs vs a
  | _, _, _ => False
/-- .. which lie apart -/
def apart : List FX → List V → Prop
  | .f _ :: xs, v :: vs => (∀ a, v = .ref a → ¬ held xs vs a) ∧ apart xs vs
  | .d _ :: xs, _ :: vs => apart xs vs
  | _, _ => True
def Fb.or (F G : Fb) : Fb := fun a => F a ∨ G a
/-- several ends of expressions -/
structure RXs (W : Wr) (F : Fb) (m0 : Fb) (θ0 : List Addr) (H0 : Hp) (θ : List Addr) (s : S) (σ : L2.St) (H : Hp) (xs : List FX) (vs : List V) : Prop where
  rep : Rep W (F.or (held xs vs)) θ s σ H
  keep : Keep m0 θ0 H0 (fun b => M0 θ s.ρ σ b ∨ held xs vs b) θ H
  val : HXs W (Mt (F.or (held xs vs)) θ s.ρ σ) θ H xs vs
  nF : ∀ a, held xs vs a → ¬ F a
  ap : apart xs vs
def tFs (W : Wr) (g : G) (as : List E) : TA := fun σ H Q => ∃ F θ s, Rep W F θ s σ H ∧ OkP (fun xs s' => ∀ vs H' θ', RXs W F (M0 θ s.ρ σ) θ H θ' s' σ H' xs vs → Q vs H') (evsF g as s)
section
variable {X : Cx} {W : Wr} {g : G} {F : Fb} {θ θ' : List Addr} {s s' : S} {σ : L2.St} {H H' : Hp} {m0 : Fb} {θ0 : List Addr} {H0 : Hp}
theorem HX.keepS {m m' : Fb} {x : FX} {v : V} (h : HX W m θ H x v) (k : Keep m θ H m' θ' H') (hk : ∀ a u, (∃ o, x = .f o) → v = .ref a → H a = some u → H' a = some u) : HX W m' θ' H' x v := by
  cases x with
  | d d => exact RepV.keep k h
  | f o => obtain ⟨a, rfl, r⟩ := h; exact ⟨a, rfl, r.keep k fun u e => hk a u ⟨o, rfl⟩ rfl e⟩
theorem HXs.less {m m' : Fb} : ∀ {xs : List FX} {vs : List V}, HXs W m θ H xs vs → (∀ a, m' a → m a) → HXs W m' θ H xs vs
  | _, _, .nil, _ => .nil
  | _, _, .cons h hs, k => .cons (h.keepS (keepLess k) fun _ _ _ _ e => e) (HXs.less hs k)
theorem pf_nil : PA X [] (tFs W g []) := ⟨fun pos pins s σ H Q I hq => pa_nil.run pos pins s σ H Q I (by
  obtain ⟨F, θ, s', R, q⟩ := hq
  have e : F.or (held [] []) = F := by funext a; exact propext ⟨fun z => z.elim id False.elim, .inl⟩
  exact q [] H θ ⟨by rw [e]; exact R, keepLess fun b z => z.elim id False.elim, .nil, fun a z => z.elim, trivial⟩)⟩
theorem pf_cons {a : E} {as : List E} {e : Expr} {es : List Expr} (hn : noStar e = true) (ha : PE X e (tE W (ev g a))) (hr : PA X es (tFs W g as)) : PA X (e :: es) (tFs W g (a :: as)) := by
  have h := pa_cons ha hr (star_of hn)
  refine ⟨fun pos pins s σ H Q I hq => h.run pos pins s σ H Q I ?_⟩
  obtain ⟨F, θ, s', R, q⟩ := hq
  refine tE_bind R (show OkP _ ((ev g a s').bind _) from q) fun x s1 v H1 θ1 rx q1 => ?_
  have q1 := OkP.bind q1
  cases x with
  | d d =>
    obtain ⟨R1, k1, r1⟩ := rx
    refine ⟨F, θ1, s1, R1, q1.imp fun xs s2 q2 vs H2 θ2 h2 => ?_⟩
    refine q2 (v :: vs) H2 θ2 ⟨h2.rep, k1.trans h2.keep, .cons ?_ h2.val, h2.nF, h2.ap⟩
    have kk : Keep (Mt F θ1 s1.ρ σ) θ1 H1 (Mt (F.or (held xs vs)) θ2 s2.ρ σ) θ2 H2 := by
      refine ⟨fun b o e n => h2.keep.kp b o e fun z => n (.inr z), fun b o e z => ?_, h2.keep.th⟩
      rcases z with (z | z) | z
      · exact .inl z
      · exact .inr (h2.keep.mm b o e (.inr z))
      · exact .inr (h2.keep.mm b o e (.inl z))
    exact RepV.keep kk r1
  | f o =>
    obtain ⟨b, rfl, n, R1, k1, r1⟩ := rx
    refine ⟨F.and b, θ1, s1, R1, q1.imp fun xs s2 q2 vs H2 θ2 h2 => ?_⟩
    have eF : (F.and b).or (held xs vs) = F.or (held (.f o :: xs) (.ref b :: vs)) := by
      funext a
      refine propext ⟨fun z => ?_, fun z => ?_⟩
      · rcases z with (z | z) | z
        · exact .inl z
        · subst z; exact .inr (.inl rfl)
        · exact .inr (.inr z)
      · rcases z with z | z | z
        · exact .inl (.inl z)
        · cases z; exact .inl (.inr rfl)
        · exact .inr z
    have rep := h2.rep
    have val := h2.val
    rw [eF] at rep val
    have nb : ¬ M0 θ1 s1.ρ σ b := R1.FT b (.inr rfl)
    obtain ⟨ub, eb, _⟩ := R1.Fd b (.inr rfl)
    refine q2 (.ref b :: vs) H2 θ2 ⟨rep, ⟨fun a u e nm => ?_, fun a u e z => ?_, fun l a e => h2.keep.th l a (k1.th l a e)⟩, .cons ⟨b, rfl, ?_⟩ val, fun a z => ?_, ?_⟩
    · have e1 := k1.kp a u e nm
      exact h2.keep.kp a u e1 fun z => nm (k1.mm a u e (.inl z))
    · rcases z with z | z | z
      · exact Classical.byContradiction fun nm => nm (k1.mm a u e (.inl (h2.keep.mm a u (k1.kp a u e nm) (.inl z))))
      · cases z; exact k1.mm b u e (.inr rfl)
      · exact Classical.byContradiction fun nm => nm (k1.mm a u e (.inl (h2.keep.mm a u (k1.kp a u e nm) (.inr z))))
    · have kk : Keep (Mt (F.and b) θ1 s1.ρ σ) θ1 H1 (Mt (F.or (held (.f o :: xs) (.ref b :: vs))) θ2 s2.ρ σ) θ2 H2 := by
        refine ⟨fun a u e nm => h2.keep.kp a u e fun z => nm (.inr z), fun a u e z => ?_, h2.keep.th⟩
        rcases z with (z | z | z) | z
        · exact .inl (.inl z)
        · cases z; exact .inl (.inr rfl)
        · exact .inr (h2.keep.mm a u e (.inr z))
        · exact .inr (h2.keep.mm a u e (.inl z))
      exact r1.keep kk fun u e => h2.keep.kp b u e nb
    · rcases z with z | z
      · cases z; exact n
      · exact fun f => h2.nF a z (.inl f)
    · exact ⟨fun a e z => by cases e; exact h2.nF b z (.inr rfl), h2.ap⟩
/-- the first of several stored -/
theorem RXs.put {x : FX} {v : V} {xs : List FX} {vs : List V} (h : RXs W F m0 θ0 H0 θ s σ H (x :: xs) (v :: vs)) {i : Nat} (hi : i < s.ρ.length) : RXs W F m0 θ0 H0 θ (s.set i (.of x)) (σ.set i (some v)) H xs vs := by
  obtain ⟨rep, keep, val, nF, ap⟩ := h
  cases val with
  | cons hx hxs =>
    cases x with
    | d d =>
      obtain ⟨R', sub⟩ := rep.putD (i := i) hx
      exact ⟨R', keep.less fun b z => z.imp (sub b) id, hxs.less fun a z => z.imp id (sub a), nF, ap⟩
    | f o =>
      obtain ⟨b, rfl, r⟩ := hx
      have eF : F.or (held (.f o :: xs) (.ref b :: vs)) = (F.or (held xs vs)).and b := by
        funext a
        refine propext ⟨fun z => ?_, fun z => ?_⟩
        · rcases z with z | z | z
          · exact .inl (.inl z)
          · cases z; exact .inr rfl
          · exact .inl (.inr z)
        · rcases z with (z | z) | z
          · exact .inl z
          · exact .inr (.inr z)
          · subst z; exact .inr (.inl rfl)
      rw [eF] at rep r hxs
      have nb : ¬ (F.or (held xs vs)) b := fun z => by
        rcases z with z | z
        · exact nF b (.inl rfl) z
        · exact ap.1 b rfl z
      obtain ⟨R', sub⟩ := rep.putO nb hi r
      refine ⟨R', keep.less fun c z => ?_, hxs.less fun a z => ?_, fun a z => nF a (.inr z), ap.2⟩
      · rcases z with z | z
        · rcases sub c z with z | z
          · exact .inl z
          · subst z; exact .inr (.inl rfl)
        · exact .inr (.inr z)
      · rcases z with z | z
        · exact .inl (.inl z)
        · rcases sub a z with z | z
          · exact .inr z
          · subst z; exact .inl (.inr rfl)
/-- all of them stored -/
def setV : List Nat → List V → L2.St → L2.St
  | i :: r, v :: vs, σ => setV r vs (σ.set i (some v))
  | _, _, σ => σ
theorem RXs.puts : ∀ {is : List Nat} {xs : List FX} {vs : List V} {s s' : S} {σ : L2.St}, RXs W F m0 θ0 H0 θ s σ H xs vs → (∀ i ∈ is, i < s.ρ.length) → setAll is xs s = some s' → Rep W F θ s' (setV is vs σ) H ∧ Keep m0 θ0 H0 (M0 θ s'.ρ (setV is vs σ)) θ H ∧ is.length = vs.length
  | [], [], vs, s, s', σ, h, _, e => by
    cases e
    cases vs with
    | nil =>
      have e : F.or (held [] []) = F := by funext a; exact propext ⟨fun z => z.elim id False.elim, .inl⟩
      have R := h.rep
      rw [e] at R
      exact ⟨R, h.keep.less fun b z => .inl z, rfl⟩
    | cons v vs => cases h.val
  | i :: is, x :: xs, vs, s, s', σ, h, hl, e => by
    cases vs with
    | nil => cases h.val
    | cons v vs =>
      have e : setAll is xs (s.set i (.of x)) = some s' := e
      obtain ⟨a, b, c⟩ := RXs.puts (h.put (hl i List.mem_cons_self)) (fun j hj => by show j < (setN s.ρ i _).length; rw [setN_length]; exact hl j (List.mem_cons_of_mem _ hj)) e
      exact ⟨a, b, congrArg Nat.succ c⟩
  | [], _ :: _, _, _, _, _, _, _, e => by cases e
  | _ :: _, [], _, _, _, _, _, _, e => by cases e
theorem setV_out : ∀ {is : List Nat} {vs : List V} {σ : L2.St} {j : Nat}, j ∉ is → (setV is vs σ)[j]? = σ[j]?
  | [], _, _, _, _ => rfl
  | i :: is, [], _, _, _ => rfl
  | i :: is, v :: vs, σ, j, h => by
    rw [List.mem_cons, not_or] at h
    show (setV is vs (σ.set i (some v)))[j]? = _
    rw [setV_out h.2, List.getElem?_set, if_neg (Ne.symm h.1)]
/-- a, b, .. = x, y, .. by names -/
theorem ps_par' {fx : List Nat} {st : Stmt} {is : List Nat} {as : List E} (hfx : ∀ i ∈ is, i ∉ fx) (hN : ∀ i ∈ is, i < X.N.length) {ta : TA} (h : PS X st (fun D σ H => tFs W g as σ H fun vs H1 => is.length = vs.length → vs.length ≤ sizeLine → D.nx (setV is vs σ) H1)) (hl : is.length ≤ 1000) : PS X st (tS W fx (ex g (.par is as))) := by
  refine ⟨fun pins s0 σ H D I hq => h.run pins s0 σ H D I ?_⟩
  obtain ⟨F, θ, s, R, q⟩ := hq
  refine ⟨F, θ, s, R, (OkP.bind (show OkP (PF W F (M0 θ s.ρ σ) θ H fx σ D) ((evsF g as s).bind _) from q)).imp fun xs s1 q1 vs H1 θ1 hx e1 _ => ?_⟩
  have q1 : OkP (PF W F (M0 θ s.ρ σ) θ H fx σ D) (match setAll is xs s1 with
      | some s => .ok .nx s
      | none => .err) := q1
  cases es : setAll is xs s1 with
  | none => rw [es] at q1; exact q1.elim
  | some s2 =>
    rw [es] at q1
    obtain ⟨R2, k2, _⟩ := hx.puts (fun i hi => by rw [hx.rep.len, I.len]; exact hN i hi) es
    exact q1 _ H1 θ1 R2 k2 fun j hj => setV_out fun z => hfx j z hj
end
end Pv
end

section
set_option Elab.async false
set_option linter.all false
set_option maxRecDepth 100000
set_option maxHeartbeats 4000000
/-! EvZ: statements from the text. -/
namespace Pv
open PySem PySem.Spec PyProof.Rows L2
def swapRes (sc : Scope) (ts vs : List Expr) : Option (Option (List Str)) :=
  if !(ts.length == 2 || ts.length == 3) || vs.length != ts.length then some none
  else if (vs.any fun | .Starred .. => true | _ => false) then some none
  else
    let line := (ts.head?.map (·.pos.line)).getD 0
    let names := ts.filterMap fun
      | .Name id pos => if sc.names.lookup id == some .local && pos.line == line then some id else none
      | _ => none
    if names.length != ts.length || names.eraseDups.length != names.length then some none
    else if vs.all (foldedForSure 8) then some none
    else if vs.all (constantsAlone 8) then none
    else some (some names)
theorem swapped_of {env : Env} {sc : Scope} {ts vs : List Expr} {k k2 : Nat} {p p2 : Pos} {r : Option (List Str)} (hk : env.scope.kind = .function) (hs : env.scope = sc) (h : swapRes sc ts vs = some r) : swappedStores [.Tuple ts k p] (.Tuple vs k2 p2) env = pure r := by
  subst hs
  have hb : (env.blockKind != ScopeKind.function) = false := by
    unfold Env.blockKind
    rw [hk]; rfl
  unfold swapRes at h
  unfold swappedStores
  show (if (!(ts.length == 2 || ts.length == 3) || vs.length != ts.length || env.blockKind != .function) = true then _ else _) = _
  rw [hb, Bool.or_false]
  split at h
  · rename_i q; cases h; exact if_pos q
  · rename_i q
    refine (if_neg q).trans ?_
    split at h
    · rename_i q2; cases h; exact if_pos q2
    · rename_i q2
      refine (if_neg q2).trans ?_
      simp only at h
      split at h
      · rename_i q3; cases h; exact if_pos q3
      · rename_i q3
        refine (if_neg q3).trans ?_
        split at h
        · rename_i q4; cases h; exact if_pos q4
        · rename_i q4
          refine (if_neg q4).trans ?_
          split at h
          · cases h
          · rename_i q5; cases h; exact if_neg q5
def swapLc (sc : Scope) (t : Str) (tp : Pos) (v : Expr) (scope : Scope) : Bool := sc.names.lookup t == some .local && tp.line == v.pos.line && !(scope.names.any fun (n, k) => n == t && (k == .local || k == .cell))
theorem swaps_lc {env : Env} {sc : Scope} {t : Str} {tp : Pos} {v : Expr} {elt : Expr} {gens : List Comprehension} {scope : Scope} {pos : Pos} {line : Nat} (hk : env.scope.kind = .function) (hs : env.scope = sc) (hv : v = .ListComp elt gens scope pos) :
    swapsWith v (some (.Name t tp)) line env = pure (swapLc sc t tp v scope) := by
  subst hs; subst hv
  have hb : (env.blockKind == ScopeKind.function) = true := by
    unfold Env.blockKind
    rw [hk]; rfl
  show (pure (env.blockKind == .function && env.kindOf t == some .local && tp.line == pos.line && !(scope.names.any fun (n, k) => n == t && (k == .local || k == .cell))) : Sem Bool) = _
  rw [hb, Bool.true_and]
  rfl
def isComp : Expr → Bool
  | .ListComp .. => true
  | .SetComp .. => true
  | .DictComp .. => true
  | _ => false
theorem swaps_no {v : Expr} {t : Option Expr} {line : Nat} {env : Env} (h : isComp v = false) : swapsWith v t line env = pure false := by
  cases v <;> first | rfl | cases h
def isTupE : Expr → Bool
  | .Tuple .. => true
  | _ => false
theorem swapped_no {t v : Expr} {env : Env} (h : isTupE v = false) : swappedStores [t] v env = pure none := by
  unfold swappedStores
  cases t <;> cases v <;> first | rfl | cases h
def names2 : List Expr → Option (List Str)
  | [] => some []
  | .Name x _ :: r => (names2 r).map (x :: ·)
  | _ => none
def slotsOf (c : CE) : List Str → Option (List Nat)
  | [] => some []
  | x :: r => if c.sto x then match slotOf c x, slotsOf c r with
      | some i, some is => some (i :: is)
      | _, _ => none
    else none
mutual
/-- a statement; a form that is not covered is one that may not be reached -/
def cS (c : CE) (m : Nat) : Nat → Stmt → Stm
  | 0, _ => .never
  | n + 1, st => match st with
    | .Pass _ => .pass
    | .Break _ => .brk
    | .Continue _ => .cont
    | .Return none _ => .retN
    | .Return (some e) _ => match e with
      | .Name x _ => match slotOf c x with
        | some i => if c.prom x then .never else .retS i
        | none => match cE c m e with
          | some a => .ret a
          | none => .never
      | e => match cE c m e with
        | some a => .ret a
        | none => .never
    | .If t a b _ => if notIf t then match cO c m t with
        | some t' => .ite t' (cSs c m n a) (cSs c m n b)
        | none => .never
      else .never
    | .For t it body [] _ => if notSet it then match cT c m t, cI c m t it with
        | some t', some it' => if (tSlots t').all fun j => !(c.fx.contains j) then .forr t' it' (cSs c m n body) else .never
        | _, _ => .never
      else .never
    | .While t body [] _ => if notIf t then match cO c m t with
        | some t' => .whil t' (cSs c m n body)
        | none => .never
      else .never
    | .Expr e _ => match e with
      | .Call (.Attribute (.Name x _) "append" ap) [a] [] cp => if ap.endLine == cp.line && noStar a then match slotOf c x, cE c m a with
          | some i, some a' => .app i a'
          | _, _ => .never
        else .never
      | e => if isComp e then .never else match cE c m e with
        | some a => .expr a
        | none => .never
    | .Assign [tg] v _ => match tg with
      | .Name x tp => if c.sto x then match slotOf c x with
          | some i => if c.fx.contains i then .never else match v with
            | .DictComp .. => .never
            | .SetComp .. => .never
            | .ListComp elt gens scope pos => if c.sc.names.lookup x == some .local || !(swapLc c.sc x tp (.ListComp elt gens scope pos) scope) then match cE c m v with
                | some a => .asg (.slot i) a
                | none => .never
              else .never
            | v => match cE c m v with
              | some a => .asg (.slot i) a
              | none => .never
          | none => .never
        else .never
      | .Tuple ts tk tp => match v with
        | .Tuple vs _ _ => if vs.all noStar && ts.all noStar then match swapRes c.sc ts vs with
            | some (some _) => match names2 ts with
              | some xs => match slotsOf c xs, vs.mapM (cE c m) with
                | some is, some as => if is.all (fun j => !(c.fx.contains j)) && decide is.Nodup && xs.all (fun x => c.sc.names.lookup x == some .local) then .par is as else .never
                | _, _ => .never
              | none => .never
            | some none => match names2 ts with
              | some xs => match slotsOf c xs, vs.mapM (cE c m) with
                | some is, some as => if is.all (fun j => !(c.fx.contains j)) && decide (is.length ≤ 1000) then .par is as else .never
                | _, _ => .never
              | none => match cT c m tg, cE c m v with
                | some t', some a => if (tSlots t').all fun j => !(c.fx.contains j) then .asg t' a else .never
                | _, _ => .never
            | none => .never
          else .never
        | v => if isComp v then .never else match cT c m (.Tuple ts tk tp), cE c m v with
          | some t', some a => if (tSlots t').all fun j => !(c.fx.contains j) then .asg t' a else .never
          | _, _ => .never
      | .Subscript o i sp => if isComp v then .never else match cT c m (.Subscript o i sp), cE c m v with
        | some t', some a => .asg t' a
        | _, _ => .never
      | .Attribute o f _ => match o with
        | .Name x _ => if c.fld f then match slotOf c x, cE c m v with
          | some i, some a => .asg (.attr i f) a
          | _, _ => .never
          else .never
        | _ => .never
      | _ => .never
    | _ => .never
def cSs (c : CE) (m : Nat) : Nat → List Stmt → List Stm
  | 0, _ => [.never]
  | _ + 1, [] => []
  | n + 1, st :: r => cS c m n st :: cSs c m n r
end
end Pv
end

section
set_option Elab.async false
set_option linter.all false
set_option maxRecDepth 100000
set_option maxHeartbeats 4000000
/-! EvZb: statements are sound. -/
namespace Pv
open PySem PySem.Spec PyProof.Rows L2
section
variable {X : Cx} {W : Wr} {P : Prog} {rp : D → Option Str} {k : Nat} {c : CE} {m n : Nat}
structure SOk (X : Cx) (W : Wr) (P : Prog) (rp : D → Option Str) (k : Nat) (c : CE) : Prop where
  x : XOk X W P rp k c
  kind : X.env.scope.kind = .function
  pass : PassesOwn (model X.prog X.w) X.A X.env X.xe
abbrev PSn (X : Cx) (W : Wr) (P : Prog) (rp : D → Option Str) (k : Nat) (c : CE) (st : Stmt) (s : Stm) : Prop := PS X st (tS W c.fx (ex (gAt P rp k) s))
abbrev PSsn (X : Cx) (W : Wr) (P : Prog) (rp : D → Option Str) (k : Nat) (c : CE) (st : List Stmt) (s : List Stm) : Prop := PSs X st (tS W c.fx (exs (gAt P rp k) s))
theorem ps_while' {fx : List Nat} {g : G} (hp : PassesOwn (model X.prog X.w) X.A X.env X.xe) {t : Expr} {body : List Stmt} {t' : E} {b : List Stm} {pos : Pos} (ht : PT X t (tT W g t')) (hb : PSs X body (tS W fx (exs g b))) : PS X (.While t body [] pos) (tS W fx (ex g (.whil t' b))) := by
  refine monoS (ps_while hp ht hb) fun E σ0 H0 hq => ?_
  obtain ⟨F, θ0, s0, R0, q⟩ := hq
  have q : OkP (PF W F (M0 θ0 s0.ρ σ0) θ0 H0 fx σ0 E) (whilL (tst t' (ev g t')) (exs g b) fuel s0) := q
  refine ⟨fun i σ H => ∃ θ s, Rep W F θ s σ H ∧ Keep (M0 θ0 s0.ρ σ0) θ0 H0 (M0 θ s.ρ σ) θ H ∧ (∀ j ∈ fx, σ[j]? = σ0[j]?) ∧ OkP (PF W F (M0 θ0 s0.ρ σ0) θ0 H0 fx σ0 E) (whilL (tst t' (ev g t')) (exs g b) i s), ⟨fuel, θ0, s0, R0, .refl, fun _ _ => rfl, q⟩, ?_⟩
  rintro i σ H ⟨θ, s, R, k, ee, q⟩
  cases i with
  | zero => exact q.elim
  | succ i =>
    refine ⟨F, θ, s, R, (OkP.bind (show OkP _ ((tst t' (ev g t') s).bind _) from q)).imp fun c s1 q1 H1 θ1 R1 k1 => ?_⟩
    cases c with
    | false =>
      show (if false = true then _ else _)
      rw [if_neg Bool.false_ne_true]
      rw [if_neg Bool.false_ne_true] at q1
      exact q1 σ H1 θ1 R1 (k.trans k1) ee
    | true =>
      show (if true = true then _ else _)
      rw [if_pos rfl]
      rw [if_pos rfl] at q1
      refine ⟨fun σ H => ∃ θ s, Rep W F θ s σ H ∧ Keep (M0 θ0 s0.ρ σ0) θ0 H0 (M0 θ s.ρ σ) θ H ∧ (∀ j ∈ fx, σ[j]? = σ0[j]?) ∧ OkP (PF W F (M0 θ0 s0.ρ σ0) θ0 H0 fx σ0 E) (whilL (tst t' (ev g t')) (exs g b) i s), fun σ' H' h => ⟨i, Nat.lt_succ_self i, h⟩, ?_⟩
      refine ⟨F, θ1, s1, R1, (OkP.bind q1).imp fun fl s2 q2 => ?_⟩
      cases fl with
      | nx => exact fun σ2 H2 θ2 R2 k2 e2 => ⟨θ2, s2, R2, (k.trans k1).trans k2, fun j hj => (e2 j hj).trans (ee j hj), q2⟩
      | cont => exact fun σ2 H2 θ2 R2 k2 e2 => ⟨θ2, s2, R2, (k.trans k1).trans k2, fun j hj => (e2 j hj).trans (ee j hj), q2⟩
      | brk => exact fun σ2 H2 θ2 R2 k2 e2 => q2 σ2 H2 θ2 R2 ((k.trans k1).trans k2) fun j hj => (e2 j hj).trans (ee j hj)
      | ret x => exact fun v σ2 H2 θ2 rx => q2 v σ2 H2 θ2 (rx.from (k.trans k1))
/-- target = e, not a name alone -/
theorem ps_asg' {fx : List Nat} {g : G} {tg e : Expr} {t : T} {a : E} {pos : Pos} (hns : ∀ i, t ≠ .slot i) (hfx : ∀ j ∈ tSlots t, j ∉ fx) (he : PE X e (tE W (ev g a))) (hg : PG X tg (tG W g t)) (hs : swapsWithSole [tg] e pos.line X.env = pure false) (hw : swappedStores [tg] e X.env = pure none)
    (h1 : (assignEach [tg] X.env).map (·.2) = [assign tg X.env]) : PS X (.Assign [tg] e pos) (tS W fx (ex g (.asg t a))) := by
  refine monoS (ps_asg he hg hs hw h1) fun E σ H hq => ?_
  obtain ⟨F, θ, s, R, q⟩ := hq
  refine tE_bind (P := PF W F (M0 θ s.ρ σ) θ H fx σ E) R (show OkP _ ((ev g a s).bind _) from q) fun x s1 v H1 θ1 rx q1 => ?_
  have q1 : OkP (PF W F (M0 θ s.ρ σ) θ H fx σ E) ((asT g t x.frz s1).bind fun _ s => .ok .nx s) := by
    cases t with
    | slot i => exact (hns i rfl).elim
    | _ => exact q1
  refine ⟨F, θ1, s1, _, rx.rep, rx.val, (OkP.bind q1).imp fun _ s2 q2 σ2 H2 θ2 R2 k2 out => ?_⟩
  exact q2 σ2 H2 θ2 R2 (rx.keep.trans k2) fun j hj => out.2 j fun z => hfx j z hj
/-- name.f = e -/
theorem fields_put {m' : Fb} {θ : List Addr} {H : Hp} {n : Str} {x : D} {v : V} (r : RepV W m' θ H x v) : ∀ {fs : List (Str × D)} {vfs : List (Str × V)}, vfs.map (·.1) = fs.map (·.1) → RepVs W m' θ H (fs.map (·.2)) (vfs.map (·.2)) →
    (putF n v vfs).map (·.1) = (fieldsPut fs n x).map (·.1) ∧ RepVs W m' θ H ((fieldsPut fs n x).map (·.2)) ((putF n v vfs).map (·.2))
  | [], [], _, _ => ⟨rfl, .cons r .nil⟩
  | [], _ :: _, e, _ => by cases e
  | _ :: _, [], e, _ => by cases e
  | (y, d) :: fs, (z, w) :: vfs, e, rs => by
    simp only [List.map_cons, List.cons.injEq] at e
    obtain ⟨rfl, e2⟩ := e
    cases rs with
    | cons r1 rs =>
      unfold putF fieldsPut
      by_cases q : z = n
      · rw [if_pos q, if_pos q]
        exact ⟨by simp [e2], .cons r rs⟩
      · rw [if_neg q, if_neg q]
        obtain ⟨h1, h2⟩ := fields_put r e2 rs
        exact ⟨by simp [h1], .cons r1 h2⟩
theorem ps_asgA {fx : List Nat} {g : G} {fld : Str → Bool} (hgP : g.P = P) (C : ClsOk X.K W P fld) {i : Nat} {f : Str} {eo e : Expr} {a : E} {p pos : Pos} (hf : fld f = true) (ho : PE X eo (tVar i)) (he : PE X e (tE W (ev g a))) : PS X (.Assign [.Attribute eo f p] e pos) (tS W fx (ex g (.asg (.attr i f) a))) := by
  have hs : swapsWith e (some (.Attribute eo f p)) pos.line X.env = pure false := by
    cases e <;> rfl
  refine monoS (ps_fld ho he hs) fun E σ H hq => ?_
  obtain ⟨F, θ, s, R, q⟩ := hq
  refine tE_bind (P := PF W F (M0 θ s.ρ σ) θ H fx σ E) R (show OkP _ ((ev g a s).bind _) from q) fun x s1 v H1 θ1 rx q1 => ?_
  have q1 : OkP (PF W F (M0 θ s.ρ σ) θ H fx σ E) ((match getN s1.ρ i with
      | .own (.ins c fs) => if (g.P.prop c f).isNone && decide (fs.length < 1000) then Out.ok () (s1.set i (.own (.ins c (fieldsPut fs f x.frz)))) else Out.err
      | _ => (Out.err : Out Unit)).bind fun _ s => .ok .nx s) := q1
  cases g1 : getN s1.ρ i with
  | no => rw [g1] at q1; exact q1.elim
  | clo _ _ => rw [g1] at q1; exact q1.elim
  | val _ => rw [g1] at q1; exact q1.elim
  | own o =>
    rw [g1] at q1
    obtain ⟨b, hv, r⟩ := rx.rep.own g1
    cases o with
    | lst _ => exact q1.elim
    | dic _ => exact q1.elim
    | tbl _ => exact q1.elim
    | ins q fs =>
      simp only at q1
      split at q1
      · rename_i hq
        rw [Bool.and_eq_true, decide_eq_true_eq, hgP, Option.isNone_iff_eq_none] at hq
        obtain ⟨dx, vfs, e1, en, rs⟩ := r
        have hl : vfs.length = fs.length := by simpa using congrArg List.length en
        refine ⟨_, hv, b, _, dx, vfs, rfl, e1, (C.cf q).cls, C.noat q f hf hq.1, by rw [hl]; exact hq.2, ?_⟩
        obtain ⟨R2, k2⟩ := rx.rep.chgO g1 hv (o' := .ins q (fieldsPut fs f x.frz)) (u := .ins (W.ca q) dx (putF f v vfs)) trivial fun m' θ' H'' kp eH => by
          obtain ⟨h1, h2⟩ := fields_put (n := f) (RepV.keep kp rx.val) en (rs.keep kp)
          exact ⟨dx, _, by rw [eH]; exact upd_same, h1, h2⟩
        exact q1 σ _ θ1 R2 (rx.keep.trans k2) fun _ _ => rfl
      · exact q1.elim
/-! ### parallel stores -/
theorem pf_list {g : G} {es : List Expr} {as : List E} {cf : Expr → Option E} (hn : es.all noStar = true) (h : es.mapM cf = some as) (he : ∀ e a, cf e = some a → PE X e (tE W (ev g a))) : PA X es (tFs W g as) := by
  induction es generalizing as with
  | nil => simp at h; subst h; exact pf_nil
  | cons e es ih =>
    rw [List.all_cons, Bool.and_eq_true] at hn
    rw [List.mapM_cons] at h
    simp only [Option.bind_eq_bind, Option.bind_eq_some_iff, Option.pure_def, Option.some.injEq] at h
    obtain ⟨a, h1, bs, h2, rfl⟩ := h
    exact pf_cons hn.1 (he e a h1) (ih hn.2 h2)
theorem HXs.len {m' : Fb} {θ : List Addr} {H : Hp} : ∀ {xs : List FX} {vs : List V}, HXs W m' θ H xs vs → xs.length = vs.length
  | _, _, .nil => rfl
  | _, _, .cons _ h => congrArg Nat.succ h.len
theorem HXs.lay {m' : Fb} {θ : List Addr} {H : Hp} {p : Addr} {u : HO} (n : H p = none) : ∀ {xs : List FX} {vs : List V}, HXs W m' θ H xs vs → HXs W m' θ (upd H p u) xs vs
  | _, _, .nil => .nil
  | _, _, .cons h hs => .cons (h.keepS (.new n fun b z => .inl z) fun a w _ _ e => by rw [upd_ne (ne_of_none e n)]; exact e) (HXs.lay n hs)
theorem RXs.lay {F m0 : Fb} {θ0 θ : List Addr} {H0 H : Hp} {s : S} {σ : L2.St} {xs : List FX} {vs : List V} {p : Addr} {u : HO} (h : RXs W F m0 θ0 H0 θ s σ H xs vs) (n : H p = none) : RXs W F m0 θ0 H0 θ s σ (upd H p u) xs vs :=
  ⟨h.rep.lay n, h.keep.trans (.new n fun b z => .inl z), h.val.lay n, h.nF, h.ap⟩
def gNs (is : List Nat) : TGs := fun vs σ H Q => is.length = vs.length ∧ Q (setV is vs σ) H
theorem pgs_names (K : XOk X W P rp k c) : ∀ {ts : List Expr} {xs : List Str} {is : List Nat}, names2 ts = some xs → slotsOf c xs = some is → PGs X ts (gNs is)
  | [], xs, is, h1, h2 => by
    cases h1; cases h2
    exact monoGs pgs_nil fun vs σ H Q ⟨hl, q⟩ => by
      cases vs with
      | nil => exact ⟨rfl, q⟩
      | cons _ _ => cases hl
  | e :: ts, xs, is, h1, h2 => by
    cases e <;> first | (simp [names2] at h1; done) | skip
    rename_i x p
    simp only [names2, Option.map_eq_some_iff] at h1
    obtain ⟨xs', h1, rfl⟩ := h1
    simp only [slotsOf] at h2
    split at h2
    · rename_i hs
      split at h2
      · rename_i i is' h3 h4
        cases h2
        obtain ⟨f1, _, _, _⟩ := slot_facts K h3
        obtain ⟨l1, l2⟩ := K.sto x hs
        refine monoGs (pgs_cons (pg_name K.nd f1 l1 l2) (pgs_names K h1 h4) rfl) fun vs σ H Q ⟨hl, q⟩ => ?_
        cases vs with
        | nil => cases hl
        | cons v vs => exact ⟨v, vs, rfl, Nat.succ.inj hl, q⟩
      · cases h2
    · cases h2
theorem slots_lt (K : XOk X W P rp k c) : ∀ {xs : List Str} {is : List Nat}, slotsOf c xs = some is → ∀ i ∈ is, i < X.N.length
  | [], is, h, i, hi => by cases h; cases hi
  | x :: xs, is, h, i, hi => by
    simp only [slotsOf] at h
    split at h
    · split at h
      · rename_i j is' h3 h4
        cases h
        rcases List.mem_cons.mp hi with rfl | hi
        · exact (List.getElem?_eq_some_iff.mp (slot_facts K h3).1).1
        · exact slots_lt K h4 i hi
      · cases h
    · cases h
theorem names_star : ∀ {ts : List Expr} {xs : List Str}, names2 ts = some xs → ts.all noStar = true
  | [], _, _ => rfl
  | e :: ts, xs, h => by
    cases e <;> first | (simp [names2] at h; done) | skip
    simp only [names2, Option.map_eq_some_iff] at h
    obtain ⟨xs', h, _⟩ := h
    simp [noStar, names_star h]
theorem names_len : ∀ {ts : List Expr} {xs : List Str}, names2 ts = some xs → xs.length = ts.length
  | [], _, h => by cases h; rfl
  | e :: ts, xs, h => by
    cases e <;> first | (simp [names2] at h; done) | skip
    simp only [names2, Option.map_eq_some_iff] at h
    obtain ⟨xs', h, rfl⟩ := h
    exact congrArg Nat.succ (names_len h)
theorem slots_len : ∀ {xs : List Str} {is : List Nat}, slotsOf c xs = some is → is.length = xs.length
  | [], is, h => by cases h; rfl
  | x :: xs, is, h => by
    simp only [slotsOf] at h
    split at h
    · split at h
      · rename_i j is' h3 h4
        cases h
        exact congrArg Nat.succ (slots_len h4)
      · cases h
    · cases h
theorem ps_parN (K : XOk X W P rp k c) {fx : List Nat} {g : G} {ts vs : List Expr} {xs : List Str} {is : List Nat} {as : List E} {kt kv : Nat} {tp vp pos : Pos} (hfx : ∀ i ∈ is, i ∉ fx) (h1 : names2 ts = some xs) (h2 : slotsOf c xs = some is) (hl : is.length ≤ 1000) (ha : PA X vs (tFs W g as))
    (hw : swappedStores [.Tuple ts kt tp] (.Tuple vs kv vp) X.env = pure none) : PS X (.Assign [.Tuple ts kt tp] (.Tuple vs kv vp) pos) (tS W fx (ex g (.par is as))) := by
  have pg := pg_tup (pos := tp) (k := kt) K.calm (pgs_names K h1 h2) (n := ts.length) ass_len (ass_idx (names_star h1))
  have h0 := ps_asg (pos := pos) (pe_tup (x1 := kv) (pos := vp) ha) pg rfl hw rfl
  refine ⟨fun pins s0 σ H E I hq => h0.run pins s0 σ H E I ?_⟩
  obtain ⟨F, θ, s, R, q⟩ := hq
  refine ⟨F, θ, s, R, (OkP.bind (show OkP (PF W F (M0 θ s.ρ σ) θ H fx σ E) ((evsF g as s).bind _) from q)).imp fun fs s1 q1 us H1 θ1 hx => ?_⟩
  have q1 : OkP (PF W F (M0 θ s.ρ σ) θ H fx σ E) (match setAll is fs s1 with
      | some s => .ok .nx s
      | none => .err) := q1
  cases es : setAll is fs s1 with
  | none => rw [es] at q1; exact q1.elim
  | some s2 =>
    rw [es] at q1
    have hN : ∀ i ∈ is, i < s1.ρ.length := fun i hi => by rw [hx.rep.len, I.len]; exact slots_lt K h2 i hi
    obtain ⟨_, _, ln⟩ := hx.puts hN es
    have hz : us.length ≤ sizeLine := by rw [← ln, sizeLine_eq]; omega
    refine ⟨hz, fun p hp => ⟨p, us, rfl, .inl (.inl upd_same), ?_, ln, ?_⟩⟩
    · rw [← ln, slots_len h2, names_len h1]
    · obtain ⟨R2, k2, _⟩ := (hx.lay hp).puts hN es
      exact q1 _ _ θ1 R2 k2 fun j hj => setV_out fun z => hfx j z hj
theorem ps_par2x (K : XOk X W P rp k c) {fx : List Nat} {g : G} {a b : Expr} {x y : Str} {i j : Nat} {as : List E} {kt kv : Nat} {px py tp vp pos : Pos} (hfx : ∀ l ∈ [i, j], l ∉ fx) (hi : slotOf c x = some i) (hj : slotOf c y = some j) (hij : i ≠ j) (hx : c.sc.names.lookup x = some .local) (hy : c.sc.names.lookup y = some .local)
    (ha : PA X [a, b] (tFs W g as)) (hw : swappedStores [.Tuple [.Name x px, .Name y py] kt tp] (.Tuple [a, b] kv vp) X.env = pure (some [x, y])) : PS X (.Assign [.Tuple [.Name x px, .Name y py] kt tp] (.Tuple [a, b] kv vp) pos) (tS W fx (ex g (.par [i, j] as))) := by
  have f1 := (slot_facts K hi).1
  have f2 := (slot_facts K hj).1
  have h0 := ps_par (pos := pos) K.calm K.nd f1 f2 hij (by rw [K.sc]; exact hx) (by rw [K.sc]; exact hy) ha hw rfl
  refine ⟨fun pins s0 σ H E I hq => h0.run pins s0 σ H E I ?_⟩
  obtain ⟨F, θ, s, R, q⟩ := hq
  refine ⟨F, θ, s, R, (OkP.bind (show OkP (PF W F (M0 θ s.ρ σ) θ H fx σ E) ((evsF g as s).bind _) from q)).imp fun fs s1 q1 us H1 θ1 hx => ?_⟩
  have q1 : OkP (PF W F (M0 θ s.ρ σ) θ H fx σ E) (match setAll [i, j] fs s1 with
      | some s => .ok .nx s
      | none => .err) := q1
  cases es : setAll [i, j] fs s1 with
  | none => rw [es] at q1; exact q1.elim
  | some s2 =>
    rw [es] at q1
    have hN : ∀ l ∈ [i, j], l < s1.ρ.length := fun l hl => by
      rw [hx.rep.len, I.len]
      rcases List.mem_cons.mp hl with rfl | hl
      · exact (List.getElem?_eq_some_iff.mp f1).1
      · rw [List.mem_singleton.mp hl]; exact (List.getElem?_eq_some_iff.mp f2).1
    obtain ⟨R2, k2, ln⟩ := hx.puts hN es
    match us, ln, R2, k2 with
    | [v, w], _, R2, k2 => exact ⟨v, w, rfl, q1 _ _ θ1 R2 k2 fun l hl => setV_out (is := [i, j]) (vs := [v, w]) fun z => hfx l z hl⟩
theorem ps_par3x (K : XOk X W P rp k c) {fx : List Nat} {g : G} {a b d : Expr} {x y z : Str} {i j l : Nat} {as : List E} {kt kv : Nat} {px py pz tp vp pos : Pos} (hfx : ∀ q ∈ [i, j, l], q ∉ fx) (hi : slotOf c x = some i) (hj : slotOf c y = some j) (hl : slotOf c z = some l) (hij : i ≠ j) (hil : i ≠ l) (hjl : j ≠ l)
    (hx : c.sc.names.lookup x = some .local) (hy : c.sc.names.lookup y = some .local) (hz : c.sc.names.lookup z = some .local) (ha : PA X [a, b, d] (tFs W g as)) (hw : swappedStores [.Tuple [.Name x px, .Name y py, .Name z pz] kt tp] (.Tuple [a, b, d] kv vp) X.env = pure (some [x, y, z])) :
    PS X (.Assign [.Tuple [.Name x px, .Name y py, .Name z pz] kt tp] (.Tuple [a, b, d] kv vp) pos) (tS W fx (ex g (.par [i, j, l] as))) := by
  have f1 := (slot_facts K hi).1
  have f2 := (slot_facts K hj).1
  have f3 := (slot_facts K hl).1
  have h0 := ps_par3 (pos := pos) K.calm K.nd f1 f2 f3 hij hil hjl (by rw [K.sc]; exact hx) (by rw [K.sc]; exact hy) (by rw [K.sc]; exact hz) ha hw rfl
  refine ⟨fun pins s0 σ H E I hq => h0.run pins s0 σ H E I ?_⟩
  obtain ⟨F, θ, s, R, q⟩ := hq
  refine ⟨F, θ, s, R, (OkP.bind (show OkP (PF W F (M0 θ s.ρ σ) θ H fx σ E) ((evsF g as s).bind _) from q)).imp fun fs s1 q1 us H1 θ1 hx => ?_⟩
  have q1 : OkP (PF W F (M0 θ s.ρ σ) θ H fx σ E) (match setAll [i, j, l] fs s1 with
      | some s => .ok .nx s
      | none => .err) := q1
  cases es : setAll [i, j, l] fs s1 with
  | none => rw [es] at q1; exact q1.elim
  | some s2 =>
    rw [es] at q1
    have hN : ∀ q ∈ [i, j, l], q < s1.ρ.length := fun q hq => by
      rw [hx.rep.len, I.len]
      rcases List.mem_cons.mp hq with rfl | hq
      · exact (List.getElem?_eq_some_iff.mp f1).1
      rcases List.mem_cons.mp hq with rfl | hq
      · exact (List.getElem?_eq_some_iff.mp f2).1
      · rw [List.mem_singleton.mp hq]; exact (List.getElem?_eq_some_iff.mp f3).1
    obtain ⟨R2, k2, ln⟩ := hx.puts hN es
    match us, ln, R2, k2 with
    | [u, v, w], _, R2, k2 => exact ⟨u, v, w, rfl, q1 _ _ θ1 R2 k2 fun l' hl' => setV_out (is := [i, j, l]) (vs := [u, v, w]) fun z => hfx l' z hl'⟩
end
end Pv
end

section
set_option Elab.async false
set_option linter.all false
set_option maxRecDepth 100000
set_option maxHeartbeats 4000000
/-! EvZc: the induction over statements. -/
namespace Pv
open PySem PySem.Spec PyProof.Rows L2
section
variable {X : Cx} {W : Wr} {P : Prog} {rp : D → Option Str} {k : Nat} {c : CE} {m n : Nat}
theorem fx_of {ts : List Nat} {fx : List Nat} (h : (ts.all fun j => !(fx.contains j)) = true) : ∀ j ∈ ts, j ∉ fx := fun j hj z => by
  have := List.all_eq_true.mp h j hj
  simp [z] at this
theorem lc_parts (ih : IH W P rp k n) (K : XOk X W P rp k c) {elt : Expr} {gens : List Comprehension} {scope : Scope} {p : Pos} {a : E} (h : cE c (n + 1) (.ListComp elt gens scope p) = some a) :
    ∃ (tg iter : Expr) (ifs : List Expr) (own : List (Str × Nat)) (t : T) (it : Pv.It) (ifs' : List E) (x : E), gens = [⟨tg, iter, ifs, 0⟩] ∧ a = .comp (own.map (·.2)) t it ifs' x ∧ (∀ j ∈ tSlots t, j ∈ own.map (·.2)) ∧ PI X tg iter (tI W (evI (gAt P rp k) it)) ∧ BlkOk X.N X.env.scope scope own ∧
      (∀ (s : Shared) (H : Hp) (C : Addr) (cl : List (Str × Addr)) (fp : List Addr), PG (X.blk s H scope (compEnvC scope cl C X.env) fp) tg (tG W (gAt P rp k) t)) ∧ (∀ (s : Shared) (H : Hp) (C : Addr) (cl : List (Str × Addr)) (fp : List Addr), PTs (X.blk s H scope (compEnvC scope cl C X.env) fp) ifs (tTs W (gAt P rp k) ifs')) ∧
      (∀ (s : Shared) (H : Hp) (C : Addr) (cl : List (Str × Addr)) (fp : List Addr), PE (X.blk s H scope (compEnvC scope cl C X.env) fp) elt (tE W (ev (gAt P rp k) x))) ∧ ∀ x, foldedSetIterable iter X.env x = pure x := by
  have S := ih X c K
  simp only [cE] at h
  split at h
  · rename_i t it ifs
    split at h
    · rename_i own ho
      split at h
      · rename_i hb
        rw [Bool.and_eq_true] at hb
        have ok : BlkOk X.N X.env.scope scope own := blkOk_by (by rw [K.N, K.sc]; exact hb.1)
        split at h
        · rename_i t' it' h1 h2
          split at h
          · rename_i hio
            simp only [Option.map_eq_some_iff] at h
            obtain ⟨x, hx, rfl⟩ := h
            exact ⟨_, _, _, own, t', it', [], x, rfl, rfl, own_ok (N := []) (sc := scope) hio, S.I t it it' h2, ok, fun s H C cl fp => (ih _ _ K.blk).T t t' h1, fun s H C cl fp => pts_nil', fun s H C cl fp => ((ih _ _ K.blk).E elt x hx).1, set_iter hb.2⟩
          · cases h
        · rename_i t' it' i h1 h2
          split at h
          · cases h
          · rename_i hio
            have hio : inOwn t' own = true ∧ notIf i = true := by simpa using hio
            split at h
            · rename_i i' x hi hx
              cases h
              exact ⟨_, _, _, own, t', it', [i'], x, rfl, rfl, own_ok (N := []) (sc := scope) hio.1, S.I t it it' h2, ok, fun s H C cl fp => (ih _ _ K.blk).T t t' h1, fun s H C cl fp => pts_one' (((ih _ _ K.blk).O i i' hi).2 hio.2), fun s H C cl fp => ((ih _ _ K.blk).E elt x hx).1, set_iter hb.2⟩
            · cases h
        · cases h
      · cases h
    · cases h
  · cases h
theorem s_name {x : Str} {tp pos : Pos} {v : Expr} (S : SOk X W P rp k c) : PSn X W P rp k c (.Assign [.Name x tp] v pos) (cS c m (n + 1) (.Assign [.Name x tp] v pos)) := by
  have K := S.x
  have Sd := snd (W := W) (P := P) (rp := rp) (k := k) m X c K
  simp only [cS]
  split
  · rename_i hs
    split
    · rename_i i hi
      split
      · exact ps_never'
      · rename_i hfx
        have hfx : i ∉ c.fx := by simpa using hfx
        obtain ⟨f1, _, _, _⟩ := slot_facts K hi
        obtain ⟨l1, l2⟩ := K.sto x hs
        split
        · exact ps_never'
        · exact ps_never'
        · rename_i elt gens scope lp
          split
          · rename_i hq
            split
            · rename_i a ha
              have pe := (Sd.E _ a ha).1
              cases hsw : swapLc c.sc x tp (.ListComp elt gens scope lp) scope with
              | false =>
                exact ps_set' (pos := pos) (p := pos) hfx (fun {te} h => ps_set K.nd f1 l1 h ((swaps_lc S.kind K.sc rfl).trans (by rw [hsw])) l2) f1 pe
              | true =>
                have hloc : X.env.scope.names.lookup x = some .local := by
                  rw [hsw] at hq
                  rw [K.sc]
                  simpa using hq
                have sw : swapsWith (.ListComp elt gens scope lp) (some (.Name x tp)) pos.line X.env = pure true := (swaps_lc S.kind K.sc rfl).trans (by rw [hsw])
                cases m with
                | zero => simp [cE] at ha
                | succ m' =>
                  obtain ⟨tg, iter, ifs, own, t', it', ifs', x', rfl, rfl, ho, hi', ok, hg, ht, he, hs'⟩ := lc_parts (snd m') K ha
                  have h0 := ps_setLc (spos := pos) (py := tp) K.calm K.nd f1 hloc sw hi' ok hg ht he hs'
                  refine ⟨fun pins s0 σ H D I hq => h0.run pins s0 σ H D I ?_⟩
                  obtain ⟨F, θ, s, R, q⟩ := hq
                  refine lc_read ho ?_
                  refine tE_bindS (P := PF W F (M0 θ s.ρ σ) θ H c.fx σ D) R (show OkP _ ((ev (gAt P rp k) _ s).bind _) from q) fun y s1 v H1 θ1 rx q1 => ?_
                  obtain ⟨R2, k2⟩ := rx.put (i := i) (by rw [rx.rep.len, I.len]; exact (List.getElem?_eq_some_iff.mp f1).1)
                  exact q1 _ H1 θ1 R2 k2 fun j hj => by rw [List.getElem?_set, if_neg (fun z => hfx (by rw [z]; exact hj))]
            · exact ps_never'
          · exact ps_never'
        · rename_i h1 h2 h3
          split
          · rename_i a ha
            have pe := (Sd.E _ a ha).1
            have hc : isComp v = false := by
              cases v <;> first | rfl | exact (h1 _ _ _ _ _ rfl).elim | exact (h2 _ _ _ _ rfl).elim | exact (h3 _ _ _ _ rfl).elim
            exact ps_set' (pos := pos) (p := pos) hfx (fun {te} h => ps_set K.nd f1 l1 h (swaps_no hc) l2) f1 pe
          · exact ps_never'
    · exact ps_never'
  · exact ps_never'
theorem sub_names {sc : Scope} {line : Nat} {f : Expr → Option Str} (hf : f = fun | .Name id pos => if sc.names.lookup id == some .local && pos.line == line then some id else none | _ => none) : ∀ {ts : List Expr} {xs : List Str}, names2 ts = some xs → (ts.filterMap f).Sublist xs
  | [], xs, h => by cases h; exact .slnil
  | e :: ts, xs, h => by
    cases e <;> first | (simp [names2] at h; done) | skip
    rename_i x p
    simp only [names2, Option.map_eq_some_iff] at h
    obtain ⟨xs', h, rfl⟩ := h
    have ih := sub_names hf h
    rw [List.filterMap_cons]
    have : f (.Name x p) = none ∨ f (.Name x p) = some x := by
      subst hf
      simp only
      split
      · exact .inr rfl
      · exact .inl rfl
    rcases this with e | e <;> rw [e]
    · exact .cons _ ih
    · exact .cons₂ _ ih
theorem swap_names {sc : Scope} {ts vs : List Expr} {nms xs : List Str} (h : swapRes sc ts vs = some (some nms)) (hx : names2 ts = some xs) : nms = xs ∧ (ts.length = 2 ∨ ts.length = 3) ∧ vs.length = ts.length := by
  unfold swapRes at h
  split at h
  · cases h
  · rename_i q1
    split at h
    · cases h
    · simp only at h
      split at h
      · cases h
      · rename_i q2
        split at h
        · cases h
        · split at h
          · cases h
          · cases h
            simp only [Bool.or_eq_true, not_or, bne_iff_ne, ne_eq, Bool.not_eq_true', Bool.not_eq_false, Decidable.not_not, beq_iff_eq] at q1 q2
            refine ⟨(sub_names (sc := sc) (line := _) rfl hx).eq_of_length ?_, ?_, ?_⟩
            · exact q2.1.trans (names_len hx).symm
            · have := q1.1; simpa using this
            · exact q1.2
theorem ts_not_slot {m' : Nat} {ts : List Expr} {tk : Nat} {tp : Pos} {t : T} (h : cT c m' (.Tuple ts tk tp) = some t) : ∀ i, t ≠ .slot i := by
  intro i e
  subst e
  cases m' with
  | zero => simp [cT] at h
  | succ m' =>
    simp only [cT] at h
    split at h
    · simp only [Option.map_eq_some_iff] at h
      obtain ⟨_, _, h⟩ := h
      cases h
    · split at h
      · split at h
        · cases h
        · cases h
      · cases h
theorem ts_sub {m' : Nat} {o i : Expr} {tp : Pos} {t : T} (h : cT c m' (.Subscript o i tp) = some t) : ∃ j a, t = .sub j a := by
  cases m' with
  | zero => simp [cT] at h
  | succ m' =>
    simp only [cT] at h
    split at h
    · split at h
      · split at h
        · cases h; exact ⟨_, _, rfl⟩
        · cases h
      · cases h
    · cases h
theorem s_tup {ts : List Expr} {tk : Nat} {tp pos : Pos} {v : Expr} (S : SOk X W P rp k c) : PSn X W P rp k c (.Assign [.Tuple ts tk tp] v pos) (cS c m (n + 1) (.Assign [.Tuple ts tk tp] v pos)) := by
  have K := S.x
  have Sd := snd (W := W) (P := P) (rp := rp) (k := k) m X c K
  simp only [cS]
  split
  · rename_i vs vk vp
    split
    · rename_i hn
      rw [Bool.and_eq_true] at hn
      split
      · rename_i nms hsw
        split
        · rename_i xs hx
          split
          · rename_i is as his has
            split
            · rename_i hq
              rw [Bool.and_eq_true, Bool.and_eq_true, decide_eq_true_eq] at hq
              obtain ⟨⟨q1, q2⟩, q3⟩ := hq
              have hfx := fx_of q1
              have pa := pf_list (g := gAt P rp k) hn.1 has fun e a h => (Sd.E e a h).1
              have hw := swapped_of (k := tk) (k2 := vk) (p := tp) (p2 := vp) S.kind K.sc hsw
              obtain ⟨rfl, h23, hvl⟩ := swap_names hsw hx
              have q3 := List.all_eq_true.mp q3
              have hlen := names_len hx
              have hil := slots_len his
              rcases h23 with h2 | h3
              · match ts, vs, nms, is, h2, hvl, hlen, hil, hx, his, pa, hw, q2, q3, hfx with
                | [e1, e2], [a, b], [x, y], [i, j], _, _, _, _, hx, his, pa, hw, q2, q3, hfx =>
                  cases e1 <;> first | (simp [names2] at hx; done) | skip
                  cases e2 <;> first | (simp [names2] at hx; done) | skip
                  simp only [names2, Option.map_some, Option.some.injEq, List.cons.injEq, and_true] at hx
                  obtain ⟨rfl, rfl⟩ := hx
                  simp only [slotsOf] at his
                  split at his
                  · split at his
                    · rename_i i' is' h5 h6
                      cases his
                      split at h6
                      · split at h6
                        · rename_i j' js' h7 h8
                          cases h6
                          have ne : i ≠ j := fun z => by subst z; simp at q2
                          exact ps_par2x K hfx h5 h7 ne (by simpa using q3 _ (List.mem_cons_self)) (by simpa using q3 _ (List.mem_cons_of_mem _ List.mem_cons_self)) pa hw
                        · cases h6
                      · cases h6
                    · cases his
                  · cases his
              · match ts, vs, nms, is, h3, hvl, hlen, hil, hx, his, pa, hw, q2, q3, hfx with
                | [e1, e2, e3], [a, b, d], [x, y, z], [i, j, l], _, _, _, _, hx, his, pa, hw, q2, q3, hfx =>
                  cases e1 <;> first | (simp [names2] at hx; done) | skip
                  cases e2 <;> first | (simp [names2] at hx; done) | skip
                  cases e3 <;> first | (simp [names2] at hx; done) | skip
                  simp only [names2, Option.map_some, Option.some.injEq, List.cons.injEq, and_true] at hx
                  obtain ⟨rfl, rfl, rfl⟩ := hx
                  simp only [slotsOf] at his
                  split at his
                  · split at his
                    · rename_i i' is' h5 h6
                      cases his
                      split at h6
                      · split at h6
                        · rename_i j' js' h7 h8
                          cases h6
                          split at h8
                          · split at h8
                            · rename_i l' ls' h9 h10
                              cases h8
                              simp only [List.nodup_cons, List.mem_cons, List.not_mem_nil, or_false, not_or] at q2
                              exact ps_par3x K hfx h5 h7 h9 q2.1.1 q2.1.2 q2.2.1 (by simpa using q3 _ (List.mem_cons_self)) (by simpa using q3 _ (List.mem_cons_of_mem _ List.mem_cons_self)) (by simpa using q3 _ (List.mem_cons_of_mem _ (List.mem_cons_of_mem _ List.mem_cons_self))) pa hw
                            · cases h8
                          · cases h8
                        · cases h6
                      · cases h6
                    · cases his
                  · cases his
            · exact ps_never'
          · exact ps_never'
        · exact ps_never'
      · rename_i hsw
        have hw := swapped_of (k := tk) (k2 := vk) (p := tp) (p2 := vp) S.kind K.sc hsw
        split
        · rename_i xs hx
          split
          · rename_i is as his has
            split
            · rename_i hq
              rw [Bool.and_eq_true, decide_eq_true_eq] at hq
              exact ps_parN K (fx_of hq.1) hx his hq.2 (pf_list hn.1 has fun e a h => (Sd.E e a h).1) hw
            · exact ps_never'
          · exact ps_never'
        · split
          · rename_i t' a ht ha
            split
            · rename_i hq
              exact ps_asg' (ts_not_slot ht) (fx_of hq) (Sd.E _ a ha).1 (Sd.T _ t' ht) rfl hw rfl
            · exact ps_never'
          · exact ps_never'
      · exact ps_never'
    · exact ps_never'
  · rename_i hv
    split
    · exact ps_never'
    · rename_i hc
      have hc : isComp v = false := by simpa using hc
      split
      · rename_i t' a ht ha
        split
        · rename_i hq
          have nt : isTupE v = false := by cases v <;> first | rfl | exact (hv _ _ _ rfl).elim
          exact ps_asg' (ts_not_slot ht) (fx_of hq) (Sd.E _ a ha).1 (Sd.T _ t' ht) (by show swapsWith v (some (.Tuple ts tk tp)) pos.line X.env = pure false; exact swaps_no hc) (swapped_no nt) rfl
        · exact ps_never'
      · exact ps_never'
theorem s_sub {o i : Expr} {sp pos : Pos} {v : Expr} (S : SOk X W P rp k c) : PSn X W P rp k c (.Assign [.Subscript o i sp] v pos) (cS c m (n + 1) (.Assign [.Subscript o i sp] v pos)) := by
  have K := S.x
  have Sd := snd (W := W) (P := P) (rp := rp) (k := k) m X c K
  simp only [cS]
  split
  · exact ps_never'
  · rename_i hc
    have hc : isComp v = false := by simpa using hc
    split
    · rename_i t' a ht ha
      obtain ⟨j, a', rfl⟩ := ts_sub ht
      have nw : swappedStores [.Subscript o i sp] v X.env = pure none := by cases v <;> rfl
      exact ps_asg' (fun i e => by cases e) (fun j hj => by cases hj) (Sd.E _ a ha).1 (Sd.T _ _ ht) (by show swapsWith v (some (.Subscript o i sp)) pos.line X.env = pure false; exact swaps_no hc) nw rfl
    · exact ps_never'
theorem s_attr {o : Expr} {f : Str} {sp pos : Pos} {v : Expr} (S : SOk X W P rp k c) : PSn X W P rp k c (.Assign [.Attribute o f sp] v pos) (cS c m (n + 1) (.Assign [.Attribute o f sp] v pos)) := by
  have K := S.x
  have Sd := snd (W := W) (P := P) (rp := rp) (k := k) m X c K
  simp only [cS]
  split
  · split
    · rename_i hf
      split
      · rename_i i a hi ha
        exact ps_asgA rfl K.C hf (pe_slotV K hi) (Sd.E _ a ha).1
      · exact ps_never'
    · exact ps_never'
  · exact ps_never'
theorem s_ret {e : Expr} {pos : Pos} (S : SOk X W P rp k c) : PSn X W P rp k c (.Return (some e) pos) (cS c m (n + 1) (.Return (some e) pos)) := by
  have K := S.x
  have Sd := snd (W := W) (P := P) (rp := rp) (k := k) m X c K
  simp only [cS]
  split
  · split
    · rename_i i hi
      split
      · exact ps_never'
      · exact ps_retS' (pe_slotV K hi)
    · split
      · rename_i a ha
        exact ps_ret' (Sd.E _ a ha).1
      · exact ps_never'
  · split
    · rename_i a ha
      exact ps_ret' (Sd.E _ a ha).1
    · exact ps_never'
theorem s_expr {e : Expr} {pos : Pos} (S : SOk X W P rp k c) : PSn X W P rp k c (.Expr e pos) (cS c m (n + 1) (.Expr e pos)) := by
  have K := S.x
  have Sd := snd (W := W) (P := P) (rp := rp) (k := k) m X c K
  simp only [cS]
  split
  · split
    · rename_i hq
      rw [Bool.and_eq_true] at hq
      split
      · rename_i i a hi ha
        exact ps_app' (pe_slotV K hi) rfl hq.2 hq.1 (Sd.E _ a ha).1
      · exact ps_never'
    · exact ps_never'
  · split
    · exact ps_never'
    · rename_i hc
      have hc : isComp e = false := by simpa using hc
      split
      · rename_i a ha
        exact ps_expr' (Sd.E _ a ha).1 (swaps_no hc)
      · exact ps_never'
mutual
theorem sst (S : SOk X W P rp k c) : ∀ (n : Nat) (st : Stmt), PSn X W P rp k c st (cS c m n st)
  | 0, st => by simp only [cS]; exact ps_never'
  | n + 1, .Pass _ => by simp only [cS]; exact ps_pass'
  | n + 1, .Break _ => by simp only [cS]; exact ps_break'
  | n + 1, .Continue _ => by simp only [cS]; exact ps_cont'
  | n + 1, .Return none _ => by simp only [cS]; exact ps_retN'
  | n + 1, .Return (some e) _ => s_ret S
  | n + 1, .Expr e _ => s_expr S
  | n + 1, .If t a b _ => by
    have K := S.x
    have Sd := snd (W := W) (P := P) (rp := rp) (k := k) m X c K
    simp only [cS]
    split
    · rename_i hi
      split
      · rename_i t' ht
        exact ps_if' ((Sd.O t t' ht).2 hi) (ssts S n a) (ssts S n b)
      · exact ps_never'
    · exact ps_never'
  | n + 1, .For t it body orelse _ => by
    have K := S.x
    have Sd := snd (W := W) (P := P) (rp := rp) (k := k) m X c K
    cases orelse with
    | cons _ _ => simp only [cS]; exact ps_never'
    | nil =>
      simp only [cS]
      split
      · rename_i hs
        split
        · rename_i t' it' ht hi
          split
          · rename_i hq
            exact ps_for' S.pass K.calm (set_iter hs) (fx_of hq) (Sd.I t it it' hi) (Sd.T t t' ht) (ssts S n body)
          · exact ps_never'
        · exact ps_never'
      · exact ps_never'
  | n + 1, .While t body orelse _ => by
    have K := S.x
    have Sd := snd (W := W) (P := P) (rp := rp) (k := k) m X c K
    cases orelse with
    | cons _ _ => simp only [cS]; exact ps_never'
    | nil =>
      simp only [cS]
      split
      · rename_i hi
        split
        · rename_i t' ht
          exact ps_while' S.pass ((Sd.O t t' ht).2 hi) (ssts S n body)
        · exact ps_never'
      · exact ps_never'
  | n + 1, .Assign [tg] v pos => by
    cases tg with
    | Name x tp => exact s_name S
    | Tuple ts tk tp => exact s_tup S
    | Subscript o i sp => exact s_sub S
    | Attribute o f sp => exact s_attr S
    | _ => simp only [cS]; exact ps_never'
  | n + 1, .Assign [] v pos => by simp only [cS]; exact ps_never'
  | n + 1, .Assign (_ :: _ :: _) v pos => by simp only [cS]; exact ps_never'
  | n + 1, .FunctionDef .. => by simp only [cS]; exact ps_never'
  | n + 1, .AsyncFunctionDef .. => by simp only [cS]; exact ps_never'
  | n + 1, .ClassDef .. => by simp only [cS]; exact ps_never'
  | n + 1, .Delete .. => by simp only [cS]; exact ps_never'
  | n + 1, .TypeAlias .. => by simp only [cS]; exact ps_never'
  | n + 1, .AugAssign .. => by simp only [cS]; exact ps_never'
  | n + 1, .AnnAssign .. => by simp only [cS]; exact ps_never'
  | n + 1, .AsyncFor .. => by simp only [cS]; exact ps_never'
  | n + 1, .With .. => by simp only [cS]; exact ps_never'
  | n + 1, .AsyncWith .. => by simp only [cS]; exact ps_never'
  | n + 1, .Match .. => by simp only [cS]; exact ps_never'
  | n + 1, .Raise .. => by simp only [cS]; exact ps_never'
  | n + 1, .Try .. => by simp only [cS]; exact ps_never'
  | n + 1, .TryStar .. => by simp only [cS]; exact ps_never'
  | n + 1, .Assert .. => by simp only [cS]; exact ps_never'
  | n + 1, .Import .. => by simp only [cS]; exact ps_never'
  | n + 1, .ImportFrom .. => by simp only [cS]; exact ps_never'
  | n + 1, .Global .. => by simp only [cS]; exact ps_never'
  | n + 1, .Nonlocal .. => by simp only [cS]; exact ps_never'
theorem ssts (S : SOk X W P rp k c) : ∀ (n : Nat) (sts : List Stmt), PSsn X W P rp k c sts (cSs c m n sts)
  | 0, sts => by
    simp only [cSs]
    exact monoSs pss_never fun D σ H ⟨_, _, _, _, q⟩ => q
  | n + 1, [] => by simp only [cSs]; exact pss_nil'
  | n + 1, st :: r => by simp only [cSs]; exact pss_cons' (sst S n st) (ssts S n r)
end
end
end Pv
end

section
set_option Elab.async false
set_option linter.all false
set_option maxRecDepth 100000
set_option maxHeartbeats 4000000
/-! EvZd: defs keep what the evaluator tells. -/
namespace Pv
open PySem PySem.Spec PyProof.Rows L2 LamX NdefX
/-- what is known of the module: its names, its classes -/
structure GOk (K : PySem.W.Frag) (mg : Str → Option Value) (W : Wr) (P : Prog) (rp : D → Option Str) (c : CE) : Prop where
  KW : W.K = K
  con : ∀ (x : Str) (d : D), c.con x = some d → ∃ u v, mg x = some u ∧ RelV v u ∧ ∀ m θ H, RepV W m θ H d v
  blt : ∀ x ∈ BL, mg x = none
  fns : ∀ (x : Str) (f : Nat), c.fns x = some f → mg x = some (.ref (W.fa f)) ∧ ∃ fn, P.fns[f]? = some fn ∧ fn.ini = false
  par : c.par = W.par
  cls : ∀ (x : Str) (q : Nat), c.cls x = some q → mg x = some (.ref (W.ca q)) ∧ ∃ f fn, P.init q = some f ∧ P.fns[f]? = some fn ∧ fn.ini = true
  C : ClsOk K W P c.fld
  prop : ∀ (q : Nat) (n : Str) (f : Nat), P.prop q n = some f → ∃ fn, P.fns[f]? = some fn ∧ fn.ini = false
  tnm : c.tnm = W.tnm
  clo : ∀ (fn : Fn) (fr : List Str) (cl : List (Str × Addr)) (cd : Addr) (fd : FuncData), W.cloP fn fr cl cd fd ↔ CloT c fn fr cl cd fd
  rpr : ∀ X' : Cx, X'.K = K → X'.calm = true → X'.A.guards = some [] → X'.A.units + 64 < cLine → CallR X' (.builtin "repr") (r1 W rp .repr)
/-- the names of a def -/
def CE.at (c : CE) (N : List Str) (scope : Scope) (fx : List Nat) (tb : Option Nat) (q : Str) : CE := { c with tab := tb, qual := q, N := N, sc := scope, fx := fx, sto := fun x => scope.names.lookup x == some .local || scope.names.lookup x == some .cell }
/-- a def of the text and its form -/
structure FnD (K : PySem.W.Frag) (mg : Str → Option Value) (base : Heap) (W : Wr) (c : CE) (f : Nat) (fn : Fn) : Prop where
  ex : ∃ (oc : Value) (od : Option Addr) (name qual : Str) (params : Arguments) (body : List Stmt) (scope : Scope) (dV kV doc pm : Value) (an : Option Addr) (cdv ct : Value) (osl : Array (Option Value)) (N ps : List Str) (m n : Nat) (tb : Option Nat),
    K.lookup (W.fa f) = some ⟨oc, od, .func (PySem.W.fnOf name qual params body scope dV kV doc pm an cdv ct), osl⟩ ∧ PySem.W.codeIn K cdv qual = true ∧ FnScope N ps scope ∧ PySem.W.keepIn K (.ref (W.fa f)) = true ∧
    Binds K (PySem.W.fnOf name qual params body scope dV kV doc pm an cdv ct) ps [] ∧ KwB (PySem.W.fnOf name qual params body scope dV kV doc pm an cdv ct) ps (W.par f) ∧ fn = ⟨fn.ini, ps.length, 0, N.length, cSs (c.at N scope (if fn.ini then [0] else []) tb (qual ++ ".<locals>.")) m n body⟩ ∧ (fn.ini = true → ps ≠ []) ∧ (∀ t, tb = some t → ∃ cd, cdv = .ref cd ∧ TabB base mg cd (W.tab t))
section
variable {Pg : Program} {w : World} {K : PySem.W.Frag} {mg : Str → Option Value} {base : Heap} {W : Wr} {P : Prog} {rp : D → Option Str} {c : CE} {f : Nat} {fn : Fn}
abbrev HeldG (Pg : Program) (w : World) (K : PySem.W.Frag) (mg : Str → Option Value) (base : Heap) (W : Wr) (P : Prog) (rp : D → Option Str) (k f : Nat) : Prop := HeldN Pg w K mg base k (W.fa f) (spFn W P rp k f) (W.par f)
theorem held_err (hd : FnD K mg base W c f fn) {k : Nat} (h : ∀ as m, evFn P rp k f [] as m = .err) : HeldG Pg w K mg base W P rp k f := by
  obtain ⟨oc, od, name, qual, params, body, scope, dV, kV, doc, pm, an, cdv, ct, osl, N, ps, m, n, tb, lk, hcd, S, hk, hb, hkb, _⟩ := hd.ex
  have no : ∀ vs H Q E, ¬ spFn W P rp k f vs H Q E := fun vs H Q E ⟨_, _, _, as, m, _, _, q⟩ => by rw [h] at q; exact q
  exact ⟨_, ps, ⟨fun vs H Q E q => (no _ _ _ _ q).elim, fun A outer s H args us vs Q E _ _ _ _ _ q => (no _ _ _ _ q).elim⟩, hk, hb, hkb⟩
theorem m0_grow {θ : List Addr} {ρ : List Sl} {σ : L2.St} {n : Nat} {b : Addr} (hl : ρ.length = σ.length) : M0 θ (ρ ++ List.replicate n Sl.no) (σ ++ List.replicate n none) b ↔ M0 θ ρ σ b := or_congr Iff.rfl (own_grow hl)
theorem held_step (G : GOk K mg W P rp c) (hP : P.fns[f]? = some fn) (hd : FnD K mg base W c f fn) {k : Nat} (h1 : ∀ (f : Nat) (fn : Fn), P.fns[f]? = some fn → HeldG Pg w K mg base W P rp (k + 1) f) (h0 : ∀ (f : Nat) (fn : Fn), P.fns[f]? = some fn → HeldG Pg w K mg base W P rp k f) (hC : HeldC Pg w K mg base W P rp (k + 1)) :
    HeldG Pg w K mg base W P rp (k + 2) f := by
  obtain ⟨oc, od, name, qual, params, body, scope, dV, kV, doc, pm, an, cdv, ct, osl, N, ps, m, n, tb, lk, hcd, S, hk, hb, hkb, hfn, hps, htb⟩ := hd.ex
  have lens : ∀ vs H Q E, spFn W P rp (k + 2) f vs H Q E → vs.length = ps.length := fun vs H Q E ⟨fn', F, θ, as, mm, hf, R, q⟩ => by
    rw [hP] at hf; cases hf
    rw [evFn_eq hP] at q
    unfold runFn at q
    by_cases hl : as.length = fn.np ∧ ([] : List D).length = fn.nc
    · have h3 : fn.np = ps.length := by rw [hfn]
      have e1 : (as.map AX.sl).length = (vs.map some).length := R.len
      rw [List.length_map, List.length_map] at e1
      omega
    · rw [if_neg hl] at q; exact q.elim
  refine ⟨_, ps, ?_, hk, hb, hkb⟩
  refine fn_ofG lk hcd S lens fun A outer s H vs Q E hgd hr h => ?_
  have hlv := lens vs H Q E h
  obtain ⟨fn', F, θ, as, mm, hf, R, q⟩ := h
  rw [hP] at hf; cases hf
  rw [evFn_eq hP] at q
  unfold runFn at q
  have e1 : as.length = vs.length := by
    have e1 : (as.map AX.sl).length = (vs.map some).length := R.len
    rwa [List.length_map, List.length_map] at e1
  by_cases hl : as.length = fn.np ∧ ([] : List D).length = fn.nc
  case neg => rw [if_neg hl] at q; exact q.elim
  rw [if_pos hl] at q
  have X0 : XOk (cxOf CX0 Pg w K mg base N qual scope (W.fa f) cdv A outer s H E) W P rp k (c.at N scope (if fn.ini then [0] else []) tb (qual ++ ".<locals>.")) :=
    { N := rfl, sc := rfl, nd := S.nd, calm := rfl, K := G.KW, room := hr, gd := hgd, con := G.con, blt := G.blt, fns := G.fns, par := G.par, cls := G.cls, held1 := h1, held0 := h0, C := G.C, prop := G.prop, rpr := G.rpr, heldC := hC, tnm := G.tnm, cloI := fun fn fr cl cd fd h => (G.clo fn fr cl cd fd).mpr h, tabk := fun t h => ⟨htb t h, rfl⟩,
      sto := fun x hx => by
        have hx : (scope.names.lookup x == some .local || scope.names.lookup x == some .cell) = true := hx
        rw [Bool.or_eq_true, beq_iff_eq, beq_iff_eq] at hx
        exact ⟨hx, .inl rfl⟩ }
  have S0 : SOk (cxOf CX0 Pg w K mg base N qual scope (W.fa f) cdv A outer s H E) W P rp k (c.at N scope (if fn.ini then [0] else []) tb (qual ++ ".<locals>.")) := ⟨X0, S.kind, passes_of rfl⟩
  refine ⟨_, ssts (m := m) S0 n body, ?_⟩
  have hst : startS fn [] as = as.map AX.sl ++ List.replicate (N.length - vs.length) Sl.no := by
    unfold startS
    rw [List.map_nil, List.nil_append, hfn, e1]
    rfl
  have hl0 : (as.map AX.sl).length = (vs.map some).length := R.len
  have R2 : Rep W F θ ⟨startS fn [] as, mm⟩ (start N vs) H := by rw [hst]; exact R.grow _
  have hM : ∀ b, M0 θ (startS fn [] as) (start N vs) b ↔ M0 θ (as.map AX.sl) (vs.map some) b := fun b => by rw [hst]; exact m0_grow hl0
  have bod : fn.body = cSs (c.at N scope (if fn.ini then [0] else []) tb (qual ++ ".<locals>.")) m n body := by rw [hfn]
  refine ⟨F, θ, ⟨startS fn [] as, mm⟩, R2, ?_⟩
  rw [← bod]
  refine (OkP.bind q).imp fun fl s1 q1 => ?_
  have give : ∀ {x : FX} {v : V} {σ' : L2.St} {H' : Hp} {θ' : List Addr} {m0 : Fb}, RX W F (M0 θ (startS fn [] as) (start N vs)) θ H θ' s1 σ' H' x v → RX W F (M0 θ (as.map AX.sl) (vs.map some)) θ H θ' ⟨[], s1.m⟩ [] H' x v := fun rx =>
    (rx.from (keepLess fun b z => (hM b).mp z)).drop
  cases fl with
  | brk => cases hi : fn.ini <;> (rw [hi] at q1; exact q1.elim)
  | cont => cases hi : fn.ini <;> (rw [hi] at q1; exact q1.elim)
  | nx =>
    cases hi : fn.ini with
    | false =>
      rw [hi] at q1
      have q1 : ∀ v H' θ', RX W F (M0 θ (as.map AX.sl) (vs.map some)) θ H θ' ⟨[], s1.m⟩ [] H' (.d .non) v → ((false : Bool) = true → vs.head? = some v) → Q (if (false : Bool) = true then .non else v) H' := q1
      intro σ' H' θ' R' k' _
      exact q1 .non H' θ' (give (m0 := M0 θ' s1.ρ σ') ⟨R', k', .non⟩) (fun z => nomatch z)
    | true =>
      rw [hi] at q1
      intro σ' H' θ' R' k' ee
      have q1 : OkP (fun x s' => ∀ v H' θ', RX W F (M0 θ (as.map AX.sl) (vs.map some)) θ H θ' ⟨[], s'.m⟩ [] H' x v → ((true : Bool) = true → vs.head? = some v) → Q (if (true : Bool) = true then .non else v) H') (match getN s1.ρ 0 with
        | .own o => .ok (.f o) ⟨[], s1.m⟩
        | _ => .err) := q1
      cases g0 : getN s1.ρ 0 with
      | no => rw [g0] at q1; exact q1.elim
      | val _ => rw [g0] at q1; exact q1.elim
      | clo _ _ => rw [g0] at q1; exact q1.elim
      | own o =>
        rw [g0] at q1
        obtain ⟨a, ha, rx⟩ := R'.take g0
        have rx2 := rx.from k'
        have h0 := ee 0 (List.mem_singleton.mpr rfl)
        have hh : vs.head? = some (.ref a) := by
          rw [ha] at h0
          have hne : vs ≠ [] := fun z => by rw [z] at hlv; exact hps hi (List.length_eq_zero_iff.mp hlv.symm)
          cases vs with
          | nil => exact (hne rfl).elim
          | cons v vs =>
            have : (start N (v :: vs))[0]? = some (some v) := rfl
            rw [this] at h0
            cases h0; rfl
        have rx3 : RX W F (M0 θ (as.map AX.sl) (vs.map some)) θ H θ' ⟨[], s1.m⟩ [] H' (.f o) (.ref a) := (rx2.from (keepLess fun b z => (hM b).mp z)).drop
        exact q1 _ H' θ' rx3 fun _ => hh
  | ret x =>
    cases hi : fn.ini with
    | true => rw [hi] at q1; exact q1.elim
    | false =>
      rw [hi] at q1
      have q1 : ∀ v H' θ', RX W F (M0 θ (as.map AX.sl) (vs.map some)) θ H θ' ⟨[], s1.m⟩ [] H' x v → ((false : Bool) = true → vs.head? = some v) → Q (if (false : Bool) = true then .non else v) H' := q1
      exact fun v σ' H' θ' rx => q1 v H' θ' (give (m0 := M0 θ s1.ρ σ') rx) (fun z => nomatch z)
theorem reps_of : ∀ {xs : List D} {vs : List V} {m : Fb} {θ : List Addr} {H : Hp}, xs.length = vs.length → (∀ (i : Nat) (d : D) (v : V), xs[i]? = some d → vs[i]? = some v → RepV W m θ H d v) → RepVs W m θ H xs vs
  | [], [], _, _, _, _, _ => .nil
  | d :: xs, v :: vs, _, _, _, hl, h => .cons (h 0 d v rfl rfl) (reps_of (by simpa using hl) fun i d v e1 e2 => h (i + 1) d v (by simpa using e1) (by simpa using e2))
  | [], v :: vs, _, _, _, hl, _ => by simp at hl
  | d :: xs, [], _, _, _, hl, _ => by simp at hl
/-- closures keep what the evaluator tells -/
theorem heldC_step (G : GOk K mg W P rp c) {k : Nat} (h1 : ∀ (f : Nat) (fn : Fn), P.fns[f]? = some fn → HeldG Pg w K mg base W P rp (k + 1) f) (h0 : ∀ (f : Nat) (fn : Fn), P.fns[f]? = some fn → HeldG Pg w K mg base W P rp k f) (hC : HeldC Pg w K mg base W P rp (k + 1)) :
    HeldC Pg w K mg base W P rp (k + 2) := by
  refine ⟨fun f A outer s H a us vs Q E hgd hr e0 rv hsp => ?_⟩
  obtain ⟨F, θ, xs, m, cs, R, ⟨o, fd, fr, cl, cd, ws, ha, na, ho1, ho2, hcl, hco, nco, rcs, cap⟩, q⟩ := hsp
  obtain ⟨qual, params, body, scope, pm, ctv, n, b, rfl, hpl, hnb, hE, rfl⟩ := (G.clo _ _ _ _ _).mp hcl
  have NS : NScope (lamN params scope) (parNames params) fr scope := nscope_by hnb
  let NFx : NF := ⟨"<lambda>", qual, params, [], scope, cl, cd⟩
  let T : Tk := cellT cl s.heap
  have Tof : ∀ b o, T.lookup b = some o → ∃ y, cl.lookup y = some b ∧ s.heap.get? b = some o := fun b o e => cellT_of e
  have hT : ∀ b o, T.lookup b = some o → H b = some (ExO b o) := fun b o e => by
    obtain ⟨y, h1, h2⟩ := Tof b o e
    obtain ⟨_, o', u, h3, _⟩ := cap.all y b h1
    have := exO_at e0.hok h3
    rw [h2] at this
    cases this
    exact h3
  have nT : ∀ b o, T.lookup b = some o → ¬ Mt F θ (xs.map Sl.val) (vs.map some) b := fun b o e => let ⟨y, h1, _⟩ := Tof b o e; (cap.all y b h1).1
  have Tcell : ∀ b o, T.lookup b = some o → ∃ u, o.data = .cell u := fun b o e => by
    obtain ⟨y, h1, h2⟩ := Tof b o e
    obtain ⟨_, o', u, h3, h4⟩ := cap.all y b h1
    have := exO_at e0.hok h3
    rw [h2] at this
    cases this
    exact ⟨u, h4⟩
  have hcode : ∀ c q, H c = some (CodeO c q) → T.lookup c = none := fun c qn e => by
    cases z : T.lookup c with
    | none => rfl
    | some o =>
      exfalso
      have e2 := exO_at e0.hok (hT c o z)
      obtain ⟨c2, oc, vs2, tq, e3, e4, e5, _⟩ := codeO_at e0.hok e
      cases e3
      rw [e2] at e4
      cases e4
      exact fields_no e5 (.inl (Tcell c o z))
  have e1 : Env0 Pg w K mg base A outer s (dlt H T) := env0_dlt e0 hT
  -- the lengths
  rw [evC_eq] at q
  unfold runFn at q
  by_cases hl : (xs.map AX.d).length = (parNames params).length ∧ cs.length = fr.length
  case neg => rw [if_neg hl] at q; exact q.elim
  rw [if_pos hl] at q
  have hxv : xs.length = vs.length := by
    have := R.len
    have e : (xs.map Sl.val).length = (vs.map some).length := this
    rwa [List.length_map, List.length_map] at e
  have hlv : vs.length = (parNames params).length := by rw [← hxv]; simpa using hl.1
  have hcw : cs.length = ws.length := rcs.length
  -- the frame
  have rxs : RepVs W (Mt F θ (xs.map Sl.val) (vs.map some)) θ H xs vs := reps_of hxv fun i d v e e' => by
    have t : SltR W (Mt F θ (xs.map Sl.val) (vs.map some)) θ H (getN (xs.map Sl.val) i) (some v) := R.sl i (some v) (by rw [List.getElem?_map, e']; rfl)
    have gg : getN (xs.map Sl.val) i = .val d := by rw [getN_get, List.getElem?_map, e]; rfl
    rw [gg] at t
    exact t
  have R1 : Rep W F θ ⟨(xs ++ cs).map Sl.val, m⟩ ((vs ++ ws).map some) H := (R.into (rxs.append rcs)).lessF fun a z => .inl z
  have R2 := R1.grow ((lamN params scope).length - xs.length - cs.length)
  have Hn : ∀ b o, H b = some o → (∀ φ, o ≠ .ext φ) → dlt H T b = some o := fun b o e nn => by rw [dlt_ne (lk_kind hT e nn)]; exact e
  have noC : ∀ i f cs', getN (⟨(xs ++ cs).map Sl.val ++ List.replicate ((lamN params scope).length - xs.length - cs.length) Sl.no, m⟩ : S).ρ i ≠ .clo f cs' := fun i f cs' z => by
    have z : getN ((xs ++ cs).map Sl.val ++ List.replicate _ Sl.no) i = .clo f cs' := z
    rw [getN_app, getN_get, List.getElem?_map] at z
    cases e : (xs ++ cs)[i]? with
    | none => rw [e] at z; cases z
    | some x => rw [e] at z; cases z
  have R3 := R2.mv (H' := dlt H T) Hn (fun c q e => by rw [dlt_ne (hcode c q e)]; exact e) (fun a o f e => by
    cases z : T.lookup a with
    | none => rw [dlt_ne z]; exact e
    | some o' => exact (nT a o' z (.inl f)).elim) noC
  have es : startS ⟨false, (parNames params).length, fr.length, (lamN params scope).length, [.ret b]⟩ cs (xs.map AX.d) = (xs ++ cs).map Sl.val ++ List.replicate ((lamN params scope).length - xs.length - cs.length) Sl.no := by
    unfold startS
    rw [ax_vals, List.map_append, List.append_assoc, List.length_map]
  have ev' : startF (lamN params scope) vs (ws.map some) = (vs ++ ws).map some ++ List.replicate ((lamN params scope).length - xs.length - cs.length) none := by
    unfold startF
    rw [List.map_append, List.append_assoc, List.length_map, ← hxv, ← hcw]
  rw [es] at q
  have ownN : ∀ b, ¬ Own ((xs ++ cs).map Sl.val ++ List.replicate ((lamN params scope).length - xs.length - cs.length) Sl.no) ((vs ++ ws).map some ++ List.replicate ((lamN params scope).length - xs.length - cs.length) none) b := fun b z =>
    own_vals ((own_grow (by rw [List.length_map, List.length_map, List.length_append, List.length_append, hxv, hcw])).mp z)
  have lim : s.heap.NoLimit := e0.mod.nolimit.keeps fun b o e => (e0.bs b o e).1
  have CA : CellsAt cl fr (ws.map some) s.heap (dlt H T) := by
    have tk : ∀ y c, cl.lookup y = some c → dlt H T c = none := fun y c e => by
      obtain ⟨_, o', u, h3, _⟩ := cap.all y c e
      exact dlt_at (cellT_has e (exO_at e0.hok h3))
    refine ⟨by rw [List.length_map]; exact cap.len, fun y c e => ?_, cap.inj, fun i y e => ?_⟩
    · obtain ⟨_, o', u, h3, h4⟩ := cap.all y c e
      exact ⟨tk y c e, u, o', exO_at e0.hok h3, h4⟩
    · obtain ⟨c, h1, h2⟩ := cap.has i y e
      refine ⟨c, h1, fun v ev => ?_⟩
      rw [List.getElem?_map, Option.map_eq_some_iff] at ev
      obtain ⟨v', e2, e3⟩ := ev
      cases e3
      obtain ⟨o', u, h3, h4, h5⟩ := h2 v e2
      exact ⟨u, h5, o', exO_at e0.hok h3, h4⟩
  have hus : us.length = (parNames params).length := by rw [← rv.length]; exact hlv
  refine codeAny_mono (R := CR (fun _ _ _ _ _ _ => False) outer Pg w (dlt H T) s (fun v H2 => (∀ b o, T.lookup b = some o → H2 b = none) → Q v (trk H2 T)) E) ?_ fun r s' hq => ?_
  · refine PySem.W.kla_callFunE hr.depth (exO_at e0.hok ha) ho2 NS.co NS.gen rfl (codeO_at e0.hok hco) ?_
    rw [bind_plain hpl rfl (show (parNames params).Nodup from ?_) hus]
    · refine wpAny_pure (wpAny_newFunctionEnv NS.nocell (fun ⟨n, _⟩ hy => NS.par n (List.of_mem_zip hy).1) (fun h₁ hns hsb => ⟨lim.fresh _ hsb, ?_⟩) NS.kind)
      show codeAny _ _ (.expr body (envF NFx a s.heap.objs.size)) _ _
      have kp : ∀ b o, s.heap.get? b = some o → h₁.get? b = some o := fun b o e => hsb.extBut b o (Nat.ne_of_lt (Heap.lt_size e)) (Heap.get?_push_of_some _ e)
      have J : Inv (ncx (fun _ _ _ _ _ _ => False) Pg w K mg base (lamN params scope) NFx a A outer s (dlt H T) E) [] (startF (lamN params scope) vs (ws.map some)) (dlt H T) { s with heap := h₁, toks := s.toks + ((parNames params).zip us).length } := inv_startN (F := NFx) NS hr.hd e1 hlv rv CA hns kp
      have X0 : XOk (ncx (fun _ _ _ _ _ _ => False) Pg w K mg base (lamN params scope) NFx a A outer s (dlt H T) E) W P rp k (c.lam (lamN params scope) scope) :=
        { N := rfl, sc := rfl, nd := NS.nd, calm := rfl, K := G.KW, room := hr.deeper _, gd := hgd, con := G.con, blt := G.blt, fns := G.fns, par := G.par, cls := G.cls, held1 := h1, held0 := h0, C := G.C, prop := G.prop, rpr := G.rpr, heldC := hC, tnm := G.tnm, cloI := fun fn fr cl cd fd h => (G.clo fn fr cl cd fd).mpr h, tabk := (fun t h => nomatch h),
          sto := fun x hx => by
            have hx : (scope.names.lookup x == some .local || scope.names.lookup x == some .cell) = true := hx
            rw [Bool.or_eq_true, beq_iff_eq, beq_iff_eq] at hx
            rcases hx with hx | hx
            · exact ⟨.inl hx, .inr hx⟩
            · exact (NS.nocell _ (PySem.mem_of_lookup hx) rfl).elim }
      refine PySem.W.kla_codeExpr (wpAny_mono (((snd n _ _ X0).E body b hE).1.run [] _ _ (dlt H T) (fun v H2 => (∀ b o, T.lookup b = some o → H2 b = none) → Q v (trk H2 T)) J ?_) (fun v s' hq => ?_) fun e s' hq => hq)
      · rw [ev']
        refine ⟨F, θ, _, R3, (OkP.bind (OkP.bind (OkP.bind q))).imp fun x s1 q1 v H2 θ2 rx hT2 => ?_⟩
        have rx1 : RX W F (M0 θ (xs.map Sl.val) (vs.map some)) θ (dlt H T) θ2 ⟨[], s1.m⟩ [] H2 x v := (rx.from (keepLess fun b z => z.elim .inl fun z => (ownN b z).elim)).drop
        exact q1 v (trk H2 T) θ2 (rx_trk hT hT2 rx1)
      · obtain ⟨w', H', J', rv', q'⟩ := hq
        exact ⟨w', H', J'.os, J'.bare, J'.base, J'.hok, rv', q'⟩
    · have := NS.nd.sublist (List.take_sublist ((parNames params).length + fr.length) (lamN params scope))
      rw [NS.pre] at this
      exact (List.nodup_append.mp this).1
  · cases r with
    | error e => exact hq
    | ok fl =>
      cases fl with
      | next => exact hq
      | brk => exact hq
      | cont => exact hq
      | ret u => exact ce_track e0.hok e0.frf hT hq fun v H2 hn q2 => q2 hn
theorem heldC_err {k : Nat} (h : k < 2) : HeldC Pg w K mg base W P rp k := by
  refine ⟨fun f A outer s H a us vs Q E hgd hr e0 rv hsp => ?_⟩
  obtain ⟨F, θ, xs, m, cs, R, _, q⟩ := hsp
  rw [evC_err h] at q
  exact q.elim
/-- every def of the program, every closure, at every depth -/
theorem held_all (G : GOk K mg W P rp c) (hd : ∀ (f : Nat) (fn : Fn), P.fns[f]? = some fn → FnD K mg base W c f fn) : ∀ k : Nat, (∀ (f : Nat) (fn : Fn), P.fns[f]? = some fn → HeldG Pg w K mg base W P rp k f) ∧ (∀ (f : Nat) (fn : Fn), P.fns[f]? = some fn → HeldG Pg w K mg base W P rp (k + 1) f) ∧ HeldC Pg w K mg base W P rp (k + 1)
  | 0 => ⟨fun f fn h => held_err (hd f fn h) fun _ _ => evFn_err (by decide), fun f fn h => held_err (hd f fn h) fun _ _ => evFn_err (by decide), heldC_err (by decide)⟩
  | k + 1 => ⟨(held_all G hd k).2.1, fun f fn h => held_step G h (hd f fn h) (held_all G hd k).2.1 (held_all G hd k).1 (held_all G hd k).2.2, heldC_step G (held_all G hd k).2.1 (held_all G hd k).1 (held_all G hd k).2.2⟩
end
end Pv
end

section
set_option Elab.async false
set_option linter.all false
set_option maxRecDepth 100000
set_option maxHeartbeats 4000000
/-! EvRp: repr of data. -/
namespace Pv
open PySem PySem.Spec PyProof.Rows L2
def rpD (d : D) : Option Str := match toPy d with
  | some p => if p.showable && !p.hasDict && decide (p.depth ≤ 60) && decide (p.shown.length ≤ sizeLine) then some p.shown else none
  | none => none
section
variable {X : Cx} {W : Wr}
theorem rpr_ok (hK : W.K = X.K) (hg : X.A.guards = some []) (hu : X.A.units + 64 < cLine) : CallR X (.builtin "repr") (r1 W rpD .repr) := by
  intro pins s σ H xs us Q I r h
  obtain ⟨x, v, m, θ, z, rfl, cn, e, q, mt⟩ := h
  cases r with
  | cons rv r0 =>
    cases r0
    simp only [op1, Option.map_eq_some_iff] at e
    obtain ⟨t, e, rfl⟩ := e
    unfold rpD at e
    cases ep : toPy x with
    | none => rw [ep] at e; cases e
    | some p =>
      rw [ep] at e
      simp only at e
      split at e
      case isFalse => cases e
      case isTrue hh =>
        cases e
        simp only [Bool.and_eq_true, Bool.not_eq_true', decide_eq_true_eq] at hh
        obtain ⟨⟨⟨h1, h2⟩, h3⟩, h4⟩ := hh
        have dp := cn_dp hK cn ep
        have fin : ∀ {h' : Heap} {tk : Nat} {t : Tok}, (∀ b o, s.heap.get? b = some o → h'.get? b = some o) → EP X pins σ Q (.str p.shown t) { s with heap := h', toks := tk } := fun {h' tk t} k =>
          ⟨.str p.shown, H, I.kept k, ⟨t, rfl⟩, q _ H (.inl ⟨rfl, .str _⟩)⟩
        cases dp with
        | non => cases (show _ = Value.none from rv); exact PySem.P.repr_of_none (fin fun _ _ e => e)
        | bl b => cases (show _ = Value.bool b from rv); exact PySem.P.repr_of_bool (fin fun _ _ e => e)
        | int i =>
          obtain ⟨t, rfl⟩ := rv
          exact PySem.P.repr_of_int (by simpa [PyData.showable] using h1) (fin fun _ _ e => e)
        | str y =>
          obtain ⟨t, rfl⟩ := rv
          exact PySem.P.repr_of_str (fin fun _ _ e => e) h4
        | lst a b =>
          obtain ⟨as, rd⟩ := Dp.reads I _ _ _ (.lst a b) rv
          cases (show _ = Value.ref _ from rv)
          exact repr_of_reads' rd h1 (PyData.noDict_hsm h2) hg (by omega) (fun _ _ e => e) (fun h' u tk k => fin k) h4
        | tup a b =>
          obtain ⟨as, rd⟩ := Dp.reads I _ _ _ (.tup a b) rv
          cases (show _ = Value.ref _ from rv)
          exact repr_of_reads' rd h1 (PyData.noDict_hsm h2) hg (by omega) (fun _ _ e => e) (fun h' u tk k => fin k) h4
end
end Pv
end

section
set_option Elab.async false
set_option linter.all false
set_option maxRecDepth 100000
set_option maxHeartbeats 4000000
/-! EvHk: a law's text as data; what the top leaves of it, told by one Hook. -/
namespace Pv
open PySem PySem.Spec PyProof.Rows L2 LamX NdefX
def fnsB (N ps : List Str) (sc : Scope) : Bool :=
  decide (sc.kind = .function) && !sc.isCoroutine && !sc.isGenerator && decide N.Nodup && decide (N.take ps.length = ps) && ps.all (fun x => decide (sc.names.lookup x = some .local) || decide (sc.names.lookup x = some .cell)) && sc.names.all (fun y => !decide (y.2 = .free))
theorem fns_by {N ps : List Str} {sc : Scope} (h : fnsB N ps sc = true) : FnScope N ps sc := by
  unfold fnsB at h
  simp only [Bool.and_eq_true, Bool.or_eq_true, Bool.not_eq_true', decide_eq_true_eq, decide_eq_false_iff_not, List.all_eq_true] at h
  obtain ⟨⟨⟨⟨⟨⟨h1, h2⟩, h3⟩, h4⟩, h5⟩, h6⟩, h7⟩ := h
  exact ⟨h1, h2, h3, h4, h5, h6, h7⟩
/-- a def's form -/
def mkFn (c : CE) (d : Df) : Fn := ⟨d.ini, (parNames d.params).length, 0, d.N.length, cSs (c.at d.N d.scope (if d.ini then [0] else []) d.tb (d.qual ++ ".<locals>.")) 60 60 d.body⟩
namespace Lw
def tnm (L : Lw) (t : Nat) (_ _ : Nat) : Str := match L.tabs[t]? with
  | some f => (match L.defs[f]? with
    | some d => d.qual ++ ".<locals>." ++ "<lambda>"
    | none => "")
  | none => ""
def ce (L : Lw) : CE where
  N := []
  sc := { kind := .function, names := [], isGenerator := false, isCoroutine := false }
  sto := fun _ => false
  con := fun x => match L.con.lookup x with
    | some d => some d
    | none => match L.glo.lookup x with
      | some i => some (.fn i)
      | none => (L.cls.lookup x).map .cls
  fns := fun x => L.glo.lookup x
  cls := fun x => L.cls.lookup x
  prom := fun x => x == ("urn" : Str)
  par := fun f => (L.defs[f]?).map fun d => parNames d.params
  fld := fun x => L.fld.contains x
  fx := []
  tnm := L.tnm
def P (L : Lw) : Prog := ⟨L.defs.map (mkFn L.ce), L.init, L.prop⟩
def W (L : Lw) (K : Fg) : Wr where
  K := K
  fa := L.fa K
  ca := L.ca K
  par := L.ce.par
  tab := L.tab K
  tnm := L.tnm
  cloP := CloT L.ce
end Lw
/-! ### what is looked at in the heap -/
mutual
theorem repB_ok {W : Wr} {K : Fg} (hK : W.K = K) : ∀ {d : D} {u : Value}, repB K d u = true → ∃ v, RelV v u ∧ ∀ m θ H, RepV W m θ H d v
  | .non, u, h => by
    cases u with
    | none => exact ⟨.non, rfl, fun _ _ _ => .non⟩
    | _ => cases h
  | .bl b, u, h => by
    cases u with
    | bool c =>
      have h : (b == c) = true := h
      rw [beq_iff_eq] at h
      subst h
      exact ⟨.bl b, rfl, fun _ _ _ => .bl b⟩
    | _ => cases h
  | .int i, u, h => by
    cases u with
    | int j t =>
      have h : i = j := of_decide_eq_true h
      subst h
      exact ⟨.int i, ⟨t, rfl⟩, fun _ _ _ => .int i⟩
    | _ => cases h
  | .str x, u, h => by
    cases u with
    | str y t =>
      have h : x = y := of_decide_eq_true h
      subst h
      exact ⟨.str x, ⟨t, rfl⟩, fun _ _ _ => .str x⟩
    | _ => cases h
  | .tup ds, u, h => by
    cases u with
    | ref a =>
      have h : (match K.lookup a with
        | some ⟨.type c, _, .seq its _, _⟩ => decide (c = "tuple") && (decide (its.size ≤ sizeLine) && repBs K ds its.toList)
        | _ => false) = true := h
      cases q : K.lookup a with
      | none => rw [q] at h; cases h
      | some o =>
        obtain ⟨oc, od, dt, sl⟩ := o
        rw [q] at h
        cases oc with
        | type c =>
          cases dt with
          | seq its n =>
            have h : (decide (c = "tuple") && (decide (its.size ≤ sizeLine) && repBs K ds its.toList)) = true := h
            rw [Bool.and_eq_true, Bool.and_eq_true, decide_eq_true_eq, decide_eq_true_eq] at h
            obtain ⟨h1, h2, h3⟩ := h
            subst h1
            obtain ⟨vs, r1, r2⟩ := repBs_ok hK h3
            exact ⟨.ref a, rfl, fun m θ H => .tup (.inr ⟨_, its, n, by rw [hK]; exact q, rfl, rfl, h2, r1⟩) (r2 m θ H)⟩
          | _ => cases h
        | _ => cases dt <;> cases h
    | _ => cases h
  | .lst _, _, h => by cases h
  | .scr _, _, h => by cases h
  | .dic _, _, h => by cases h
  | .ty _, _, h => by cases h
  | .fn _, _, h => by cases h
  | .cls _, _, h => by cases h
  | .obj _ _, _, h => by cases h
  | .ref _, _, h => by cases h
  | .opq, _, h => by cases h
theorem repBs_ok {W : Wr} {K : Fg} (hK : W.K = K) : ∀ {ds : List D} {us : List Value}, repBs K ds us = true → ∃ vs, Vals vs us ∧ ∀ m θ H, RepVs W m θ H ds vs
  | [], [], _ => ⟨[], .nil, fun _ _ _ => .nil⟩
  | d :: ds, u :: us, h => by
    have h : (repB K d u && repBs K ds us) = true := h
    rw [Bool.and_eq_true] at h
    obtain ⟨v, h1, h2⟩ := repB_ok hK h.1
    obtain ⟨vs, h3, h4⟩ := repBs_ok hK h.2
    exact ⟨v :: vs, .cons h1 h3, fun m θ H => .cons (h2 m θ H) (h4 m θ H)⟩
  | [], _ :: _, h => by cases h
  | _ :: _, [], h => by cases h
end
theorem clB_ok {K : Fg} {C : Addr} (h : clB K C = true) : CF K C := by
  unfold clB at h
  simp only [Bool.and_eq_true, decide_eq_true_eq] at h
  obtain ⟨h1, h2, h3, h4, h5, h6, h7, h8⟩ := h
  exact ⟨⟨h1, h2, h3, He.eqO_ok h4⟩, He.eqO_ok h5, He.eqO_ok h6, h7, h8⟩
theorem prB_ok {K : Fg} {C : Addr} {n : Str} {g : Addr} (h : prB K C n g = true) : ∃ p, PropOf K C n p g := by
  unfold prB at h
  cases q : PySem.W.findIn K (.ref C) n with
  | none => rw [q] at h; cases h
  | some o => cases o with
    | none => rw [q] at h; cases h
    | some v => cases v with
      | ref p =>
        rw [q] at h
        simp only [Bool.and_eq_true, decide_eq_true_eq] at h
        obtain ⟨h1, h2, h3⟩ := h
        refine ⟨p, q, He.eqO_ok h1, h2, ?_⟩
        split at h3
        · rename_i g' rest e
          have h3 : g' = g := of_decide_eq_true h3
          subst h3
          exact ⟨rest, e⟩
        · cases h3
      | _ => rw [q] at h; cases h
theorem mkB_ok {K : Fg} {C f : Addr} (h : mkB K C f = true) : Mk K C f := by
  unfold mkB at h
  simp only [Bool.and_eq_true] at h
  obtain ⟨h1, h2, h3, h4⟩ := h
  exact ⟨h1, He.eqO_ok h2, h3, h4⟩
end Pv
end

section
set_option Elab.async false
set_option linter.all false
set_option maxRecDepth 100000
set_option maxHeartbeats 4000000
/-! EvEnd: the law's call, from the heap that the top leaves. -/
namespace Pv
open PySem PySem.Spec PyProof.Rows L2 LamX NdefX
/-- the heap that a law's call begins with: the tables, the script are tracked -/
structure Beg (K : Fg) (mg : Str → Option Value) (cs : List (Addr × Addr)) (a : Addr) (vs : List Value) (ns : List Int) (s : Shared) : Prop where
  KX : K.In s.heap
  hns : s.heap.Ns mainGlobals mg
  hb : ∃ mb, s.heap.Ns builtinsNs mb ∧ ∀ x : Str, x ≠ "__name__" → mb x = bootBuiltins x
  lim : s.heap.NoLimit
  gens : s.gens = #[]
  hT : ∀ p ∈ cs, s.heap.get? p.2 = some { cls := .none, data := .fields #[] }
  nT : ∀ p ∈ cs, K.lookup p.2 = none
  C : ∀ p ∈ cs, PySem.W.CodeHd s.heap p.1 p.2
  bm : ∃ (bm : Addr) (ob : Obj), mg "__builtins__" = some (.ref bm) ∧ bm ≠ builtinsNs ∧ s.heap.get? bm = some ob ∧ ob.cls = .type "module" ∧ ob.dict = some builtinsNs ∧ ob.data = .plain
  ha : s.heap.get? a = some { cls := .type "list", data := .seq vs.toArray }
  isI : IntsAre vs ns
  hl : ns.length ≤ sizeLine
noncomputable def H0 (K : Fg) (cs : List (Addr × Addr)) (a : Addr) (vs : List Value) (ns : List Int) : Hp := fun b =>
  if b ∈ cs.map (·.2) then some (.tbl #[]) else if b = a ∧ K.lookup a = none then some (.frz { cls := .type "list", data := .seq vs.toArray } (.lst (ns.map V.int))) else none
section
variable {K : Fg} {mg : Str → Option Value} {cs : List (Addr × Addr)} {a : Addr} {vs : List Value} {ns : List Int} {s : Shared} {P : Program} {w : World}
theorem Beg.tabAt (B : Beg K mg cs a vs ns s) {b : Addr} (h : b ∈ cs.map (·.2)) : s.heap.get? b = some { cls := .none, data := .fields #[] } := by
  obtain ⟨p, hp, rfl⟩ := List.mem_map.mp h
  exact B.hT p hp
/-- what is tracked is a table or a list -/
theorem Beg.kind (B : Beg K mg cs a vs ns s) {b : Addr} {o : Obj} (e : s.heap.get? b = some o) (h1 : ∀ its n, o.data ≠ .seq its n) (h2 : o.data ≠ .fields #[]) : H0 K cs a vs ns b = none := by
  unfold H0
  by_cases hb : b ∈ cs.map (·.2)
  · rw [B.tabAt hb] at e; cases e; exact (h2 rfl).elim
  · rw [if_neg hb]
    by_cases hc : b = a ∧ K.lookup a = none
    · rw [hc.1, B.ha] at e; cases e; exact (h1 _ _ rfl).elim
    · rw [if_neg hc]
theorem Beg.hok (B : Beg K mg cs a vs ns s) : HOk P w (H0 K cs a vs ns) s.heap := fun b u e => by
  unfold H0 at e
  by_cases hb : b ∈ cs.map (·.2)
  · rw [if_pos hb] at e; cases e; exact B.tabAt hb
  · rw [if_neg hb] at e
    by_cases hc : b = a ∧ K.lookup a = none
    · rw [if_pos hc] at e
      cases e
      rw [hc.1]
      exact ⟨B.ha, by rw [List.length_map]; exact B.hl, vs, _, vals_ints B.isI, B.ha⟩
    · rw [if_neg hc] at e; cases e
theorem Beg.sq (B : Beg K mg cs a vs ns s) : SqL K (H0 K cs a vs ns) a (ns.map V.int) := by
  have na : a ∉ cs.map (·.2) := fun z => by
    have e := B.tabAt z
    rw [B.ha] at e
    have z' : Data.seq vs.toArray _ = Data.fields #[] := congrArg Obj.data (Option.some.inj e)
    cases z'
  cases q : K.lookup a with
  | none => exact .inl (.inr ⟨_, by unfold H0; rw [if_neg na, if_pos ⟨rfl, q⟩]⟩)
  | some o =>
    have e := B.KX a o q
    rw [B.ha] at e
    cases e
    exact .inr ⟨_, vs.toArray, _, q, rfl, rfl, rfl, by rw [List.size_toArray, B.isI.length]; exact B.hl, by simpa using vals_ints B.isI⟩
theorem Beg.tb (B : Beg K mg cs a vs ns s) : ∀ p ∈ cs, H0 K cs a vs ns p.2 = some (.tbl #[]) := fun p hp => by
  unfold H0; rw [if_pos (List.mem_map.mpr ⟨p, hp, rfl⟩)]
theorem Beg.seen (B : Beg K mg cs a vs ns s) : ∀ b, H0 K cs a vs ns b = none ∨ b ∈ cs.map (·.2) ∨ ∃ o xs, H0 K cs a vs ns b = some (.frz o (.lst xs)) := fun b => by
  by_cases hb : b ∈ cs.map (·.2)
  · exact .inr (.inl hb)
  · by_cases hc : b = a ∧ K.lookup a = none
    · exact .inr (.inr ⟨_, _, by unfold H0; rw [if_neg hb, if_pos hc]⟩)
    · exact .inl (by unfold H0; rw [if_neg hb, if_neg hc])
theorem Beg.k0 (B : Beg K mg cs a vs ns s) {b : Addr} {o : Obj} (e : K.lookup b = some o) : H0 K cs a vs ns b = none := by
  unfold H0
  by_cases hb : b ∈ cs.map (·.2)
  · obtain ⟨p, hp, rfl⟩ := List.mem_map.mp hb
    rw [B.nT p hp] at e; cases e
  · rw [if_neg hb, if_neg fun hc => by rw [hc.1, hc.2] at e; cases e]
theorem Beg.mod (B : Beg K mg cs a vs ns s) : L2.Mod K mg (hidT s.heap (H0 K cs a vs ns)) := by
  have nd : ∀ {b : Addr} {m : Str → Option Value}, s.heap.Ns b m → (hidT s.heap (H0 K cs a vs ns)).Ns b m := fun {b m} ⟨o, es, ep, e, d, r⟩ =>
    ⟨o, es, ep, hidT_get e (B.kind e (fun its n z => by rw [d] at z; cases z) fun z => by rw [d] at z; cases z), d, r⟩
  obtain ⟨mb, h1, h2⟩ := B.hb
  obtain ⟨mc, h3, h4⟩ := B.lim
  exact ⟨fun b o e => hidT_get (B.KX b o e) (B.k0 e), nd B.hns, ⟨mb, nd h1, h2⟩, ⟨mc, nd h3, h4⟩⟩
theorem Beg.env (B : Beg K mg cs a vs ns s) : Env0 P w K mg (hidT s.heap (H0 K cs a vs ns)) callerA [] s (H0 K cs a vs ns) where
  frames := rfl
  mod := B.mod
  bs := fun b o e => of_hidT e
  bsz := Nat.le_of_eq (hidT_size _ _)
  funs := trivial
  frf := fun b hb => by cases hb
  hok := B.hok
  bare := .of_eq B.gens
theorem Beg.tab (B : Beg K mg cs a vs ns s) : ∀ p ∈ cs, TabB (hidT s.heap (H0 K cs a vs ns)) mg p.1 p.2 := fun p hp => by
  have hTp := B.hT p hp
  obtain ⟨o, es, ep, eg, dg, _⟩ := B.hns
  have ng : mainGlobals ≠ p.2 := fun z => by rw [z, hTp] at eg; cases eg; cases dg
  refine ⟨?_, ?_, ng⟩
  · obtain ⟨oc, us, file, tf, flags, tg, inF, text, tt, e1, r1, r2, r3, rest⟩ := B.C p hp
    refine ⟨oc, us, file, tf, flags, tg, inF, text, tt, hidT_get e1 (B.kind e1 (fun its n z => ?_) fun z => ?_), r1, r2, r3, rest⟩
    · rw [r2] at z; cases z
    · rw [r2] at z; cases z; simp at r3
  · obtain ⟨m, ob, b1, b2, b3, b4, b5, b6⟩ := B.bm
    refine ⟨m, ob, b1, b2, fun z => ?_, fun z => ?_, hidT_get b3 (B.kind b3 (fun its n z => ?_) fun z => ?_), b4, b5, b6⟩
    · rw [z, eg] at b3; cases b3; rw [dg] at b6; cases b6
    · rw [z, hTp] at b3; cases b3; cases b6
    · rw [b6] at z; cases z
    · rw [b6] at z; cases z
/-- the law's end -/
theorem law_end {CX : CXT} {k : Nat} {fa : Addr} {fd : FuncData} {ps : List Str} {sp : Sp} (B : Beg K mg cs a vs ns s) (hr : Room k callerA) (hgd : callerA.guards = some [])
    (F : FnG P w K mg (hidT s.heap (H0 K cs a vs ns)) (fun _ _ _ _ _ _ => False) k fa fd ps sp) (hbind : BindsTo s fd ⟨[.ref a], []⟩ (ps.zip [.ref a])) (hsp : sp [.ref a] (H0 K cs a vs ns) (fun v _ => v = .bl true) fun _ _ _ => False) :
    codeAny (model P w) callerA (.call (.ref fa) ⟨[.ref a], []⟩) (fun r s' => r = .ok (.ret (.bool true)) ∧ OldK s.heap s'.heap ∧ s'.os = s.os ∧ AllBare s'.gens) s := by
  refine codeAny_mono (F.run callerA [] s _ ⟨[.ref a], []⟩ [.ref a] [.ref a] _ _ hgd hr B.env hbind (.cons rfl .nil) hsp) fun r s' h => ?_
  cases r with
  | error e => exact (show False from h).elim
  | ok fl =>
    cases fl with
    | next => exact (show False from h).elim
    | brk => exact (show False from h).elim
    | cont => exact (show False from h).elim
    | ret u =>
      obtain ⟨v, H', os, bare, un, hok', r', rfl⟩ := h
      obtain rfl : u = Value.bool true := r'
      have tb : ∀ {b : Addr}, b ∈ cs.map (·.2) → ∃ more : Array Value, s'.heap.get? b = some { cls := .none, data := .fields more } := fun {b} hb => by
        obtain ⟨p, hp, rfl⟩ := List.mem_map.mp hb
        obtain ⟨more, z⟩ := un.tbls p.2 #[] (B.tb p hp)
        exact ⟨_, hok' p.2 _ z⟩
      have stay : ∀ b o, b ∉ cs.map (·.2) → s.heap.get? b = some o → s'.heap.get? b = some o := fun b o nb e => by
        rcases B.seen b with z | z | ⟨ob, xs, z⟩
        · exact un.keep b o e z (fun z => by cases z) (fun z => by cases z)
        · exact (nb z).elim
        · obtain ⟨e1, _⟩ := B.hok (P := P) (w := w) b _ z
          obtain ⟨e2, _⟩ := hok' b _ (un.frzs b ob _ z)
          rw [e] at e1; cases e1
          exact e2
      refine ⟨rfl, ⟨fun b o e => ?_, fun b o e => ?_⟩, os, bare⟩
      · by_cases hb : b ∈ cs.map (·.2)
        · obtain ⟨more, hm⟩ := tb hb
          have e' := B.tabAt hb
          rw [e] at e'
          cases e'
          obtain ⟨p, hp, hpb⟩ := List.mem_map.mp hb
          have ct := ((B.C p hp).tab (B.hT p hp)).isCodeTable
          rw [hpb] at ct
          exact .inr (.inl ⟨ct, rfl, #[], more, rfl, by rw [Array.empty_append]; exact hm⟩)
        · exact .inl (stay b o hb e)
      · by_cases hb : b ∈ cs.map (·.2)
        · obtain ⟨more, hm⟩ := tb hb
          exact ⟨_, hm⟩
        · exact ⟨o, stay b o hb e⟩
end
end Pv
end

section
set_option Elab.async false
set_option linter.all false
set_option maxRecDepth 100000
set_option maxHeartbeats 4000000
/-! EvLw: what the Hook tells gives the defs' promises; the law. -/
namespace Pv
open PySem PySem.Spec PyProof.Rows L2 LamX NdefX
namespace Lw
/-- looked at in the text -/
def okS (L : Lw) : Bool :=
  (L.defs.zipIdx.all fun (d, i) => fnsB d.N (parNames d.params) d.scope && (plainArgs d.params && (decide (parNames d.params).Nodup && ((!d.ini || !(parNames d.params).isEmpty) && (match d.tb with
    | none => true
    | some t => decide (L.tabs[t]? = some i)))))) &&
  (L.glo.all (fun p => match L.defs[p.2]? with
    | some d => !d.ini
    | none => false) &&
  (L.cls.zipIdx.all (fun (p, i) => decide (p.2 = i) && (match L.init i with
    | some f => (match L.defs[f]? with
      | some d => d.ini
      | none => false)
    | none => false)) &&
  (L.prp.all (fun p => decide (L.ci p.1 = p.1) && (match L.defs[p.2.2]? with
    | some d => !d.ini
    | none => false)) && (!L.cls.isEmpty && L.ini.all fun p => decide (L.ci p.1 = p.1)))))
structure Says (L : Lw) (h : Heap) (K : Fg) : Prop where
  ok : L.okK K = true
  tx : L.defs.map (fun d => txOf K (pAd K d.at_)) = L.defs.map Df.tx
  hd : ∀ p ∈ L.cs K, PySem.W.codeHdIn K p.1 p.2 = true
  out : ∀ p ∈ L.cs K, K.lookup p.2 = none
  empty : ∀ p ∈ L.cs K, h.get? p.2 = some { cls := .none, data := .fields #[] }
  nd : ((L.cs K).map (·.2)).Nodup
theorem says_of {L : Lw} {n : Nat} {h : Heap} (e : L.obs n h.get? = (true, L.defs.map Df.tx)) : L.Says h (He.frT h.get? (He.asD h.get? n)) := by
  have e1 := congrArg (·.1) e
  have e2 := congrArg (·.2) e
  have e1 : (L.okK (He.frT h.get? (He.asD h.get? n)) && L.tabsB h.get? (He.frT h.get? (He.asD h.get? n))) = true := e1
  rw [Bool.and_eq_true] at e1
  obtain ⟨a1, a2⟩ := e1
  unfold tabsB at a2
  rw [Bool.and_eq_true, List.all_eq_true, decide_eq_true_eq] at a2
  obtain ⟨b1, b2⟩ := a2
  have key : ∀ p ∈ L.cs (He.frT h.get? (He.asD h.get? n)), PySem.W.codeHdIn (He.frT h.get? (He.asD h.get? n)) p.1 p.2 = true ∧ ∃ o, h.get? p.2 = some o ∧ He.emptyTab o = true := fun p hp => by
    have := b1 p hp
    rw [Bool.and_eq_true] at this
    refine ⟨this.1, ?_⟩
    cases q : h.get? p.2 with
    | none => rw [q] at this; exact nomatch this.2
    | some o => rw [q] at this; exact ⟨o, rfl, this.2⟩
  exact ⟨a1, e2, fun p hp => (key p hp).1, fun p hp => let ⟨_, o, q, z⟩ := key p hp; He.frT_none q z, fun p hp => let ⟨_, o, q, z⟩ := key p hp; by rw [q, He.emptyTab_eq z], b2⟩
def hook (L : Lw) (n : Nat) : PySem.W.Hook where
  α := Al
  obs := fun s => L.obs n s.heap.get?
  val := fun _ => (true, L.defs.map Df.tx)
  says := fun _ h => ∃ K : Fg, K.In h ∧ L.Says h K
  of := fun _ _ e => ⟨_, He.frT_in, says_of e⟩
  keeps := fun _ _ _ ⟨K, hK, c⟩ k => ⟨K, PySem.W.Frag.In.keeps hK k, ⟨c.ok, c.tx, c.hd, c.out, fun p hp => k _ _ (c.empty p hp), c.nd⟩⟩
theorem obs_eq {L : Lw} {n : Nat} {g : Addr → Option Obj} {s : Shared} (h : ∀ a, g a = s.heap.get? a) : L.obs n g = (L.hook n).obs s := by
  have e : g = s.heap.get? := funext h
  rw [e] <;> rfl
/-! ### what follows -/
section
variable {L : Lw} {K : Fg} {h h1 : Heap} {mg : Str → Option Value}
theorem ci_ci (hc : (!L.cls.isEmpty) = true) (c : Nat) : L.ci (L.ci c) = L.ci c := by
  have : 0 < L.cls.length := by
    cases e : L.cls with
    | nil => rw [e] at hc; cases hc
    | cons _ _ => simp
  unfold ci
  by_cases q : c < L.cls.length
  · simp [q]
  · simp [q, this]
theorem ca_ci (hc : (!L.cls.isEmpty) = true) (c : Nat) : L.ca K (L.ci c) = L.ca K c := by
  unfold ca
  rw [ci_ci hc]
theorem prop_ci (hc : (!L.cls.isEmpty) = true) (c : Nat) (n : Str) : L.prop (L.ci c) n = L.prop c n := by
  unfold prop
  rw [ci_ci hc]
theorem cls_ci (hc : (!L.cls.isEmpty) = true) (hz : L.cls.zipIdx.all (fun (p, i) => decide (p.2 = i)) = true) (c : Nat) : ∃ p, p ∈ L.cls ∧ p.2 = L.ci c := by
  have lt : L.ci c < L.cls.length := by
    unfold ci
    split
    · assumption
    · cases e : L.cls with
      | nil => rw [e] at hc; cases hc
      | cons _ _ => simp
  refine ⟨L.cls[L.ci c], List.getElem_mem lt, ?_⟩
  rw [List.all_eq_true] at hz
  have := hz (L.cls[L.ci c], L.ci c) (by rw [List.mem_zipIdx_iff_getElem?]; simp)
  exact of_decide_eq_true this
theorem gok (S : L.Says h K) (X : K.In h1) (G : h1.Ns mainGlobals mg) (st : L.okS = true) : GOk K mg (L.W K) L.P rpD L.ce := by
  have ok := S.ok
  unfold okK at ok
  simp only [Bool.and_eq_true, List.all_eq_true] at ok
  obtain ⟨k1, k2, k3, k4, k5, k6, k7, k8⟩ := ok
  unfold okS at st
  simp only [Bool.and_eq_true, List.all_eq_true] at st
  obtain ⟨s1, s2, s3, s4, s5, s6⟩ := st
  have hz : L.cls.zipIdx.all (fun (p, i) => decide (p.2 = i)) = true := List.all_eq_true.mpr fun p hp => (s3 p hp).1
  have gl : ∀ (x : Str) (i : Nat), L.glo.lookup x = some i → mg x = some (.ref (L.fa K i)) := fun x i e => PySem.W.mg_of X G (He.eqO_ok (k3 _ (mem_lk e)))
  have cl : ∀ (x : Str) (q : Nat), L.cls.lookup x = some q → mg x = some (.ref (L.ca K q)) := fun x q e => PySem.W.mg_of X G (He.eqO_ok (k4 _ (mem_lk e)).1)
  have fnAt : ∀ {i : Nat} {d : Df}, L.defs[i]? = some d → L.P.fns[i]? = some (mkFn L.ce d) := fun {i d} e => by
    show (L.defs.map (mkFn L.ce))[i]? = _
    rw [List.getElem?_map, e]; rfl
  refine
    { KW := rfl, con := fun x d e => ?_, blt := fun x hx => PySem.W.mg_none_of X G (He.eqO_ok (k1 x hx)), fns := fun x f e => ⟨gl x f e, ?_⟩, par := rfl, cls := fun x q e => ⟨cl x q e, ?_⟩, C := ⟨fun c => ?_, fun c n f e => ?_, fun c n hf e => ?_, fun c f e => ?_⟩,
      prop := fun q n f e => ?_, tnm := rfl, clo := fun _ _ _ _ _ => Iff.rfl, rpr := fun X' hK _ hg hu => rpr_ok hK.symm hg hu }
  · have e : (match L.con.lookup x with
      | some d => some d
      | none => match L.glo.lookup x with
        | some i => some (.fn i)
        | none => (L.cls.lookup x).map .cls) = some d := e
    cases e1 : L.con.lookup x with
    | some d' =>
      rw [e1] at e
      cases e
      have := k5 _ (mem_lk e1)
      unfold coB at this
      split at this
      · rename_i u hu
        obtain ⟨v, r1, r2⟩ := repB_ok (W := L.W K) rfl this
        exact ⟨u, v, PySem.W.mg_of X G hu, r1, r2⟩
      · cases this
    | none =>
      rw [e1] at e
      cases e2 : L.glo.lookup x with
      | some i =>
        rw [e2] at e
        cases e
        exact ⟨_, .ref (L.fa K i), gl x i e2, rfl, fun m θ H => .fn (W := L.W K) i⟩
      | none =>
        rw [e2] at e
        have e : (L.cls.lookup x).map D.cls = some d := e
        rw [Option.map_eq_some_iff] at e
        obtain ⟨q, e3, rfl⟩ := e
        exact ⟨_, .ref (L.ca K q), cl x q e3, rfl, fun m θ H => .cls (W := L.W K) q⟩
  · have := s2 _ (mem_lk e)
    simp only at this
    cases q : L.defs[f]? with
    | none => rw [q] at this; cases this
    | some d =>
      rw [q] at this
      refine ⟨_, fnAt q, ?_⟩
      show d.ini = false
      simpa using this
  · obtain ⟨i, hi, ei⟩ := List.mem_iff_getElem.mp (mem_lk e)
    have := s3 ((x, q), i) (by rw [List.mem_zipIdx_iff_getElem?]; simp [ei, hi])
    obtain ⟨t1, t2⟩ := this
    have t1 : q = i := of_decide_eq_true t1
    subst t1
    have t2 : (match L.init q with
      | some f => (match L.defs[f]? with
        | some d => d.ini
        | none => false)
      | none => false) = true := t2
    cases q1 : L.init q with
    | none => rw [q1] at t2; cases t2
    | some f =>
      rw [q1] at t2
      cases q2 : L.defs[f]? with
      | none => simp only [q2] at t2; cases t2
      | some d =>
        simp only [q2] at t2
        exact ⟨f, _, q1, fnAt q2, t2⟩
  · obtain ⟨p, hp, e⟩ := cls_ci s5 hz c
    have := (k4 p hp).2
    rw [e, ca_ci s5] at this
    exact clB_ok this
  · have e : (L.prp.find? fun p => p.1 == L.ci c && p.2.1 == n).map (·.2.2) = some f := e
    rw [Option.map_eq_some_iff] at e
    obtain ⟨q, e1, rfl⟩ := e
    have h1 := List.find?_some e1
    rw [Bool.and_eq_true, beq_iff_eq, beq_iff_eq] at h1
    have h2 := k7 q (List.mem_of_find?_eq_some e1)
    rw [h1.1, h1.2, ca_ci s5] at h2
    exact prB_ok h2
  · obtain ⟨p, hp, e1⟩ := cls_ci s5 hz c
    have hf : L.fld.contains n = true := hf
    have := k6 p hp n (by simpa using hf)
    rw [e1, ca_ci s5, prop_ci s5, show L.prop c n = none from e, Bool.or_eq_true] at this
    rcases this with z | z
    · cases z
    · exact He.eqO_ok z
  · have e : (L.ini.find? fun p => p.1 == L.ci c).map (·.2) = some f := e
    rw [Option.map_eq_some_iff] at e
    obtain ⟨q, e1, rfl⟩ := e
    have h1 := List.find?_some e1
    rw [beq_iff_eq] at h1
    have h2 := k8 q (List.mem_of_find?_eq_some e1)
    rw [h1, ca_ci s5] at h2
    exact mkB_ok h2
  · have e : (L.prp.find? fun p => p.1 == L.ci q && p.2.1 == n).map (·.2.2) = some f := e
    rw [Option.map_eq_some_iff] at e
    obtain ⟨p, e1, rfl⟩ := e
    have h1 := (s4 p (List.mem_of_find?_eq_some e1)).2
    cases q1 : L.defs[p.2.2]? with
    | none => rw [q1] at h1; cases h1
    | some d =>
      rw [q1] at h1
      refine ⟨_, fnAt q1, ?_⟩
      show d.ini = false
      simpa using h1
theorem fnd (S : L.Says h K) (st : L.okS = true) {base : Heap} (TB : ∀ p ∈ L.cs K, TabB base mg p.1 p.2) : ∀ (f : Nat) (fn : Fn), L.P.fns[f]? = some fn → FnD K mg base (L.W K) L.ce f fn := fun f fn e => by
  have ok := S.ok
  unfold okK at ok
  simp only [Bool.and_eq_true, List.all_eq_true] at ok
  obtain ⟨_, k2, _⟩ := ok
  unfold okS at st
  simp only [Bool.and_eq_true, List.all_eq_true] at st
  obtain ⟨s1, _⟩ := st
  have e : (L.defs.map (mkFn L.ce))[f]? = some fn := e
  rw [List.getElem?_map, Option.map_eq_some_iff] at e
  obtain ⟨d, hd, rfl⟩ := e
  have hm : d ∈ L.defs := List.mem_of_getElem? hd
  have hs := s1 (d, f) (by rw [List.mem_zipIdx_iff_getElem?]; simpa using hd)
  obtain ⟨t1, t2, t3, t4, t5⟩ := hs
  have hk := k2 d hm
  have htx : txOf K (pAd K d.at_) = d.tx := by
    have := congrArg (fun l : List Tx => l[f]?) S.tx
    simp only [List.getElem?_map, hd, Option.map_some] at this
    exact Option.some.inj this
  have hfa : (L.W K).fa f = pAd K d.at_ := by
    show L.fa K f = _
    unfold fa
    rw [hd]
  unfold Df.ok at hk
  rw [Bool.and_eq_true] at hk
  obtain ⟨hk1, hk2⟩ := hk
  unfold txOf at htx
  cases q : K.lookup (pAd K d.at_) with
  | none => rw [q] at hk2; cases hk2
  | some o =>
    obtain ⟨oc, od, dt, osl⟩ := o
    rw [q] at hk2 htx
    cases dt with
    | func fd =>
      obtain ⟨n1, n2, n3, n4, n5, n6, n7, n8, n9, n10, n11, n12, n13, n14, n15⟩ := fd
      have htx : (some (n1, n2, n3, n4, n5, n6, n7, n8, n15) : Tx) = some (d.name, d.qual, d.params, .stmts d.body, d.scope, mainGlobals, [], .none, builtinsNs) := htx
      simp only [Option.some.injEq, Prod.mk.injEq] at htx
      obtain ⟨e1, e2, e3, e4, e5, e6, e7, e8, e9⟩ := htx
      subst e1 e2 e3 e4 e5 e6 e7 e8 e9
      have hk2 : PySem.W.codeIn K n13 d.qual = true := hk2
      have bp : ∀ us : List Value, us.length = (parNames d.params).length → bindArgs (PySem.W.fnOf d.name d.qual d.params d.body d.scope .none n9 n10 n11 n12 n13 n14) ⟨us, []⟩ = pure ((parNames d.params).zip us) := fun us hl => bind_plain t2 rfl (of_decide_eq_true t3) hl
      refine ⟨oc, od, d.name, d.qual, d.params, d.body, d.scope, .none, n9, n10, n11, n12, n13, n14, osl, d.N, parNames d.params, 60, 60, d.tb, by rw [hfa]; exact q, hk2, fns_by t1, by rw [hfa]; exact hk1, .all bp, fun qs hq => ?_, rfl, fun hi => ?_, fun t ht => ?_⟩
      · have hq : (L.defs[f]?).map (fun d => parNames d.params) = some qs := hq
        rw [hd] at hq
        cases hq
        exact ⟨rfl, fun s us ws ws' ks ix h1 h2 h3 h4 h5 h6 => .of_eq (bind_plainKw t2 rfl (of_decide_eq_true t3) h1 h2 h3 h4 h5 h6)⟩
      · have hi : d.ini = true := hi
        rw [hi] at t4
        simpa using t4
      · rw [ht] at t5
        have t5 : L.tabs[t]? = some f := of_decide_eq_true t5
        obtain ⟨cd, hcd⟩ := He.codeIn_ref hk2
        subst hcd
        have hca : codeAt K (L.fa K f) = cd := by
          have : L.fa K f = pAd K d.at_ := hfa
          unfold codeAt
          rw [this, q]
        have htab : (L.W K).tab t = He.tabOf K cd := by
          show L.tab K t = _
          unfold tab
          rw [t5, ← hca]
        refine ⟨cd, rfl, ?_⟩
        rw [htab]
        exact TB (cd, He.tabOf K cd) (List.mem_map.mpr ⟨f, List.mem_of_getElem? t5, by rw [hca]⟩)
    | _ => cases hk2
/-- the tables as the store has them -/
def tbls (L : Lw) : List Ob := (List.range L.tabs.length).map Ob.tbl
theorem ev_walk {l : PySem.W.OpenLaw} {n k f nn : Nat} {q : Program} {loose : List Str} {XP : (Str → Option Value) → Heap → Prop} {d : DefRec} {L : Lw} (hn : l.most = some n) (hn2 : n ≤ sizeLine) (hdf : d.params.defaults = []) (st : L.okS = true) (hr : Room k callerA)
    (hlaw : L.glo.lookup d.name = some f)
    (val : ∀ ns : List Int, ns.length ≤ n → (∀ z ∈ ns, Builtin.Int.intBits z ≤ 1048576) → ∃ m, evFn L.P rpD k f [] [.d (.scr (ns.map .int))] L.tbls = .ok (.d (.bl true)) ⟨[], m⟩) :
    PySem.W.WalkO q loose XP (L.hook nn).says l.row.toRowW d [] (fun f vs => PySem.call f vs) := by
  refine Att.attach_callB hn hdf fun w s₀ s₁ mg mb fa o pm cd doc a vs ns G Y ho hd hcd hmg hobj hints hlen hbits hg => ?_
  obtain ⟨K, KX, S⟩ := Y
  have B : Beg K mg (L.cs K) a vs ns s₁ := ⟨KX, G.T.g, ⟨mb, G.T.b, G.T.builtins⟩, G.T.nolimit, hg, S.empty, S.out, fun p hp => PySem.W.codeHd_of_K KX (S.hd p hp), G.T.bmain, hobj, hints, Nat.le_trans hlen hn2⟩
  have gk := gok S B.mod.kin B.mod.glob st
  obtain ⟨hfa, fn, hf, hini⟩ := gk.fns d.name f hlaw
  rw [hmg] at hfa
  cases hfa
  obtain ⟨fd, ps, FG, hk, hb, _⟩ := ((held_all (Pg := l.prog) (w := w) gk (fnd S st B.tab) k).1 f fn hf).ex
  have na : a ∉ (L.cs K).map (·.2) := fun z => by
    have e := B.tabAt z
    rw [hobj] at e
    have z' : Data.seq vs.toArray _ = Data.fields #[] := congrArg Obj.data (Option.some.inj e)
    cases z'
  have no : ∀ {x : D} {τ : L2.St} {b : Addr}, ¬ Own [Sl.val x] τ b := fun {x τ b} ⟨i, o, e, _⟩ => by
    cases i with
    | zero => cases e
    | succ i => cases e
  have R : Rep (L.W K) (fun _ => False) ((L.cs K).map (·.2)) ⟨[AX.d (.scr (ns.map .int))].map AX.sl, L.tbls⟩ ([V.ref a].map some) (H0 K (L.cs K) a vs ns) := by
    refine ⟨rfl, fun i o e => ?_, ?_, fun t b ob e1 e2 => ?_, S.nd, fun i j o o' b e => ?_, fun b z => (no z).elim, fun b z => z.elim, fun b z => z.elim⟩
    · cases i with
      | succ i => simp at e
      | zero =>
        cases (show some (some (V.ref a)) = some o from e)
        refine RepV.scr (vs := ns.map V.int) ?_ (repI ns)
        rcases B.sq with z | ⟨o, its, n', h1, h2, h3, h4, h5, h6⟩
        · refine .inl ⟨z, fun q => ?_⟩
          rcases q with q | q | q
          · exact q
          · exact na q
          · exact (no q).elim
        · exact .inr ⟨o, its, n', h1, h2, h3, h4, h5, h6⟩
    · show ((L.cs K).map (·.2)).length = L.tbls.length
      unfold cs tbls
      simp
    · have e2 : L.tbls[t]? = some ob := e2
      unfold tbls at e2
      rw [List.getElem?_map, Option.map_eq_some_iff] at e2
      obtain ⟨t', e3, rfl⟩ := e2
      rw [List.getElem?_range (by
        have := (List.getElem?_eq_some_iff.mp e3).1
        simpa using this)] at e3
      cases e3
      unfold cs at e1
      rw [List.map_map, List.getElem?_map, Option.map_eq_some_iff] at e1
      obtain ⟨f', e4, rfl⟩ := e1
      refine ⟨?_, #[], B.tb _ (List.mem_map.mpr ⟨f', List.mem_of_getElem? e4, rfl⟩), trivial, fun pos cv hc => ?_⟩
      · show _ = L.tab K t
        unfold tab
        rw [e4]
        rfl
      · have z : codeAmong pos [] = some cv := hc
        simp [codeAmong] at z
    · have e : getN [Sl.val (.scr (ns.map .int))] i = .own o := e
      cases i with
      | zero => cases e
      | succ i => cases e
  have sp : spFn (L.W K) L.P rpD k f [.ref a] (H0 K (L.cs K) a vs ns) (fun v _ => v = .bl true) fun _ _ _ => False := by
    obtain ⟨m, e⟩ := val ns hlen hbits
    refine ⟨fn, fun _ => False, (L.cs K).map (·.2), [AX.d (.scr (ns.map .int))], L.tbls, hf, R, ?_⟩
    rw [e]
    intro v H' θ' rx _
    rw [hini, if_neg Bool.false_ne_true]
    obtain ⟨_, _, r⟩ := rx
    cases r
    rfl
  have hl : ps.length = 1 := (FG.len _ _ _ _ sp).symm
  have bd := hb s₁ [.ref a] KX (by rw [List.append_nil]; exact hl.symm)
  exact law_end (CX := fun _ _ _ _ _ _ => False) B hr rfl FG bd sp
end
end Lw
end Pv
end

section
set_option Elab.async false
set_option linter.all false
set_option maxRecDepth 100000
/-! EvVal: what forms come to, step by step: plain laws of the evaluator. -/
namespace Pv
open PySem
/-! ### frames that agree but for some names -/
structure Agree (own : List Nat) (ρ ρ' : List Sl) : Prop where
  len : ρ'.length = ρ.length
  out : ∀ i, i ∉ own → getN ρ' i = getN ρ i
theorem Agree.refl {own : List Nat} {ρ : List Sl} : Agree own ρ ρ := ⟨rfl, fun _ _ => rfl⟩
theorem Agree.trans {own : List Nat} {ρ ρ' ρ'' : List Sl} (a : Agree own ρ ρ') (b : Agree own ρ' ρ'') : Agree own ρ ρ'' := ⟨b.len.trans a.len, fun i h => (b.out i h).trans (a.out i h)⟩
theorem Agree.symm {own : List Nat} {ρ ρ' : List Sl} (a : Agree own ρ ρ') : Agree own ρ' ρ := ⟨a.len.symm, fun i h => (a.out i h).symm⟩
theorem getN_opt (ρ : List Sl) (i : Nat) : getN ρ i = (ρ[i]?).getD .no := by
  induction ρ generalizing i with
  | nil => simp [getN]
  | cons x r ih => cases i with
    | zero => rfl
    | succ n => simpa [getN] using ih n
theorem setN_eq (ρ : List Sl) (i : Nat) (x : Sl) : setN ρ i x = ρ.set i x := by
  induction ρ generalizing i with
  | nil => rfl
  | cons y r ih => cases i with
    | zero => rfl
    | succ n => simp [setN, ih]
theorem getN_set (ρ : List Sl) (i j : Nat) (x : Sl) : getN (setN ρ i x) j = if i = j ∧ i < ρ.length then x else getN ρ j := by
  rw [getN_opt, getN_opt, setN_eq, List.getElem?_set]
  by_cases e : i = j
  · subst e
    by_cases h : i < ρ.length
    · simp [h]
    · simp [h, List.getElem?_eq_none (Nat.le_of_not_lt h)]
  · simp [e]
theorem setN_lenV (ρ : List Sl) (i : Nat) (x : Sl) : (setN ρ i x).length = ρ.length := by rw [setN_eq, List.length_set]
theorem ext_getN {ρ ρ' : List Sl} (hl : ρ.length = ρ'.length) (h : ∀ i, i < ρ.length → getN ρ i = getN ρ' i) : ρ = ρ' := by
  apply List.ext_getElem? 
  intro i
  by_cases hi : i < ρ.length
  · have := h i hi
    rw [getN_opt, getN_opt, List.getElem?_eq_getElem hi, List.getElem?_eq_getElem (by omega)] at this
    rw [List.getElem?_eq_getElem hi, List.getElem?_eq_getElem (by omega)]
    exact congrArg some this
  · rw [List.getElem?_eq_none (by omega), List.getElem?_eq_none (by omega)]
theorem wipe_len : ∀ (own : List Nat) (ρ : List Sl), (wipeN own ρ).length = ρ.length
  | [], _ => rfl
  | i :: r, ρ => by show (setN (wipeN r ρ) i .no).length = _; rw [setN_lenV, wipe_len r ρ]
theorem wipe_getV : ∀ (own : List Nat) (ρ : List Sl) (j : Nat), getN (wipeN own ρ) j = if j ∈ own then .no else getN ρ j
  | [], ρ, j => by simp [wipeN]
  | i :: r, ρ, j => by
    show getN (setN (wipeN r ρ) i .no) j = _
    rw [getN_set, wipe_getV r ρ j, wipe_len]
    by_cases e : i = j
    · subst e
      by_cases h : i < ρ.length
      · simp [h]
      · simp only [h, and_false, if_false, List.mem_cons, true_or, if_true]
        rw [getN_opt, List.getElem?_eq_none (by omega)]; simp
    · have : ¬ j = i := fun z => e z.symm
      simp [e, this]
theorem wipe_eq {own : List Nat} {ρ ρ' : List Sl} (a : Agree own ρ ρ') : wipeN own ρ' = wipeN own ρ := by
  refine ext_getN (by rw [wipe_len, wipe_len]; exact a.len) fun i _ => ?_
  rw [wipe_getV, wipe_getV]
  split
  · rfl
  · rename_i h; exact a.out i h
theorem wipe_agree {own : List Nat} {ρ : List Sl} : Agree own ρ (wipeN own ρ) := ⟨wipe_len own ρ, fun i h => by rw [wipe_getV, if_neg h]⟩
theorem restore_len : ∀ (own : List Nat) (ρ₀ ρ : List Sl), (restore ρ₀ own ρ).length = ρ.length
  | [], _, _ => rfl
  | i :: r, ρ₀, ρ => by show (setN (restore ρ₀ r ρ) i _).length = _; rw [setN_lenV, restore_len r]
theorem restore_get : ∀ (own : List Nat) (ρ₀ ρ : List Sl) (j : Nat), ρ.length = ρ₀.length → getN (restore ρ₀ own ρ) j = if j ∈ own then getN ρ₀ j else getN ρ j
  | [], ρ₀, ρ, j, _ => by simp [restore]
  | i :: r, ρ₀, ρ, j, hl => by
    show getN (setN (restore ρ₀ r ρ) i (getN ρ₀ i)) j = _
    rw [getN_set, restore_get r ρ₀ ρ j hl, restore_len]
    by_cases e : i = j
    · subst e
      by_cases h : i < ρ.length
      · simp [h]
      · have e1 : getN ρ i = .no := by rw [getN_opt, List.getElem?_eq_none (by omega)]; rfl
        have e2 : getN ρ₀ i = .no := by rw [getN_opt, List.getElem?_eq_none (by omega)]; rfl
        simp [h, e1, e2]
    · have : ¬ j = i := fun z => e z.symm
      simp [e, this]
theorem restore_eq {own : List Nat} {ρ₀ ρ : List Sl} (a : Agree own ρ₀ ρ) : restore ρ₀ own ρ = ρ₀ := by
  refine ext_getN (by rw [restore_len]; exact a.len) fun i _ => ?_
  rw [restore_get own ρ₀ ρ i a.len]
  split
  · rfl
  · rename_i h; exact a.out i h
/-! ### comprehensions -/
abbrev turnCV (g : G) (own : List Nat) (t : T) (ifs : List E) (x : E) (y : D) (s' : S) : Out (Option D) :=
  (asT g t y ⟨wipeN own s'.ρ, s'.m⟩).bind fun _ s' => (evTs g ifs s').bind fun b s' => if b then (ev g x s').bind fun z s' => .ok (some z.frz) s' else .ok none s'
/-- a comprehension that changes nothing: fm tells each item's value -/
theorem comp_valS {α : Type} {g : G} {own : List Nat} {t : T} {it : It} {ifs : List E} {x : E} {s0 s : S} {xs : List α} {dOf : α → D} {fm : α → Option D} (hi : evI g it s0 = .ok (xs.map dOf) s) (hp : own.all (fun i => plainSl (getN s.ρ i)) = true)
    (h : ∀ a ∈ xs, ∃ ρ', Agree own s.ρ ρ' ∧ turnCV g own t ifs x (dOf a) ⟨wipeN own s.ρ, s.m⟩ = .ok (fm a) ⟨ρ', s.m⟩) (hl : xs.length ≤ LINE) :
    ev g (.comp own t it ifs x) s0 = .ok (.f (.lst (xs.filterMap fm))) s := by
  have loop : ∀ (ys : List α) (acc : List D) (ρ : List Sl), (∀ a ∈ ys, a ∈ xs) → acc.length + ys.length ≤ LINE → Agree own s.ρ ρ → ∃ ρ', Agree own s.ρ ρ' ∧
      compL (turnCV g own t ifs x) (ys.map dOf) acc ⟨ρ, s.m⟩ = .ok (acc ++ ys.filterMap fm) ⟨ρ', s.m⟩ := by
    intro ys
    induction ys with
    | nil => intro acc ρ _ _ ha; exact ⟨ρ, ha, by simp [compL]⟩
    | cons a ys ih =>
      intro acc ρ hm hacc ha
      obtain ⟨ρ1, a1, e1⟩ := h a (hm a (.head _))
      have e1' : turnCV g own t ifs x (dOf a) ⟨ρ, s.m⟩ = .ok (fm a) ⟨ρ1, s.m⟩ := by
        have : wipeN own (wipeN own s.ρ) = wipeN own ρ := by rw [wipe_eq ha, wipe_eq wipe_agree]
        show (asT g t (dOf a) ⟨wipeN own ρ, s.m⟩).bind _ = _
        rw [← this]
        exact e1
      rw [List.map_cons, compL, e1', Out.bind_ok]
      cases q : fm a with
      | none =>
        simp only
        obtain ⟨ρ2, a2, e2⟩ := ih acc ρ1 (fun b hb => hm b (.tail _ hb)) (by simp at hacc; omega) a1
        exact ⟨ρ2, a2, by rw [e2]; simp [q]⟩
      | some v =>
        simp only
        rw [if_pos (by simp at hacc; omega)]
        obtain ⟨ρ2, a2, e2⟩ := ih (acc ++ [v]) ρ1 (fun b hb => hm b (.tail _ hb)) (by simp at hacc ⊢; omega) a1
        exact ⟨ρ2, a2, by rw [e2]; simp [q]⟩
  obtain ⟨ρ', a', e'⟩ := loop xs [] (wipeN own s.ρ) (fun _ h => h) (by simpa using hl) wipe_agree
  rw [ev, hi, Out.bind_ok, if_pos hp]
  show (compL (turnCV g own t ifs x) _ _ _).bind _ = _
  rw [e', Out.bind_ok, restore_eq a']
  simp
theorem comp_val {α : Type} {g : G} {own : List Nat} {t : T} {it : It} {ifs : List E} {x : E} {s : S} {xs : List α} {dOf : α → D} {fm : α → Option D} (hi : evI g it s = .ok (xs.map dOf) s) (hp : own.all (fun i => plainSl (getN s.ρ i)) = true)
    (h : ∀ a ∈ xs, ∃ ρ', Agree own s.ρ ρ' ∧ turnCV g own t ifs x (dOf a) ⟨wipeN own s.ρ, s.m⟩ = .ok (fm a) ⟨ρ', s.m⟩) (hl : xs.length ≤ LINE) :
    ev g (.comp own t it ifs x) s = .ok (.f (.lst (xs.filterMap fm))) s := comp_valS hi hp h hl
/-! ### loops -/
theorem forL_nil {turn : D → S → Out Fl} {s : S} : forL turn [] s = .ok .nx s := rfl
/-- a loop that runs through: J tells what is so behind so many items -/
theorem forL_inv {α β : Type} {turn : D → S → Out Fl} {dOf : α → D} (J : β → S → Prop) (f : β → α → β) : ∀ (xs : List α) (b : β) (s : S), (∀ a ∈ xs, ∀ b s, J b s → ∃ s', turn (dOf a) s = .ok .nx s' ∧ J (f b a) s') → J b s →
    ∃ s', forL turn (xs.map dOf) s = .ok .nx s' ∧ J (xs.foldl f b) s'
  | [], b, s, _, hj => ⟨s, rfl, hj⟩
  | a :: xs, b, s, h, hj => by
    obtain ⟨s1, e1, j1⟩ := h a (.head _) b s hj
    obtain ⟨s2, e2, j2⟩ := forL_inv J f xs (f b a) s1 (fun a ha => h a (.tail _ ha)) j1
    refine ⟨s2, ?_, j2⟩
    rw [List.map_cons, forL, e1, Out.bind_ok]
    exact e2
/-- the same, J told of the items behind -/
theorem forL_pre {α : Type} {turn : D → S → Out Fl} {dOf : α → D} (J : List α → S → Prop) (all : List α) (h : ∀ (pre : List α) (a : α) (post : List α) (s : S), all = pre ++ a :: post → J pre s → ∃ s', turn (dOf a) s = .ok .nx s' ∧ J (pre ++ [a]) s') :
    ∀ (xs pre : List α) (s : S), all = pre ++ xs → J pre s → ∃ s', forL turn (xs.map dOf) s = .ok .nx s' ∧ J all s'
  | [], pre, s, e, hj => ⟨s, rfl, by rw [e, List.append_nil]; exact hj⟩
  | a :: xs, pre, s, e, hj => by
    obtain ⟨s1, e1, j1⟩ := h pre a xs s e hj
    obtain ⟨s2, e2, j2⟩ := forL_pre J all h xs (pre ++ [a]) s1 (by rw [e]; simp) j1
    refine ⟨s2, ?_, j2⟩
    rw [List.map_cons, forL, e1, Out.bind_ok]
    exact e2
/-! ### sums, cuts -/
theorem intsOf_map {α : Type} (f : α → Int) : ∀ xs : List α, intsOf (xs.map fun a => .int (f a)) = some (xs.map f)
  | [] => rfl
  | a :: xs => by rw [List.map_cons, intsOf, intsOf_map f xs]; rfl
theorem intsOf_int : ∀ xs : List Int, intsOf (xs.map .int) = some xs
  | [] => rfl
  | a :: xs => by rw [List.map_cons, intsOf, intsOf_int xs]; rfl
theorem blsOf_map {α : Type} (f : α → Bool) : ∀ xs : List α, blsOf (xs.map fun a => .bl (f a)) = some (xs.map f)
  | [] => rfl
  | a :: xs => by rw [List.map_cons, blsOf, blsOf_map f xs]; rfl
theorem strsOf_map {α : Type} (f : α → Str) : ∀ xs : List α, strsOf (xs.map fun a => .str (f a)) = some (xs.map f)
  | [] => rfl
  | a :: xs => by rw [List.map_cons, strsOf, strsOf_map f xs]; rfl
theorem strsOf_str : ∀ xs : List Str, strsOf (xs.map .str) = some xs
  | [] => rfl
  | a :: xs => by rw [List.map_cons, strsOf, strsOf_str xs]; rfl
theorem fm_map {α β : Type} (f : α → β) (xs : List α) : xs.filterMap (fun a => some (f a)) = xs.map f := by
  induction xs with
  | nil => rfl
  | cons a xs ih => simp
theorem fm_if {α β : Type} (p : α → Bool) (f : α → β) (xs : List α) : xs.filterMap (fun a => if p a then some (f a) else none) = (xs.filter p).map f := by
  induction xs with
  | nil => rfl
  | cons a xs ih =>
    by_cases h : p a
    · simp [h, ih]
    · simp [h, ih]
/-- a call whose def comes to something -/
theorem callG_val {α : Type} {c : α → List D → List AX → List Ob → Out FX} {f : α} {caps : List D} {as : List AX} {s : S} {x : FX} {m' : List Ob} (h : c f caps as s.m = .ok x ⟨[], m'⟩) : callG c f caps as s = .ok x ⟨s.ρ, m'⟩ := by
  unfold callG
  rw [h]
theorem runFn_ret {g : G} {fn : Fn} {caps : List D} {as : List AX} {m m' : List Ob} {x : FX} {ρ : List Sl} (hl : as.length = fn.np) (hc : caps.length = fn.nc) (hi : fn.ini = false) (h : exs g fn.body ⟨startS fn caps as, m⟩ = .ok (.ret x) ⟨ρ, m'⟩) : runFn g fn caps as m = .ok x ⟨[], m'⟩ := by
  unfold runFn
  rw [if_pos ⟨hl, hc⟩, h, Out.bind_ok, hi]
theorem runFn_nx {g : G} {fn : Fn} {caps : List D} {as : List AX} {m m' : List Ob} {ρ : List Sl} (hl : as.length = fn.np) (hc : caps.length = fn.nc) (hi : fn.ini = false) (h : exs g fn.body ⟨startS fn caps as, m⟩ = .ok .nx ⟨ρ, m'⟩) : runFn g fn caps as m = .ok (.d .non) ⟨[], m'⟩ := by
  unfold runFn
  rw [if_pos ⟨hl, hc⟩, h, Out.bind_ok, hi]
/-- what a body hands back -/
def outR : Out Fl → Option (FX × List Ob)
  | .ok (.ret x) s => some (x, s.m)
  | .ok .nx s => some (.d .non, s.m)
  | _ => none
theorem outR_ret {x : FX} {s : S} : outR (.ok (.ret x) s) = some (x, s.m) := rfl
theorem outR_nx {s : S} : outR (.ok .nx s) = some (.d .non, s.m) := rfl
theorem run_ret {g : G} {fn : Fn} {caps : List D} {as : List AX} {m m' : List Ob} {x : FX} (hl : as.length = fn.np) (hc : caps.length = fn.nc) (hi : fn.ini = false) (h : outR (exs g fn.body ⟨startS fn caps as, m⟩) = some (x, m')) : runFn g fn caps as m = .ok x ⟨[], m'⟩ := by
  cases e : exs g fn.body ⟨startS fn caps as, m⟩ with
  | exc _ _ _ => rw [e] at h; cases h
  | err => rw [e] at h; cases h
  | ok f s =>
    rw [e] at h
    cases f with
    | nx => cases h; exact runFn_nx hl hc hi e
    | ret y => cases h; exact runFn_ret hl hc hi e
    | brk => cases h
    | cont => cases h
theorem run_ini {g : G} {fn : Fn} {caps : List D} {as : List AX} {m m' : List Ob} {o : Ob} (hl : as.length = fn.np) (hc : caps.length = fn.nc) (hi : fn.ini = true) (h : ∃ ρ, exs g fn.body ⟨startS fn caps as, m⟩ = .ok .nx ⟨ρ, m'⟩ ∧ getN ρ 0 = .own o) : runFn g fn caps as m = .ok (.f o) ⟨[], m'⟩ := by
  obtain ⟨ρ, h, e⟩ := h
  unfold runFn
  rw [if_pos ⟨hl, hc⟩, h, Out.bind_ok, hi]
  show (match getN ρ 0 with
    | .own o => Out.ok (FX.f o) ⟨[], m'⟩
    | _ => (Out.err : Out FX)) = _
  rw [e]
section
variable {g : G} {s : S}
theorem ev_slot {i : Nat} : ev g (.slot i) s = rdF s i := rfl
theorem ev_slotB {i : Nat} : ev g (.slotB i) s = rdF s i := rfl
theorem ev_slotP {i : Nat} : ev g (.slotP i) s = rdP s i := rfl
theorem ev_const {x : D} : ev g (.const x) s = .ok (.d x) s := rfl
theorem ev_o1 {o : O1} {a : E} : ev g (.o1 o a) s = (opd a (ev g a) s).bind fun x s => lift s ((fin a x s).bind (op1 g.repr o)) := rfl
theorem ev_o2 {o : O2} {a b : E} : ev g (.o2 o a b) s = (opd a (ev g a) s).bind fun x s => (opd b (ev g b) s).bind fun y s => lift s ((fin a x s).bind fun x => (fin b y s).bind fun y => op2 o x y) := rfl
theorem ev_chain {o o' : O2} {a b c : E} : ev g (.chain o o' a b c) s = (opd a (ev g a) s).bind fun x s => (opd b (ev g b) s).bind fun y s =>
      match (fin a x s).bind fun x => (fin b y s).bind fun y => op2 o x y with
      | some (.d (.bl true)) => (opd c (ev g c) s).bind fun z s => lift s ((fin b y s).bind fun y => (fin c z s).bind fun z => op2 o' y z)
      | some (.d (.bl false)) => .ok (.d (.bl false)) s
      | _ => .err := rfl
theorem ev_and {a b : E} : ev g (.and a b) s = (ev g a s).bind fun x s => match x with
      | .d (.bl true) => ev g b s
      | .d (.bl false) => .ok (.d (.bl false)) s
      | _ => .err := rfl
theorem ev_or {a b : E} : ev g (.or a b) s = (ev g a s).bind fun x s => match x with
      | .d (.bl true) => .ok (.d (.bl true)) s
      | .d (.bl false) => ev g b s
      | _ => .err := rfl
theorem ev_not {a : E} : ev g (.not a) s = (tst a (ev g a) s).bind fun t s => .ok (.d (.bl (!t))) s := rfl
theorem ev_ite {c a b : E} : ev g (.ite c a b) s = (tst c (ev g c) s).bind fun t s => if t then ev g a s else ev g b s := rfl
theorem ev_tup {es : List E} : ev g (.tup es) s = (evs g es s).bind fun xs s => if xs.length ≤ LINE then .ok (.d (.tup xs)) s else .err := rfl
theorem ev_lst {es : List E} : ev g (.lst es) s = (evs g es s).bind fun xs s => if xs.length ≤ LINE then .ok (.f (.lst xs)) s else .err := rfl
theorem ev_tupS {es : List E} {t : E} : ev g (.tupS es t) s = (evs g es s).bind fun xs s => (opd t (ev g t) s).bind fun y s => match (fin t y s).bind seqS with
      | some ys => if xs.length + ys.length ≤ LINE then .ok (.d (.tup (xs ++ ys))) s else .err
      | none => .err := rfl
theorem ev_tupS1 {es : List E} {t : E} : ev g (.tupS1 t es) s = (opd t (ev g t) s).bind fun y s => match (fin t y s).bind seqS with
      | some ys => (evs g es s).bind fun xs s => if xs.length + ys.length ≤ LINE then .ok (.d (.tup (ys ++ xs))) s else .err
      | none => .err := rfl
theorem ev_slice {a lo hi : E} : ev g (.slice a lo hi) s = (opd a (ev g a) s).bind fun x s => (ev g lo s).bind fun l s => if partOk lo l.frz then (ev g hi s).bind fun h s => if partOk hi h.frz then lift s ((fin a x s).bind fun x => sliceD x l.frz h.frz) else .err else .err := rfl
theorem ev_call {f : Nat} {as : List A} : ev g (.call f as) s = (evA g as s).bind fun xs s => callG g.call f [] xs s := rfl
theorem ev_callv {i : Nat} {as : List A} : ev g (.callv i as) s = match getN s.ρ i with
      | .val (.fn f) => if isIni g.P f || as.isEmpty then .err else (evA g as s).bind fun xs s => callG g.call f [] xs s
      | .clo f caps => (evA g as s).bind fun xs s => callG g.clo f caps xs s
      | _ => .err := rfl
theorem ev_new {c : Nat} {as : List A} : ev g (.new c as) s = (evA g as s).bind fun xs s => match g.P.init c with
      | some f => callG g.make f [] (.own (.ins c []) :: xs) s
      | none => .err := rfl
theorem ev_attr {a : E} {n : Str} : ev g (.attr a n) s = (opd a (ev g a) s).bind fun x s => match fin a x s with
      | some (.obj c fs) => match g.P.prop c n with
        | some f => if isPure a x s then callG g.make f [] [.d (.obj c fs)] s else .err
        | none => lift s ((fs.lookup n).map .d)
      | _ => .err := rfl
theorem ev_prom {a : E} : ev g (.prom a) s = (ev g a s).bind fun x s => match x with
      | .f o => .ok (.d (.ref s.m.length)) ⟨s.ρ, s.m ++ [o]⟩
      | .d x => .ok (.d x) s := rfl
theorem evs_nil : evs g [] s = .ok [] s := rfl
theorem evs_cons {e : E} {r : List E} : evs g (e :: r) s = (ev g e s).bind fun x s => (evs g r s).bind fun xs s => .ok (x.frz :: xs) s := rfl
theorem evA_nil : evA g [] s = .ok [] s := rfl
theorem evA_cons {a : A} {r : List A} : evA g (a :: r) s = (evA1 g a s).bind fun x s => (evA g r s).bind fun xs s => .ok (x :: xs) s := rfl
theorem evA1_e {e : E} : evA1 g (.e e) s = (ev g e s).bind fun x s => .ok (.d x.frz) s := rfl
theorem evTs_nil : evTs g [] s = .ok true s := rfl
theorem evTs_cons {e : E} {r : List E} : evTs g (e :: r) s = (tst e (ev g e) s).bind fun b s => if b then evTs g r s else .ok false s := rfl
theorem evI_seq {a : E} : evI g (.seq a) s = (ev g a s).bind fun x s => lift s (seqI x.frz) := rfl
theorem evI_zip {a b : E} : evI g (.zip a b) s = (ev g a s).bind fun x s => (ev g b s).bind fun y s => lift s (zipI x.frz y.frz) := rfl
theorem evI_enum {a : E} : evI g (.enum a) s = (ev g a s).bind fun x s => lift s (enumI x.frz) := rfl
theorem evI_range {as : List E} : evI g (.range as) s = (evs g as s).bind fun xs s => lift s (rangeItems xs) := rfl
theorem asT_slot {i : Nat} {x : D} : asT g (.slot i) x s = .ok () (s.set i (.val x)) := rfl
theorem asT_tup {ts : List T} {xs : List D} : asT g (.tup ts) (.tup xs) s = asTs g ts xs s := rfl
theorem asTs_nil : asTs g [] [] s = .ok () s := rfl
theorem asTs_cons {t : T} {ts : List T} {x : D} {xs : List D} : asTs g (t :: ts) (x :: xs) s = (asT g t x s).bind fun _ s => asTs g ts xs s := rfl
theorem asT_attr {i : Nat} {n : Str} {x : D} : asT g (.attr i n) x s = match getN s.ρ i with
      | .own (.ins c fs) => if (g.P.prop c n).isNone && decide (fs.length < 1000) then .ok () (s.set i (.own (.ins c (fieldsPut fs n x)))) else .err
      | _ => .err := rfl
theorem exs_nil : exs g [] s = .ok .nx s := rfl
theorem exs_cons {e : Stm} {r : List Stm} : exs g (e :: r) s = (ex g e s).bind fun f s => match f with
    | .nx => exs g r s
    | .cont => .ok .cont s
    | .brk => .ok .brk s
    | .ret x => .ok (.ret x) s := rfl
theorem ex_expr {e : E} : ex g (.expr e) s = (ev g e s).bind fun _ s => .ok .nx s := rfl
theorem ex_asg {i : Nat} {e : E} : ex g (.asg (.slot i) e) s = (ev g e s).bind fun x s => .ok .nx (s.set i (.of x)) := rfl
theorem ex_asgT {ts : List T} {e : E} : ex g (.asg (.tup ts) e) s = (ev g e s).bind fun x s => (asT g (.tup ts) x.frz s).bind fun _ s => .ok .nx s := rfl
theorem ex_asgS {j : Nat} {i : E} {e : E} : ex g (.asg (.sub j i) e) s = (ev g e s).bind fun x s => (asT g (.sub j i) x.frz s).bind fun _ s => .ok .nx s := rfl
theorem ex_asgA {j : Nat} {n : Str} {e : E} : ex g (.asg (.attr j n) e) s = (ev g e s).bind fun x s => (asT g (.attr j n) x.frz s).bind fun _ s => .ok .nx s := rfl
theorem ex_par {is : List Nat} {es : List E} : ex g (.par is es) s = (evsF g es s).bind fun xs s => match setAll is xs s with
      | some s => .ok .nx s
      | none => .err := rfl
theorem evsF_nil : evsF g [] s = .ok [] s := rfl
theorem evsF_cons {e : E} {r : List E} : evsF g (e :: r) s = (ev g e s).bind fun x s => (evsF g r s).bind fun xs s => .ok (x :: xs) s := rfl
theorem setAll_nil : setAll [] [] s = some s := rfl
theorem setAll_cons {i : Nat} {r : List Nat} {x : FX} {xs : List FX} : setAll (i :: r) (x :: xs) s = setAll r xs (s.set i (.of x)) := rfl
theorem ex_ret {e : E} : ex g (.ret e) s = (ev g e s).bind fun x s => .ok (.ret x) s := rfl
theorem ex_retS {i : Nat} : ex g (.retS i) s = match getN s.ρ i with
      | .val x => .ok (.ret (.d x)) s
      | .own o => .ok (.ret (.f o)) (s.set i .no)
      | _ => .err := rfl
theorem ex_ite {c : E} {a b : List Stm} : ex g (.ite c a b) s = (tst c (ev g c) s).bind fun t s => if t then exs g a s else exs g b s := rfl
theorem ex_forr {t : T} {it : It} {b : List Stm} : ex g (.forr t it b) s = (evI g it s).bind fun items s => forL (fun x s => (asT g t x s).bind fun _ s => exs g b s) items s := rfl
theorem ex_app {i : Nat} {e : E} : ex g (.app i e) s = (lift s (isL s i)).bind fun _ s => (ev g e s).bind fun x s => appendO s i [x.frz] := rfl
end
section
variable {P : Prog} {rp : D → Option Str} {n : Nat}
theorem gAt_call : (gAt P rp n).call = evFn P rp (n + 1) := rfl
theorem gAt_make : (gAt P rp n).make = evFn P rp n := rfl
theorem gAt_clo : (gAt P rp n).clo = evC P rp (n + 1) := rfl
theorem gAt_P : (gAt P rp n).P = P := rfl
theorem gAt_repr : (gAt P rp n).repr = rp := rfl
end
theorem bind_bl {s : S} {b : Bool} {k k' : S → Out FX} : (match (FX.d (.bl b)) with
      | .d (.bl true) => k s
      | .d (.bl false) => k' s
      | _ => .err) = if b then k s else k' s := by cases b <;> rfl
section
variable {a b : Int} {x y : D} {r xs ys : List D} {u v : Str}
theorem o_add : op2 .add (.int a) (.int b) = some (.d (.int (a + b))) := rfl
theorem o_addS : op2 .add (.str u) (.str v) = if u.length + v.length ≤ LINE then some (.d (.str (u ++ v))) else none := rfl
theorem o_addL : op2 .add (.lst xs) (.lst ys) = if xs.length + ys.length ≤ LINE then some (.f (.lst (xs ++ ys))) else none := rfl
theorem o_addT : op2 .add (.tup xs) (.tup ys) = if xs.length + ys.length ≤ LINE then some (.d (.tup (xs ++ ys))) else none := rfl
theorem o_sub : op2 .sub (.int a) (.int b) = some (.d (.int (a - b))) := rfl
theorem o_mul : op2 .mul (.int a) (.int b) = if big a || big b then some (.d (.int (a * b))) else none := rfl
theorem o_fdiv : op2 .fdiv (.int a) (.int b) = if b ≠ 0 ∧ b.natAbs < 1073741824 then some (.d (.int (a.fdiv b))) else none := rfl
theorem o_mod : op2 .mod (.int a) (.int b) = if b ≠ 0 then some (.d (.int (a.fmod b))) else none := rfl
theorem o_pow : op2 .pow (.int a) (.int b) = if 0 ≤ b ∧ b ≤ 1000 ∧ big a then some (.d (.int (a ^ b.toNat))) else none := rfl
theorem o_shr : op2 .shr (.int a) (.int b) = if 0 ≤ b then some (.d (.int (a / 2 ^ b.toNat))) else none := rfl
theorem o_band : op2 .band (.int a) (.int b) = if 0 ≤ a ∧ b = 1 then some (.d (.int (a % 2))) else none := rfl
theorem o_eq : op2 .eq x y = (eqP x y).map fun b => .d (.bl b) := rfl
theorem o_ne : op2 .ne x y = (eqP x y).map fun b => .d (.bl (!b)) := rfl
theorem eqP_int : eqP (.int a) (.int b) = some (a == b) := rfl
theorem eqP_str : eqP (.str u) (.str v) = some (u == v) := rfl
theorem o_lt : op2 .lt (.int a) (.int b) = some (.d (.bl (decide (a < b)))) := rfl
theorem o_gt : op2 .gt (.int a) (.int b) = some (.d (.bl (decide (b < a)))) := rfl
theorem o_le : op2 .le (.int a) (.int b) = some (.d (.bl (decide (a ≤ b)))) := rfl
theorem o_ge : op2 .ge (.int a) (.int b) = some (.d (.bl (decide (b ≤ a)))) := rfl
theorem o_ltS : op2 .lt (.str u) (.str v) = some (.d (.bl (ltS u v))) := rfl
theorem o_geS : op2 .ge (.str u) (.str v) = some (.d (.bl (!ltS u v))) := rfl
theorem o_isinT : op2 .isin x (.tup ys) = if flat x then (inD x ys).map fun b => .d (.bl b) else none := rfl
theorem o_isinL : op2 .isin x (.lst ys) = if flat x then (inD x ys).map fun b => .d (.bl b) else none := rfl
theorem o_isinS : op2 .isin (.str u) (.str v) = match u.cps.toList with
        | [c] => some (.d (.bl (decide (c ∈ v.cps.toList))))
        | _ => none := rfl
theorem o_notinT : op2 .notin x (.tup ys) = if flat x then (inD x ys).map fun b => .d (.bl (!b)) else none := rfl
theorem o_notinL : op2 .notin x (.lst ys) = if flat x then (inD x ys).map fun b => .d (.bl (!b)) else none := rfl
theorem o_min : op2 .min (.int a) (.int b) = some (.d (.int (if b < a then b else a))) := rfl
theorem o_max : op2 .max (.int a) (.int b) = some (.d (.int (if b > a then b else a))) := rfl
theorem o_divmod : op2 .divmod (.int a) (.int b) = if 0 < b ∧ b < 1073741824 then some (.d (.tup [.int (a / b), .int (a % b)])) else none := rfl
theorem o_isTy {n : String} : op2 .isinst x (.ty n) = match tyOf n with
      | some t => (ofTy x t).map fun b => .d (.bl b)
      | none => none := rfl
theorem o_isCls {c c' : Nat} {fs : List (Str × D)} : op2 .isinst (.obj c' fs) (.cls c) = if c' = c then some (.d (.bl true)) else none := rfl
theorem flat_int : flat (.int a) = true := rfl
theorem flat_str : flat (.str u) = true := rfl
theorem i0T : op2 .idx (.tup (x :: r)) (.int 0) = some (.d x) := by simp [op2, place]
theorem i0L : op2 .idx (.lst (x :: r)) (.int 0) = some (.d x) := by simp [op2, place]
theorem i1T {x1 : D} : op2 .idx (.tup (x :: x1 :: r)) (.int 1) = some (.d x1) := by
  have : (1 : Int) < (r.length : Int) + 1 + 1 := by omega
  simp [op2, place, this]
theorem i1L {x1 : D} : op2 .idx (.lst (x :: x1 :: r)) (.int 1) = some (.d x1) := by
  have : (1 : Int) < (r.length : Int) + 1 + 1 := by omega
  simp [op2, place, this]
theorem i2T {x1 x2 : D} : op2 .idx (.tup (x :: x1 :: x2 :: r)) (.int 2) = some (.d x2) := by
  have : (2 : Int) < (r.length : Int) + 1 + 1 + 1 := by omega
  simp [op2, place, this]
theorem i2L {x1 x2 : D} : op2 .idx (.lst (x :: x1 :: x2 :: r)) (.int 2) = some (.d x2) := by
  have : (2 : Int) < (r.length : Int) + 1 + 1 + 1 := by omega
  simp [op2, place, this]
theorem i3T {x1 x2 x3 : D} : op2 .idx (.tup (x :: x1 :: x2 :: x3 :: r)) (.int 3) = some (.d x3) := by
  have : (3 : Int) < (r.length : Int) + 1 + 1 + 1 + 1 := by omega
  simp [op2, place, this]
theorem i4T {x1 x2 x3 x4 : D} : op2 .idx (.tup (x :: x1 :: x2 :: x3 :: x4 :: r)) (.int 4) = some (.d x4) := by
  have : (4 : Int) < (r.length : Int) + 1 + 1 + 1 + 1 + 1 := by omega
  simp [op2, place, this]
theorem iLastT : op2 .idx (.tup (xs ++ [x])) (.int (-1)) = some (.d x) := by
  have h : ¬ ((0 : Int) ≤ -1) := by omega
  have h2 : -((xs ++ [x]).length : Int) ≤ -1 := by simp; omega
  have h3 : (-1 + ((xs ++ [x]).length : Int)).toNat = xs.length := by simp; omega
  simp only [op2, place, h, if_false, h2, if_true, h3, Option.bind_some]
  simp
theorem iAtT {k : Nat} (h : xs[k]? = some x) : op2 .idx (.tup xs) (.int k) = some (.d x) := by
  have hk := (List.getElem?_eq_some_iff.mp h).1
  have h1 : (0 : Int) ≤ k := by omega
  have h2 : (k : Int) < xs.length := by omega
  simp only [op2, place, h1, if_true, h2, Option.bind_some, Int.toNat_natCast, h, Option.map_some]
theorem iAtL {k : Nat} (h : xs[k]? = some x) : op2 .idx (.lst xs) (.int k) = some (.d x) := by
  have hk := (List.getElem?_eq_some_iff.mp h).1
  have h1 : (0 : Int) ≤ k := by omega
  have h2 : (k : Int) < xs.length := by omega
  simp only [op2, place, h1, if_true, h2, Option.bind_some, Int.toNat_natCast, h, Option.map_some]
theorem p_len_T {rp : D → Option Str} : op1 rp .len (.tup xs) = some (.d (.int xs.length)) := rfl
theorem p_len_L {rp : D → Option Str} : op1 rp .len (.lst xs) = some (.d (.int xs.length)) := rfl
theorem p_len_R {rp : D → Option Str} : op1 rp .len (.scr xs) = some (.d (.int xs.length)) := rfl
theorem p_len_D {rp : D → Option Str} {kvs : List (D × D)} : op1 rp .len (.dic kvs) = some (.d (.int kvs.length)) := rfl
theorem p_len_S {rp : D → Option Str} : op1 rp .len (.str u) = if u.length ≤ LINE then some (.d (.int u.length)) else none := rfl
theorem p_sum {rp : D → Option Str} : op1 rp .sum (.lst xs) = (intsOf xs).map fun ns => .d (.int ns.sum) := rfl
theorem p_max {rp : D → Option Str} : op1 rp .max (.lst xs) = match intsOf xs with
    | some (n :: ns) => some (.d (.int (maxI n ns)))
    | _ => none := rfl
theorem p_min {rp : D → Option Str} : op1 rp .min (.lst xs) = match intsOf xs with
    | some (n :: ns) => some (.d (.int (minI n ns)))
    | _ => none := rfl
theorem p_any {rp : D → Option Str} : op1 rp .any (.lst xs) = (blsOf xs).map fun bs => .d (.bl (bs.any id)) := rfl
theorem p_all {rp : D → Option Str} : op1 rp .all (.lst xs) = (blsOf xs).map fun bs => .d (.bl (bs.all id)) := rfl
theorem p_abs {rp : D → Option Str} : op1 rp .abs (.int a) = some (.d (.int (if a < 0 then -a else a))) := rfl
theorem p_int {rp : D → Option Str} : op1 rp .int (.int a) = some (.d (.int a)) := rfl
theorem p_neg {rp : D → Option Str} : op1 rp .neg (.int a) = some (.d (.int (-a))) := rfl
theorem p_isN {rp : D → Option Str} : op1 rp .isN x = match x with
    | .non => some (.d (.bl true))
    | _ => some (.d (.bl false)) := rfl
theorem p_notN {rp : D → Option Str} : op1 rp .notN x = match x with
    | .non => some (.d (.bl false))
    | _ => some (.d (.bl true)) := rfl
theorem p_tuple_T {rp : D → Option Str} : op1 rp .tuple (.tup xs) = some (.d (.tup xs)) := rfl
theorem p_tuple_L {rp : D → Option Str} : op1 rp .tuple (.lst xs) = some (.d (.tup xs)) := rfl
theorem p_sortedL {rp : D → Option Str} : op1 rp .sorted (.lst xs) = match intsOf xs, strsOf xs with
      | some ns, _ => some (.f (.lst ((sortI ns).map .int)))
      | _, some ss => if ss.length < 64 then some (.f (.lst ((sortS ss).map .str))) else none
      | _, _ => none := rfl
theorem p_sortedD {rp : D → Option Str} {kvs : List (D × D)} : op1 rp .sorted (.dic kvs) = match strsOf (kvs.map (·.1)) with
      | some ss => if ss.length < 64 then some (.f (.lst ((sortS ss).map .str))) else none
      | _ => none := rfl
theorem p_sortedSet {rp : D → Option Str} : op1 rp .sortedSet (.lst xs) = match strsOf xs with
    | some ss => if ss.length < 64 then some (.f (.lst ((sortS (dedup ss)).map .str))) else none
    | _ => none := rfl
theorem p_repr {rp : D → Option Str} : op1 rp .repr x = (rp x).map fun z => .d (.str z) := rfl
theorem t_bl {t : Bool} : truth (.bl t) = some t := rfl
theorem t_int : truth (.int a) = some (a != 0) := rfl
theorem ty_int : tyOf "int" = some .int := rfl
theorem ty_bool : tyOf "bool" = some .bool := rfl
theorem ty_str : tyOf "str" = some .str := rfl
theorem ty_tuple : tyOf "tuple" = some .tuple := rfl
theorem ty_list : tyOf "list" = some .list := rfl
theorem of_int {t : Ty} : ofTy (.int a) t = some (t == .int) := rfl
theorem of_str {t : Ty} : ofTy (.str u) t = some (t == .str) := rfl
theorem of_tup {t : Ty} : ofTy (.tup xs) t = some (t == .tuple) := rfl
theorem ite_bl {p : Prop} [Decidable p] {s : S} : (if (if decide p then true else false) then Out.ok (α := Bool) true s else .ok false s) = .ok (decide p) s := by by_cases h : p <;> simp [h]
end

/-! ### statements one by one -/
section
variable {g : G} {s s1 : S} {st : Stm} {rest : List Stm} {K : Out Fl → Prop}
theorem step_nx (h : ex g st s = .ok .nx s1) (k : K (exs g rest s1)) : K (exs g (st :: rest) s) := by
  rw [exs_cons, h, Out.bind_ok]; exact k
theorem step_for {α : Type} {t : T} {it : It} {b : List Stm} {xs : List α} {dOf : α → D} (J : List α → S → Prop) (hi : evI g it s = .ok (xs.map dOf) s1)
    (h : ∀ (pre : List α) (a : α) (post : List α) (s : S), xs = pre ++ a :: post → J pre s → ∃ s', (asT g t (dOf a) s).bind (fun _ s => exs g b s) = .ok .nx s' ∧ J (pre ++ [a]) s') (h0 : J [] s1) (k : ∀ s', J xs s' → K (exs g rest s')) : K (exs g (.forr t it b :: rest) s) := by
  obtain ⟨s', e, hj⟩ := forL_pre (turn := fun x s => (asT g t x s).bind fun _ s => exs g b s) (dOf := dOf) J xs h xs [] s1 rfl h0
  refine step_nx (s1 := s') ?_ (k s' hj)
  rw [ex_forr, hi, Out.bind_ok]
  exact e
end
theorem evA1_lam {g : G} {s : S} {np ns : Nat} {body : E} {caps : List Nat} {t : Nat} : evA1 g (.lam np ns body caps t) s = match s.m[t]?, capsOf s caps with
    | some (.tbl t'), some xs => if t' = t then .ok (.clo ⟨false, np, caps.length, ns, [.ret body]⟩ xs) s else .err
    | _, _ => .err := rfl
theorem capsOf_nil {s : S} : capsOf s [] = some [] := rfl
theorem capsOf_cons {s : S} {i : Nat} {r : List Nat} : capsOf s (i :: r) = match getN s.ρ i, capsOf s r with
    | .val x, some xs => some (x :: xs)
    | _, _ => none := rfl
/-- a loop that hands back the first right one -/
theorem forL_find {α : Type} {turn : D → S → Out Fl} {dOf : α → D} (J : S → Prop) (p : α → Bool) (R : α → FX) (m : List Ob) : ∀ (xs : List α) (s : S), (∀ a ∈ xs, ∀ s, J s → if p a = true then ∃ s', turn (dOf a) s = .ok (.ret (R a)) s' ∧ s'.m = m else ∃ s', turn (dOf a) s = .ok .nx s' ∧ J s') → J s →
    match xs.find? p with
    | some a => ∃ s', forL turn (xs.map dOf) s = .ok (.ret (R a)) s' ∧ s'.m = m
    | none => ∃ s', forL turn (xs.map dOf) s = .ok .nx s' ∧ J s'
  | [], s, _, hj => ⟨s, rfl, hj⟩
  | a :: xs, s, h, hj => by
    have ha := h a (.head _) s hj
    rw [List.find?_cons, List.map_cons]
    by_cases hp : p a = true
    · rw [if_pos hp] at ha
      obtain ⟨s', e, em⟩ := ha
      rw [hp]
      exact ⟨s', by rw [forL, e, Out.bind_ok], em⟩
    · rw [if_neg hp] at ha
      obtain ⟨s', e, j⟩ := ha
      have ih := forL_find J p R m xs s' (fun a ha => h a (.tail _ ha)) j
      rw [show p a = false by simpa using hp]
      have e2 : forL turn (dOf a :: xs.map dOf) s = forL turn (xs.map dOf) s' := by rw [forL, e, Out.bind_ok]
      rw [e2]
      exact ih
theorem step_find {α : Type} {g : G} {s s1 : S} {rest : List Stm} {t : T} {it : It} {b : List Stm} {xs : List α} {dOf : α → D} {r : FX} {m : List Ob} (J : S → Prop) (p : α → Bool) (R : α → FX) (hi : evI g it s = .ok (xs.map dOf) s1)
    (h : ∀ a ∈ xs, ∀ s, J s → if p a = true then ∃ s', (asT g t (dOf a) s).bind (fun _ s => exs g b s) = .ok (.ret (R a)) s' ∧ s'.m = m else ∃ s', (asT g t (dOf a) s).bind (fun _ s => exs g b s) = .ok .nx s' ∧ J s') (h0 : J s1)
    (k1 : ∀ a, xs.find? p = some a → R a = r) (k : xs.find? p = none → ∀ s', J s' → outR (exs g rest s') = some (r, m)) : outR (exs g (.forr t it b :: rest) s) = some (r, m) := by
  have := forL_find (turn := fun x s => (asT g t x s).bind fun _ s => exs g b s) (dOf := dOf) J p R m xs s1 h h0
  cases q : xs.find? p with
  | some a =>
    rw [q] at this
    obtain ⟨s', e, em⟩ := this
    rw [exs_cons, ex_forr, hi, Out.bind_ok, e, Out.bind_ok, outR_ret, k1 a q, em]
  | none =>
    rw [q] at this
    obtain ⟨s', e, j⟩ := this
    rw [exs_cons, ex_forr, hi, Out.bind_ok, e, Out.bind_ok]
    exact k q s' j
theorem rangeD_eq (lo : Int) : ∀ n : Nat, rangeD lo 1 n = (List.range n).map fun i => .int (lo + (i : Nat))
  | 0 => rfl
  | n + 1 => by
    rw [rangeD, rangeD_eq (lo + 1) n, List.range_succ_eq_map, List.map_cons, List.map_map]
    simp only [Int.ofNat_zero, Int.natCast_zero, Int.add_zero, List.cons.injEq, true_and]
    refine List.map_congr_left fun i _ => ?_
    simp only [Function.comp, D.int.injEq]
    omega
theorem rangeD_down (lo : Int) : ∀ n : Nat, rangeD lo (-1) n = (List.range n).map fun i => .int (lo - (i : Nat))
  | 0 => rfl
  | n + 1 => by
    rw [rangeD, rangeD_down (lo + -1) n, List.range_succ_eq_map, List.map_cons, List.map_map]
    simp only [Int.natCast_zero, Int.sub_zero, List.cons.injEq, true_and]
    refine List.map_congr_left fun i _ => ?_
    simp only [Function.comp, D.int.injEq]
    omega



end Pv
end

section
set_option Elab.async false
set_option linter.all false
set_option maxRecDepth 100000
/-! EvV2: more laws of the evaluator: dicts, texts in tuples, ints. -/
namespace Pv
open PySem
theorem cut_map {α β : Type} (f : α → β) (xs : List α) (lo hi : Option Int) : cut (xs.map f) lo hi = (cut xs lo hi).map f := by
  unfold cut
  cases lo <;> cases hi <;> simp only [List.length_map, ← List.map_take, ← List.map_drop]
theorem cut_len {α : Type} (xs : List α) (lo hi : Option Int) : (cut xs lo hi).length ≤ xs.length := by
  unfold cut
  simp; omega
theorem eqD_str (x y : Str) : eqD (.str x) (.str y) = some (x == y) := by rw [eqD]
theorem eqD_int (x y : Int) : eqD (.int x) (.int y) = some (x == y) := by rw [eqD]
theorem inD_str (x : Str) : ∀ ss : List Str, inD (.str x) (ss.map .str) = some (decide (x ∈ ss))
  | [] => by simp [inD]
  | s :: ss => by
    rw [List.map_cons, inD]
    simp only [flat, Bool.and_self, if_true, inD_str x ss, eqD_str, List.mem_cons]
    congr 1
    by_cases h : x = s
    · simp [h]
    · have : ¬ s = x := fun z => h z.symm
      simp [h, this]
theorem inD_int (x : Int) : ∀ ss : List Int, inD (.int x) (ss.map .int) = some (decide (x ∈ ss))
  | [] => by simp [inD]
  | s :: ss => by
    rw [List.map_cons, inD]
    simp only [flat, Bool.and_self, if_true, inD_int x ss, eqD_int, List.mem_cons]
    congr 1
    by_cases h : x = s
    · simp [h]
    · have : ¬ s = x := fun z => h z.symm
      simp [h, this]
/-! ### dict comprehensions -/
abbrev turnDV (g : G) (own : List Nat) (t : T) (ifs : List E) (k v : E) (y : D) (s' : S) : Out (Option (D × D)) :=
  (asT g t y ⟨wipeN own s'.ρ, s'.m⟩).bind fun _ s' => (evTs g ifs s').bind fun b s' => if b then (ev g k s').bind fun k s' => (ev g v s').bind fun v s' => .ok (some (k.frz, v.frz)) s' else .ok none s'
/-- putting pairs with text keys -/
def putS (ks : List (Str × D)) (k : Str) (v : D) : List (Str × D) := if ks.any (fun p => decide (p.1 = k)) then ks.map (fun p => if decide (p.1 = k) then (p.1, v) else p) else ks ++ [(k, v)]
theorem putKV_str (ks : List (Str × D)) (k : Str) (v : D) (h : ks.length < LINE) : putKV (ks.map fun p => (.str p.1, p.2)) (.str k) v = some ((putS ks k v).map fun p => (.str p.1, p.2)) := by
  unfold putKV putS
  rw [if_pos (by simp [isKey, h])]
  have e : ((ks.map fun p => ((D.str p.1, p.2) : D × D)).any fun p => keyEq p.1 (.str k)) = ks.any fun p => decide (p.1 = k) := by
    rw [List.any_map]; rfl
  rw [e]
  split
  · congr 1
    rw [List.map_map, List.map_map]
    refine List.map_congr_left fun p _ => ?_
    by_cases hp : p.1 = k
    · simp [keyEq, hp]
    · simp [keyEq, hp]
  · simp
theorem putS_len (ks : List (Str × D)) (k : Str) (v : D) : (putS ks k v).length ≤ ks.length + 1 := by
  unfold putS
  split
  · simp
  · simp
/-- a dict comprehension with text keys that changes nothing -/
theorem dcomp_valS {α : Type} {g : G} {own : List Nat} {t : T} {it : It} {ifs : List E} {x y : E} {s0 s : S} {xs : List α} {dOf : α → D} {fk : α → Str} {fv : α → D} (hi : evI g it s0 = .ok (xs.map dOf) s) (hp : own.all (fun i => plainSl (getN s.ρ i)) = true)
    (h : ∀ a ∈ xs, ∃ ρ', Agree own s.ρ ρ' ∧ turnDV g own t ifs x y (dOf a) ⟨wipeN own s.ρ, s.m⟩ = .ok (some (.str (fk a), fv a)) ⟨ρ', s.m⟩) (hl : xs.length < LINE) :
    ev g (.dcomp own t it ifs x y) s0 = .ok (.f (.dic ((xs.foldl (fun ks a => putS ks (fk a) (fv a)) []).map fun p => (.str p.1, p.2)))) s := by
  have loop : ∀ (ys : List α) (acc : List (Str × D)) (ρ : List Sl), (∀ a ∈ ys, a ∈ xs) → acc.length + ys.length < LINE → Agree own s.ρ ρ → ∃ ρ', Agree own s.ρ ρ' ∧
      dcompL (turnDV g own t ifs x y) (ys.map dOf) (acc.map fun p => (.str p.1, p.2)) ⟨ρ, s.m⟩ = .ok ((ys.foldl (fun ks a => putS ks (fk a) (fv a)) acc).map fun p => (.str p.1, p.2)) ⟨ρ', s.m⟩ := by
    intro ys
    induction ys with
    | nil => intro acc ρ _ _ ha; exact ⟨ρ, ha, by simp [dcompL]⟩
    | cons a ys ih =>
      intro acc ρ hm hacc ha
      obtain ⟨ρ1, a1, e1⟩ := h a (hm a (.head _))
      have e1' : turnDV g own t ifs x y (dOf a) ⟨ρ, s.m⟩ = .ok (some (.str (fk a), fv a)) ⟨ρ1, s.m⟩ := by
        have : wipeN own (wipeN own s.ρ) = wipeN own ρ := by rw [wipe_eq ha, wipe_eq wipe_agree]
        show (asT g t (dOf a) ⟨wipeN own ρ, s.m⟩).bind _ = _
        rw [← this]
        exact e1
      rw [List.map_cons, dcompL, e1', Out.bind_ok]
      simp only [putKV_str acc (fk a) (fv a) (by simp at hacc; omega)]
      exact ih (putS acc (fk a) (fv a)) ρ1 (fun b hb => hm b (.tail _ hb)) (by have := putS_len acc (fk a) (fv a); simp at hacc; omega) a1
  obtain ⟨ρ', a', e'⟩ := loop xs [] (wipeN own s.ρ) (fun _ h => h) (by simpa using hl) wipe_agree
  rw [ev, hi, Out.bind_ok, if_pos hp]
  show (dcompL (turnDV g own t ifs x y) _ _ _).bind _ = _
  rw [show ([] : List (D × D)) = ([] : List (Str × D)).map (fun p => (.str p.1, p.2)) from rfl, e', Out.bind_ok, restore_eq a']
theorem dcomp_val {α : Type} {g : G} {own : List Nat} {t : T} {it : It} {ifs : List E} {x y : E} {s : S} {xs : List α} {dOf : α → D} {fk : α → Str} {fv : α → D} (hi : evI g it s = .ok (xs.map dOf) s) (hp : own.all (fun i => plainSl (getN s.ρ i)) = true)
    (h : ∀ a ∈ xs, ∃ ρ', Agree own s.ρ ρ' ∧ turnDV g own t ifs x y (dOf a) ⟨wipeN own s.ρ, s.m⟩ = .ok (some (.str (fk a), fv a)) ⟨ρ', s.m⟩) (hl : xs.length < LINE) :
    ev g (.dcomp own t it ifs x y) s = .ok (.f (.dic ((xs.foldl (fun ks a => putS ks (fk a) (fv a)) []).map fun p => (.str p.1, p.2)))) s := dcomp_valS hi hp h hl
/-- the keys: first come, first kept -/
def firsts : List Str → List Str → List Str
  | acc, [] => acc
  | acc, x :: r => firsts (if x ∈ acc then acc else acc ++ [x]) r
theorem foldl_putS_keys {α : Type} (fk : α → Str) (fv : α → D) : ∀ (xs : List α) (acc : List (Str × D)), (xs.foldl (fun ks a => putS ks (fk a) (fv a)) acc).map (·.1) = firsts (acc.map (·.1)) (xs.map fk)
  | [], acc => rfl
  | a :: xs, acc => by
    rw [List.foldl_cons, foldl_putS_keys fk fv xs, List.map_cons, firsts]
    congr 1
    unfold putS
    by_cases h : fk a ∈ acc.map (·.1)
    · rw [if_pos h, if_pos (by
        obtain ⟨p, hp, e⟩ := List.mem_map.mp h
        exact List.any_eq_true.mpr ⟨p, hp, by simp [e]⟩), List.map_map]
      refine List.map_congr_left fun p _ => ?_
      by_cases hp : p.1 = fk a <;> simp [hp]
    · rw [if_neg h, if_neg (by
        intro z
        obtain ⟨p, hp, e⟩ := List.any_eq_true.mp z
        exact h (List.mem_map.mpr ⟨p, hp, of_decide_eq_true e⟩)), List.map_append]
      rfl
end Pv
end

section
set_option linter.all false
local macro_rules | `(tactic| simp! [$xs,*]) => `(tactic| simp (disch := first | omega | assumption) only [Pv.ev_slot, Pv.ev_slotB, Pv.ev_slotP, Pv.ev_const, Pv.ev_o1, Pv.ev_o2, Pv.ev_chain, Pv.ev_and, Pv.ev_or, Pv.ev_not, Pv.ev_ite, Pv.ev_tup, Pv.ev_lst, Pv.ev_tupS, Pv.ev_tupS1, Pv.ev_slice, Pv.ev_call, Pv.ev_callv, Pv.ev_new, Pv.ev_attr, Pv.ev_prom, Pv.evs_nil, Pv.evs_cons, Pv.evA_nil, Pv.evA_cons, Pv.evA1_e, Pv.evA1_lam, Pv.capsOf_nil, Pv.capsOf_cons, Pv.evTs_nil, Pv.evTs_cons, Pv.evI_seq, Pv.evI_zip, Pv.evI_enum, Pv.evI_range, Pv.asT_slot, Pv.asT_tup, Pv.asTs_nil, Pv.asTs_cons, Pv.asT_attr, Pv.exs_nil, Pv.exs_cons, Pv.ex_expr, Pv.ex_asg, Pv.ex_asgT, Pv.ex_asgS, Pv.ex_asgA, Pv.ex_par, Pv.evsF_nil, Pv.evsF_cons, Pv.setAll_nil, Pv.setAll_cons, Pv.ex_ret, Pv.ex_retS, Pv.ex_ite, Pv.ex_app, Pv.gAt_call, Pv.gAt_make, Pv.gAt_clo, Pv.gAt_P, Pv.gAt_repr, Pv.callG, Pv.tst, Pv.opd, Pv.fin, Pv.isBor, Pv.rdB, Pv.rdF, Pv.rdP, Pv.view, Pv.getN, Pv.setN, Pv.S.set, Pv.Sl.of, Pv.FX.frz, Pv.Ob.frz, Pv.Out.bind_ok, Pv.Out.bind_err, Pv.lift_some, Pv.lift_none, Option.bind_some, Option.map_some, Option.bind_none, Option.map_none, Pv.o_add, Pv.o_addS, Pv.o_addL, Pv.o_addT, Pv.o_sub, Pv.o_mul, Pv.o_fdiv, Pv.o_mod, Pv.o_pow, Pv.o_shr, Pv.o_band, Pv.o_eq, Pv.o_ne, Pv.eqP_int, Pv.eqP_str, Pv.o_lt, Pv.o_gt, Pv.o_le, Pv.o_ge, Pv.o_ltS, Pv.o_geS, Pv.o_isinT, Pv.o_isinL, Pv.o_isinS, Pv.o_notinT, Pv.o_notinL, Pv.o_min, Pv.o_max, Pv.o_divmod, Pv.o_isTy, Pv.o_isCls, Pv.flat_int, Pv.flat_str, Pv.i0T, Pv.i0L, Pv.i1T, Pv.i1L, Pv.i2T, Pv.i2L, Pv.i3T, Pv.i4T, Pv.p_len_T, Pv.p_len_L, Pv.p_len_R, Pv.p_len_D, Pv.p_len_S, Pv.p_sum, Pv.p_max, Pv.p_min, Pv.p_any, Pv.p_all, Pv.p_abs, Pv.p_int, Pv.p_neg, Pv.p_isN, Pv.p_notN, Pv.p_tuple_T, Pv.p_tuple_L, Pv.p_sortedL, Pv.p_sortedD, Pv.p_sortedSet, Pv.p_repr, Pv.t_bl, Pv.t_int, Pv.ty_int, Pv.ty_bool, Pv.ty_str, Pv.ty_tuple, Pv.ty_list, Pv.of_int, Pv.of_str, Pv.of_tup, if_true, if_false, Bool.not_true, Bool.not_false, Bool.false_eq_true, Pv.startS, List.map_cons, List.map_nil, List.cons_append, List.nil_append, List.append_nil, Pv.AX.sl, List.length_cons, List.length_nil, List.replicate, Pv.partOk, Pv.isNon, Pv.sliceD, Pv.bound, Pv.seqI, Pv.seqS, Pv.isPure, Pv.isL, Pv.appendO, Pv.turnCV, Pv.wipeN, Pv.le_line, Pv.outR_ret, Pv.outR_nx, $xs,*])
local macro_rules | `(tactic| simp_arith [$xs,*]) => `(tactic| simp (disch := first | omega | assumption) only [Pv.ev_slot, Pv.ev_slotB, Pv.ev_slotP, Pv.ev_const, Pv.ev_o1, Pv.ev_o2, Pv.ev_chain, Pv.ev_and, Pv.ev_or, Pv.ev_not, Pv.ev_ite, Pv.ev_tup, Pv.ev_lst, Pv.ev_tupS, Pv.ev_tupS1, Pv.ev_slice, Pv.ev_call, Pv.ev_callv, Pv.ev_new, Pv.ev_attr, Pv.ev_prom, Pv.evs_nil, Pv.evs_cons, Pv.evA_nil, Pv.evA_cons, Pv.evA1_e, Pv.evA1_lam, Pv.capsOf_nil, Pv.capsOf_cons, Pv.evTs_nil, Pv.evTs_cons, Pv.evI_seq, Pv.evI_zip, Pv.evI_enum, Pv.evI_range, Pv.asT_slot, Pv.asT_tup, Pv.asTs_nil, Pv.asTs_cons, Pv.asT_attr, Pv.exs_nil, Pv.ex_expr, Pv.ex_asg, Pv.ex_asgT, Pv.ex_asgS, Pv.ex_asgA, Pv.ex_par, Pv.evsF_nil, Pv.evsF_cons, Pv.setAll_nil, Pv.setAll_cons, Pv.ex_ret, Pv.ex_retS, Pv.ex_ite, Pv.ex_app, Pv.gAt_call, Pv.gAt_make, Pv.gAt_clo, Pv.gAt_P, Pv.gAt_repr, Pv.callG, Pv.tst, Pv.opd, Pv.fin, Pv.isBor, Pv.rdB, Pv.rdF, Pv.rdP, Pv.view, Pv.getN, Pv.setN, Pv.S.set, Pv.Sl.of, Pv.FX.frz, Pv.Ob.frz, Pv.Out.bind_ok, Pv.Out.bind_err, Pv.lift_some, Pv.lift_none, Option.bind_some, Option.map_some, Option.bind_none, Option.map_none, Pv.o_add, Pv.o_addS, Pv.o_addL, Pv.o_addT, Pv.o_sub, Pv.o_mul, Pv.o_fdiv, Pv.o_mod, Pv.o_pow, Pv.o_shr, Pv.o_band, Pv.o_eq, Pv.o_ne, Pv.eqP_int, Pv.eqP_str, Pv.o_lt, Pv.o_gt, Pv.o_le, Pv.o_ge, Pv.o_ltS, Pv.o_geS, Pv.o_isinT, Pv.o_isinL, Pv.o_isinS, Pv.o_notinT, Pv.o_notinL, Pv.o_min, Pv.o_max, Pv.o_divmod, Pv.o_isTy, Pv.o_isCls, Pv.flat_int, Pv.flat_str, Pv.i0T, Pv.i0L, Pv.i1T, Pv.i1L, Pv.i2T, Pv.i2L, Pv.i3T, Pv.i4T, Pv.p_len_T, Pv.p_len_L, Pv.p_len_R, Pv.p_len_D, Pv.p_len_S, Pv.p_sum, Pv.p_max, Pv.p_min, Pv.p_any, Pv.p_all, Pv.p_abs, Pv.p_int, Pv.p_neg, Pv.p_isN, Pv.p_notN, Pv.p_tuple_T, Pv.p_tuple_L, Pv.p_sortedL, Pv.p_sortedD, Pv.p_sortedSet, Pv.p_repr, Pv.t_bl, Pv.t_int, Pv.ty_int, Pv.ty_bool, Pv.ty_str, Pv.ty_tuple, Pv.ty_list, Pv.of_int, Pv.of_str, Pv.of_tup, if_true, if_false, Bool.not_true, Bool.not_false, Bool.false_eq_true, Pv.startS, List.map_cons, List.map_nil, List.cons_append, List.nil_append, List.append_nil, Pv.AX.sl, List.length_cons, List.length_nil, List.replicate, Pv.partOk, Pv.isNon, Pv.sliceD, Pv.bound, Pv.seqI, Pv.seqS, Pv.isPure, Pv.isL, Pv.appendO, Pv.turnCV, Pv.wipeN, Pv.le_line, Pv.outR_ret, Pv.outR_nx, $xs,*])
local macro_rules | `(tactic| simp_arith! [$xs,*]) => `(tactic| simp (disch := first | omega | assumption) only [Pv.ev_slot, Pv.ev_slotB, Pv.ev_slotP, Pv.ev_const, Pv.ev_o1, Pv.ev_o2, Pv.ev_chain, Pv.ev_and, Pv.ev_or, Pv.ev_not, Pv.ev_ite, Pv.ev_tup, Pv.ev_lst, Pv.ev_tupS, Pv.ev_tupS1, Pv.ev_slice, Pv.ev_attr, Pv.ev_prom, Pv.evs_nil, Pv.evs_cons, Pv.evA_nil, Pv.evA_cons, Pv.evA1_e, Pv.evA1_lam, Pv.capsOf_nil, Pv.capsOf_cons, Pv.evTs_nil, Pv.evTs_cons, Pv.evI_seq, Pv.evI_zip, Pv.evI_enum, Pv.evI_range, Pv.asT_slot, Pv.asT_tup, Pv.asTs_nil, Pv.asTs_cons, Pv.asT_attr, Pv.exs_nil, Pv.ex_expr, Pv.ex_asg, Pv.ex_asgT, Pv.ex_asgS, Pv.ex_asgA, Pv.ex_par, Pv.evsF_nil, Pv.evsF_cons, Pv.setAll_nil, Pv.setAll_cons, Pv.ex_ret, Pv.ex_retS, Pv.ex_ite, Pv.ex_app, Pv.gAt_call, Pv.gAt_make, Pv.gAt_clo, Pv.gAt_P, Pv.gAt_repr, Pv.callG, Pv.tst, Pv.opd, Pv.fin, Pv.isBor, Pv.rdB, Pv.rdF, Pv.rdP, Pv.view, Pv.getN, Pv.setN, Pv.S.set, Pv.Sl.of, Pv.FX.frz, Pv.Ob.frz, Pv.Out.bind_ok, Pv.Out.bind_err, Pv.lift_some, Pv.lift_none, Option.bind_some, Option.map_some, Option.bind_none, Option.map_none, Pv.o_add, Pv.o_addS, Pv.o_addL, Pv.o_addT, Pv.o_sub, Pv.o_mul, Pv.o_fdiv, Pv.o_mod, Pv.o_pow, Pv.o_shr, Pv.o_band, Pv.o_eq, Pv.o_ne, Pv.eqP_int, Pv.eqP_str, Pv.o_lt, Pv.o_gt, Pv.o_le, Pv.o_ge, Pv.o_ltS, Pv.o_geS, Pv.o_isinT, Pv.o_isinL, Pv.o_isinS, Pv.o_notinT, Pv.o_notinL, Pv.o_min, Pv.o_max, Pv.o_divmod, Pv.o_isTy, Pv.o_isCls, Pv.flat_int, Pv.flat_str, Pv.i0T, Pv.i0L, Pv.i1T, Pv.i1L, Pv.i2T, Pv.i2L, Pv.i3T, Pv.i4T, Pv.p_len_T, Pv.p_len_L, Pv.p_len_R, Pv.p_len_D, Pv.p_len_S, Pv.p_sum, Pv.p_max, Pv.p_min, Pv.p_any, Pv.p_all, Pv.p_abs, Pv.p_int, Pv.p_neg, Pv.p_isN, Pv.p_notN, Pv.p_tuple_T, Pv.p_tuple_L, Pv.p_sortedL, Pv.p_sortedD, Pv.p_sortedSet, Pv.p_repr, Pv.t_bl, Pv.t_int, Pv.ty_int, Pv.ty_bool, Pv.ty_str, Pv.ty_tuple, Pv.ty_list, Pv.of_int, Pv.of_str, Pv.of_tup, if_true, if_false, Bool.not_true, Bool.not_false, Bool.false_eq_true, Pv.startS, List.map_cons, List.map_nil, List.cons_append, List.nil_append, List.append_nil, Pv.AX.sl, List.length_cons, List.length_nil, List.replicate, Pv.partOk, Pv.isNon, Pv.sliceD, Pv.bound, Pv.seqI, Pv.seqS, Pv.isPure, Pv.isL, Pv.appendO, Pv.turnCV, Pv.wipeN, Pv.le_line, Pv.outR_ret, Pv.outR_nx, $xs,*])
local macro_rules | `(tactic| ac_rfl) => `(tactic| (refine ⟨rfl, fun i hi => ?_⟩; repeat' (first | rfl | (exfalso; exact hi (by decide)) | (rcases i with _ | i))))

section
set_option Elab.async false
set_option linter.all false
set_option maxRecDepth 100000
/-! K0: the forms of k69. -/
namespace Pv
open PySem
abbrev i_part_up_to : Nat := 0
abbrev i_owed_of : Nat := 1
abbrev i_last_by : Nat := 2
abbrev i_outlays_by : Nat := 3
abbrev i_offices_of : Nat := 4
abbrev i_slow_sets : Nat := 5
abbrev i_wait_of : Nat := 6
abbrev i_last_day_of : Nat := 7
abbrev i_left_by : Nat := 8
abbrev i_is_whole : Nat := 9
abbrev i_is_number : Nat := 10
abbrev i_check_number : Nat := 11
abbrev i_is_tuple_of : Nat := 12
abbrev i_wrong_at : Nat := 13
abbrev i_wrong_from_one : Nat := 14
abbrev i_is_letters : Nat := 15
abbrev i_is_name : Nat := 16
abbrev i_is_payer : Nat := 17
abbrev i_is_call : Nat := 18
abbrev i_is_outlay : Nat := 19
abbrev i_are_bounds : Nat := 20
abbrev i_check_payers : Nat := 21
abbrev i_check_calls : Nat := 22
abbrev i_check_outlays : Nat := 23
abbrev i_check_plan : Nat := 24
abbrev i_with_bounds : Nat := 25
abbrev i_surely_come : Nat := 26
abbrev i_least_come : Nat := 27
abbrev i_margin_by : Nat := 28
abbrev i_least_by : Nat := 29
abbrev i_least_margin : Nat := 30
abbrev i_is_borne : Nat := 31
abbrev i_greatest_with : Nat := 32
abbrev i_bears_fails : Nat := 33
abbrev i_bears_slow : Nat := 34
abbrev i_least_reserve : Nat := 35
abbrev i_law_urn : Nat := 36
abbrev i_law_take : Nat := 37
abbrev i_law_of : Nat := 38
abbrev i_law_names : Nat := 39
abbrev i_law_plan : Nat := 40
abbrev i_law_bounds : Nat := 41
abbrev i_law_owed : Nat := 42
abbrev i_law_spent : Nat := 43
abbrev i_law_sets : Nat := 44
abbrev i_law_offices : Nat := 45
abbrev i_law_margin : Nat := 46
abbrev i_law_least : Nat := 47
abbrev i_law_right : Nat := 48
abbrev i_law : Nat := 49
abbrev i_Calls_init : Nat := 50
abbrev i_Calls_payers : Nat := 51
abbrev i_Calls_calls : Nat := 52
abbrev i_Calls_outlays : Nat := 53
abbrev i_Calls_reserve : Nat := 54
abbrev i_Calls_bounds : Nat := 55
def b_part_up_to : List Stm := [.ret (.o1 .sum (.comp [2, 3] (.tup [(.slot 2), (.slot 3)]) (.seq (.slice (.slotB 0) (.const .non) (.o2 .add (.slotB 1) (.const (.int (1)))))) [] (.slot 3)))]
def fn_part_up_to : Fn := ⟨false, 2, 0, 4, b_part_up_to⟩
def b_owed_of : List Stm := [.ret (.o2 .fdiv (.o2 .mul (.slotB 0) (.call i_part_up_to [.e (.slot 1), .e (.slot 2)])) (.const (.int (1000))))]
def fn_owed_of : Fn := ⟨false, 3, 0, 3, b_owed_of⟩
def b_last_by : List Stm := [.ret (.o2 .sub (.o1 .len (.comp [2] (.slot 2) (.seq (.slot 0)) [(.o2 .le (.o2 .idx (.slotB 2) (.const (.int (0)))) (.slotB 1))] (.slot 2))) (.const (.int (1))))]
def fn_last_by : Fn := ⟨false, 2, 0, 3, b_last_by⟩
def b_outlays_by : List Stm := [.ret (.o1 .sum (.comp [2, 3] (.tup [(.slot 2), (.slot 3)]) (.seq (.attr (.slotB 0) "outlays")) [(.o2 .le (.slotB 2) (.slotB 1))] (.slot 3)))]
def fn_outlays_by : Fn := ⟨false, 2, 0, 4, b_outlays_by⟩
def b_offices_of : List Stm := [.ret (.o1 .tuple (.o1 .sorted (.dcomp [1, 2] (.tup [(.slot 1), (.slot 2), (.slot 1)]) (.seq (.attr (.slotB 0) "payers")) [] (.slot 2) (.const .non))))]
def fn_offices_of : Fn := ⟨false, 1, 0, 3, b_offices_of⟩
def b_slow_sets : List Stm := [.asg (.slot 1) (.lst [(.tup [])]), .forr (.slot 2) (.seq (.call i_offices_of [.e (.slot 0)])) [.asg (.slot 1) (.o2 .add (.slotB 1) (.comp [3] (.slot 3) (.seq (.slot 1)) [(.o2 .lt (.o1 .len (.slotB 3)) (.o2 .idx (.attr (.slotB 0) "bounds") (.const (.int (2)))))] (.tupS1 (.slotB 3) [(.slot 2)])))], .retS 1]
def fn_slow_sets : Fn := ⟨false, 1, 0, 4, b_slow_sets⟩
def b_wait_of : List Stm := [.ret (.o2 .add (.o2 .idx (.attr (.slotB 0) "bounds") (.const (.int (1)))) (.ite (.o2 .isin (.slotB 1) (.slotB 2)) (.o2 .idx (.attr (.slotB 0) "bounds") (.const (.int (3)))) (.const (.int (0)))))]
def fn_wait_of : Fn := ⟨false, 3, 0, 3, b_wait_of⟩
def b_last_day_of : List Stm := [.asg (.tup [(.slot 1), (.slot 2), (.slot 1), (.slot 3)]) (.attr (.slotB 0) "bounds"), .ret (.o1 .max (.o2 .add (.lst [(.o2 .add (.o2 .add (.o2 .idx (.o2 .idx (.attr (.slotB 0) "calls") (.o1 .neg (.const (.int (1))))) (.const (.int (0)))) (.slotB 2)) (.slotB 3))]) (.comp [4, 1] (.tup [(.slot 4), (.slot 1)]) (.seq (.attr (.slotB 0) "outlays")) [] (.slot 4))))]
def fn_last_day_of : Fn := ⟨false, 1, 0, 5, b_last_day_of⟩
def b_left_by : List Stm := [.ret (.o1 .sum (.slice (.o1 .sorted (.slotB 0)) (.const .non) (.o2 .max (.const (.int (0))) (.o2 .sub (.o1 .len (.slotB 0)) (.slotB 1)))))]
def fn_left_by : Fn := ⟨false, 2, 0, 2, b_left_by⟩
def b_is_whole : List Stm := [.ret (.and (.o2 .isinst (.slotB 0) (.const (.ty "int"))) (.not (.o2 .isinst (.slotB 0) (.const (.ty "bool")))))]
def fn_is_whole : Fn := ⟨false, 1, 0, 1, b_is_whole⟩
def b_is_number : List Stm := [.ite (.or (.not (.call i_is_whole [.e (.slot 0)])) (.and (.o1 .notN (.slotB 1)) (.o2 .lt (.slotB 0) (.slotB 1)))) [.ret (.const (.bl false))] [], .ret (.or (.o1 .isN (.slotB 2)) (.o2 .le (.slotB 0) (.slotB 2)))]
def fn_is_number : Fn := ⟨false, 3, 0, 3, b_is_number⟩
def b_check_number : List Stm := [.ite (.not (.call i_is_number [.e (.slot 0), .e (.slot 1), .e (.slot 2)])) [.never] []]
def fn_check_number : Fn := ⟨false, 3, 0, 3, b_check_number⟩
def b_is_tuple_of : List Stm := [.ret (.and (.o2 .isinst (.slotB 0) (.const (.ty "tuple"))) (.o2 .eq (.o1 .len (.slotB 0)) (.slotB 1)))]
def fn_is_tuple_of : Fn := ⟨false, 2, 0, 2, b_is_tuple_of⟩
def b_wrong_at : List Stm := [.ite (.not (.o2 .isinst (.slotB 0) (.const (.ty "tuple")))) [.ret (.lst [(.const .non)])] [], .forr (.tup [(.slot 3), (.slot 4)]) (.enum (.slot 0)) [.ite (.or (.o2 .eq (.slotB 3) (.slotB 1)) (.not (.callv 2 [.e (.slot 4), .e (.slice (.slotB 0) (.const .non) (.slot 3))]))) [.ret (.lst [(.slot 3)])] []], .ret (.lst [])]
def fn_wrong_at : Fn := ⟨false, 3, 0, 5, b_wrong_at⟩
def b_wrong_from_one : List Stm := [.ret (.ite (.o2 .eq (.slotB 0) (.tup [])) (.lst [(.const .non)]) (.call i_wrong_at [.e (.slot 0), .e (.slot 1), .e (.slot 2)]))]
def fn_wrong_from_one : Fn := ⟨false, 3, 0, 3, b_wrong_from_one⟩
def b_is_letters : List Stm := [.ite (.or (.not (.o2 .isinst (.slotB 0) (.const (.ty "str")))) (.not (.chain .le .le (.slotB 1) (.o1 .len (.slotB 0)) (.slotB 2)))) [.ret (.const (.bl false))] [], .ret (.o1 .all (.comp [3] (.slot 3) (.seq (.slot 0)) [] (.o2 .isin (.slotB 3) (.const (.str "abcdefghijklmnopqrstuvwxyz")))))]
def fn_is_letters : Fn := ⟨false, 3, 0, 4, b_is_letters⟩
def b_is_name : List Stm := [.ret (.and (.call i_is_letters [.e (.slot 0), .e (.const (.int (1))), .e (.const (.int (8)))]) (.o2 .notin (.slotB 0) (.const (.tup [(.str "all"), (.str "any"), (.str "back"), (.str "cannot"), (.str "close"), (.str "day"), (.str "fixed"), (.str "gives"), (.str "goal"), (.str "hear"), (.str "match"), (.str "may"), (.str "met"), (.str "none"), (.str "office"), (.str "person"), (.str "some"), (.str "sum"), (.str "sure"), (.str "terms"), (.str "with")]))))]
def fn_is_name : Fn := ⟨false, 1, 0, 1, b_is_name⟩
def b_is_payer : List Stm := [.ite (.or (.not (.call i_is_tuple_of [.e (.slot 0), .e (.const (.int (3)))])) (.or (.not (.call i_is_name [.e (.o2 .idx (.slotB 0) (.const (.int (0))))])) (.not (.call i_is_name [.e (.o2 .idx (.slotB 0) (.const (.int (1))))])))) [.ret (.const (.bl false))] [], .asg (.tup [(.slot 2), (.slot 3), (.slot 4)]) (.slot 0), .ite (.or (.not (.call i_is_number [.e (.slot 4), .e (.const (.int (1))), .e (.const (.int (1000000)))])) (.and (.o2 .ne (.slotB 1) (.tup [])) (.o2 .ge (.o2 .idx (.o2 .idx (.slotB 1) (.o1 .neg (.const (.int (1))))) (.const (.int (0)))) (.slotB 2)))) [.ret (.const (.bl false))] [], .par [5, 6] [(.o2 .add (.comp [7] (.slot 7) (.seq (.slot 1)) [] (.o2 .idx (.slotB 7) (.const (.int (0))))) (.lst [(.slot 2)])), (.o2 .add (.comp [7] (.slot 7) (.seq (.slot 1)) [] (.o2 .idx (.slotB 7) (.const (.int (1))))) (.lst [(.slot 3)]))], .ite (.o1 .any (.comp [8] (.slot 8) (.seq (.slot 5)) [] (.o2 .isin (.slotB 8) (.slotB 6)))) [.ret (.const (.bl false))] [], .ret (.o2 .le (.o1 .len (.dcomp [8] (.slot 8) (.seq (.slot 6)) [] (.slot 8) (.const .non))) (.const (.int (4))))]
def fn_is_payer : Fn := ⟨false, 2, 0, 9, b_is_payer⟩
def b_is_call : List Stm := [.ite (.or (.not (.call i_is_tuple_of [.e (.slot 0), .e (.const (.int (2)))])) (.or (.not (.call i_is_number [.e (.o2 .idx (.slotB 0) (.const (.int (0)))), .e (.const (.int (0))), .e (.const (.int (60)))])) (.not (.call i_is_number [.e (.o2 .idx (.slotB 0) (.const (.int (1)))), .e (.const (.int (1))), .e (.const (.int (1000)))])))) [.ret (.const (.bl false))] [], .ret (.or (.o2 .eq (.slotB 1) (.tup [])) (.o2 .lt (.o2 .idx (.o2 .idx (.slotB 1) (.o1 .neg (.const (.int (1))))) (.const (.int (0)))) (.o2 .idx (.slotB 0) (.const (.int (0))))))]
def fn_is_call : Fn := ⟨false, 2, 0, 2, b_is_call⟩
def b_is_outlay : List Stm := [.ite (.or (.not (.call i_is_tuple_of [.e (.slot 0), .e (.const (.int (2)))])) (.not (.call i_is_number [.e (.o2 .idx (.slotB 0) (.const (.int (0)))), .e (.const (.int (0))), .e (.const (.int (90)))]))) [.ret (.const (.bl false))] [], .ret (.and (.call i_is_number [.e (.o2 .idx (.slotB 0) (.const (.int (1)))), .e (.const (.int (1))), .e (.const (.int (10000000)))]) (.or (.o2 .eq (.slotB 1) (.tup [])) (.o2 .le (.o2 .idx (.o2 .idx (.slotB 1) (.o1 .neg (.const (.int (1))))) (.const (.int (0)))) (.o2 .idx (.slotB 0) (.const (.int (0)))))))]
def fn_is_outlay : Fn := ⟨false, 2, 0, 2, b_is_outlay⟩
def b_are_bounds : List Stm := [.ite (.not (.call i_is_tuple_of [.e (.slot 0), .e (.o1 .len (.const (.tup [(.int (6)), (.int (9)), (.int (3)), (.int (9))])))])) [.ret (.const (.bl false))] [], .ret (.o1 .all (.comp [1, 2] (.tup [(.slot 1), (.slot 2)]) (.zip (.slot 0) (.const (.tup [(.int (6)), (.int (9)), (.int (3)), (.int (9))]))) [] (.call i_is_number [.e (.slot 1), .e (.const (.int (0))), .e (.slot 2)])))]
def fn_are_bounds : Fn := ⟨false, 1, 0, 3, b_are_bounds⟩
def b_check_payers : List Stm := [.forr (.slot 1) (.seq (.call i_wrong_from_one [.e (.slot 0), .e (.const (.int (12))), .e (.const (.fn i_is_payer))])) [.never]]
def fn_check_payers : Fn := ⟨false, 1, 0, 2, b_check_payers⟩
def b_check_calls : List Stm := [.forr (.slot 1) (.seq (.call i_wrong_from_one [.e (.slot 0), .e (.const (.int (8))), .e (.const (.fn i_is_call))])) [.never]]
def fn_check_calls : Fn := ⟨false, 1, 0, 2, b_check_calls⟩
def b_check_outlays : List Stm := [.forr (.slot 1) (.seq (.call i_wrong_at [.e (.slot 0), .e (.const (.int (8))), .e (.const (.fn i_is_outlay))])) [.never]]
def fn_check_outlays : Fn := ⟨false, 1, 0, 2, b_check_outlays⟩
def b_check_plan : List Stm := [.ite (.not (.o2 .isinst (.slotB 0) (.const (.cls 0)))) [.never] []]
def fn_check_plan : Fn := ⟨false, 1, 0, 1, b_check_plan⟩
def b_with_bounds : List Stm := [.ret (.new 0 [.e (.attr (.slotB 0) "payers"), .e (.attr (.slotB 0) "calls"), .e (.attr (.slotB 0) "outlays"), .e (.attr (.slotB 0) "reserve"), .e (.slot 1)])]
def fn_with_bounds : Fn := ⟨false, 2, 0, 2, b_with_bounds⟩
def b_surely_come : List Stm := [.asg (.slot 3) (.lst []), .forr (.tup [(.slot 4), (.slot 5), (.slot 6)]) (.seq (.attr (.slotB 0) "payers")) [.app 3 (.call i_owed_of [.e (.slot 6), .e (.attr (.slotB 0) "calls"), .e (.call i_last_by [.e (.attr (.slotB 0) "calls"), .e (.o2 .sub (.slotB 1) (.call i_wait_of [.e (.slot 0), .e (.slot 5), .e (.slot 2)]))])])], .retS 3]
def fn_surely_come : Fn := ⟨false, 3, 0, 7, b_surely_come⟩
def b_least_come : List Stm := [.asg (.slot 2) (.const .non), .forr (.slot 3) (.seq (.call i_slow_sets [.e (.slot 0)])) [.asg (.slot 4) (.call i_left_by [.e (.call i_surely_come [.e (.slot 0), .e (.slot 1), .e (.slot 3)]), .e (.o2 .idx (.attr (.slotB 0) "bounds") (.const (.int (0))))]), .ite (.or (.o1 .isN (.slotB 2)) (.o2 .lt (.slotB 4) (.o2 .idx (.slotB 2) (.const (.int (0)))))) [.asg (.slot 2) (.tup [(.slot 4), (.slot 3)])] []], .retS 2]
def fn_least_come : Fn := ⟨false, 2, 0, 5, b_least_come⟩
def b_margin_by : List Stm := [.ret (.o2 .add (.o2 .sub (.attr (.slotB 0) "reserve") (.call i_outlays_by [.e (.slot 0), .e (.slot 1)])) (.o2 .idx (.call i_least_come [.e (.slot 0), .e (.slot 1)]) (.const (.int (0)))))]
def fn_margin_by : Fn := ⟨false, 2, 0, 2, b_margin_by⟩
def b_least_by : List Stm := [.asg (.slot 1) (.const .non), .forr (.slot 2) (.range [(.o2 .add (.call i_last_day_of [.e (.slot 0)]) (.const (.int (1))))]) [.asg (.slot 3) (.call i_margin_by [.e (.slot 0), .e (.slot 2)]), .ite (.or (.o1 .isN (.slotB 1)) (.o2 .lt (.slotB 3) (.o2 .idx (.slotB 1) (.const (.int (0)))))) [.asg (.slot 1) (.tup [(.slot 3), (.slot 2)])] []], .retS 1]
def fn_least_by : Fn := ⟨false, 1, 0, 4, b_least_by⟩
def b_least_margin : List Stm := [.expr (.call i_check_plan [.e (.slot 0)]), .ret (.call i_least_by [.e (.slot 0)])]
def fn_least_margin : Fn := ⟨false, 1, 0, 1, b_least_margin⟩
def b_is_borne : List Stm := [.ret (.o2 .ge (.o2 .idx (.call i_least_margin [.e (.slot 0)]) (.const (.int (0)))) (.const (.int (0))))]
def fn_is_borne : Fn := ⟨false, 1, 0, 1, b_is_borne⟩
def b_greatest_with : List Stm := [.forr (.slot 2) (.range [(.slot 0), (.o1 .neg (.const (.int (1)))), (.o1 .neg (.const (.int (1))))]) [.ite (.callv 1 [.e (.slot 2)]) [.retS 2] []], .ret (.const .non)]
def fn_greatest_with : Fn := ⟨false, 2, 0, 3, b_greatest_with⟩
def b_bears_fails : List Stm := [.expr (.call i_check_plan [.e (.slot 0)]), .asg (.slot 1) (.slice (.attr (.slotB 0) "bounds") (.const (.int (1))) (.const .non)), .ret (.call i_greatest_with [.e (.const (.int (6))), .lam 1 3 (.call i_is_borne [.e (.call i_with_bounds [.e (.slot 2), .e (.tupS [(.slot 0)] (.slotB 1))])]) [1, 0] 0])]
def fn_bears_fails : Fn := ⟨false, 1, 0, 2, b_bears_fails⟩
def b_bears_slow : List Stm := [.expr (.call i_check_plan [.e (.slot 0)]), .asg (.tup [(.slot 1), (.slot 2), (.slot 3), (.slot 4)]) (.attr (.slotB 0) "bounds"), .ret (.call i_greatest_with [.e (.const (.int (3))), .lam 1 5 (.call i_is_borne [.e (.call i_with_bounds [.e (.slot 3), .e (.tup [(.slot 1), (.slot 2), (.slot 0), (.slot 4)])])]) [1, 2, 0, 4] 1])]
def fn_bears_slow : Fn := ⟨false, 1, 0, 5, b_bears_slow⟩
def b_least_reserve : List Stm := [.ret (.o2 .max (.const (.int (0))) (.o2 .sub (.attr (.slotB 0) "reserve") (.o2 .idx (.call i_least_margin [.e (.slot 0)]) (.const (.int (0))))))]
def fn_least_reserve : Fn := ⟨false, 1, 0, 1, b_least_reserve⟩
def b_law_urn : List Stm := [.asg (.slot 2) (.o2 .add (.const (.int (691111))) (.o2 .mul (.const (.int (8111))) (.slotB 1))), .forr (.slot 3) (.seq (.slice (.slotB 0) (.const .non) (.const (.int (9))))) [.asg (.slot 2) (.o2 .mod (.o1 .int (.o2 .add (.o2 .add (.o2 .mul (.slotB 2) (.const (.int (50021)))) (.o2 .mul (.o2 .mod (.o1 .int (.slotB 3)) (.const (.int (2147483477)))) (.const (.int (13))))) (.const (.int (41))))) (.const (.int (2147483629))))], .asg (.slot 4) (.ite (.o2 .lt (.slotB 1) (.o1 .len (.slotB 0))) (.o1 .int (.o2 .idx (.slotB 0) (.slotB 1))) (.const (.int (0)))), .asg (.slot 2) (.o2 .mod (.o1 .int (.o2 .add (.o2 .add (.o2 .mul (.slotB 2) (.const (.int (59)))) (.o2 .mul (.o2 .mod (.o1 .int (.slotB 4)) (.const (.int (2147483477)))) (.const (.int (30029))))) (.const (.int (5))))) (.const (.int (2147483629)))), .ret (.lst [(.ite (.or (.o2 .lt (.slotB 4) (.const (.int (0)))) (.o2 .ge (.slotB 4) (.o2 .pow (.const (.int (10))) (.const (.int (15)))))) (.o1 .abs (.slotB 4)) (.const (.int (0)))), (.slot 2), (.const (.int (0)))])]
def fn_law_urn : Fn := ⟨false, 2, 0, 5, b_law_urn⟩
def b_law_take : List Stm := [.ite (.o2 .gt (.o2 .idx (.slotB 0) (.const (.int (0)))) (.const (.int (0)))) [.asg (.tup [(.sub 0 (.const (.int (0)))), (.slot 2)]) (.o2 .divmod (.o2 .idx (.slotB 0) (.const (.int (0)))) (.slotB 1)), .retS 2] [], .asg (.sub 0 (.const (.int (2)))) (.o2 .add (.o2 .idx (.slotB 0) (.const (.int (2)))) (.const (.int (1)))), .asg (.slot 3) (.o2 .mod (.o1 .int (.o2 .add (.o2 .mul (.o2 .idx (.slotB 0) (.const (.int (1)))) (.const (.int (40009)))) (.o2 .mul (.const (.int (15013))) (.o2 .idx (.slotB 0) (.const (.int (2))))))) (.const (.int (2147483629)))), .asg (.sub 0 (.const (.int (1)))) (.o2 .mod (.o1 .int (.o2 .add (.o2 .mul (.slotB 3) (.o2 .add (.o2 .mod (.o1 .int (.slotB 3)) (.const (.int (5003)))) (.const (.int (30011))))) (.o2 .mul (.const (.int (3))) (.o2 .idx (.slotB 0) (.const (.int (2))))))) (.const (.int (2147483629)))), .ret (.o2 .mod (.o1 .int (.o2 .fdiv (.o2 .idx (.slotB 0) (.const (.int (1)))) (.const (.int (907))))) (.slotB 1))]
def fn_law_take : Fn := ⟨false, 2, 0, 4, b_law_take⟩
def b_law_of : List Stm := [.ret (.o2 .idx (.slotB 1) (.call i_law_take [.e (.slotP 0), .e (.o1 .len (.slotB 1))]))]
def fn_law_of : Fn := ⟨false, 2, 0, 2, b_law_of⟩
def b_law_names : List Stm := [.par [2, 3] [(.lst []), (.const (.str "abcdefghijklmnopqrstuvwxyz"))], .forr (.slot 4) (.range [(.slot 1)]) [.par [5, 6] [(.call i_law_of [.e (.slotP 0), .e (.lst [(.const (.int (0))), (.const (.int (0))), (.const (.int (1))), (.const (.int (3))), (.const (.int (6)))])]), (.const (.str ""))], .forr (.slot 7) (.range [(.slot 5)]) [.asg (.slot 6) (.o2 .add (.slotB 6) (.call i_law_of [.e (.slotP 0), .e (.slot 3)]))], .asg (.slot 8) (.call i_law_take [.e (.slotP 0), .e (.o2 .add (.slotB 5) (.const (.int (1))))]), .asg (.slot 6) (.o2 .add (.o2 .add (.o2 .add (.slice (.slotB 6) (.const .non) (.slot 8)) (.o2 .idx (.slotB 3) (.slotB 4))) (.slice (.const (.str "q")) (.const .non) (.slot 5))) (.slice (.slotB 6) (.slot 8) (.const .non))), .app 2 (.ite (.o2 .notin (.slotB 6) (.slotB 2)) (.slot 6) (.o2 .add (.o2 .mul (.o2 .idx (.slotB 3) (.slotB 4)) (.const (.int (7)))) (.const (.str "q"))))], .retS 2]
def fn_law_names : Fn := ⟨false, 2, 0, 9, b_law_names⟩
def b_law_plan : List Stm := [.par [3, 4, 5, 6] [(.call i_law_names [.e (.slotP 0), .e (.const (.int (16)))]), (.lst []), (.lst []), (.lst [])], .asg (.slot 7) (.slice (.slotB 3) (.const (.int (12))) (.o2 .add (.const (.int (12))) (.call i_law_of [.e (.slotP 0), .e (.lst [(.const (.int (1))), (.const (.int (2))), (.const (.int (4)))])]))), .forr (.slot 8) (.seq (.o1 .sorted (.slice (.slotB 3) (.const .non) (.o2 .max (.const (.int (1))) (.o2 .sub (.o2 .idx (.slotB 1) (.const (.int (0)))) (.call i_law_of [.e (.slotP 0), .e (.lst [(.const (.int (0))), (.const (.int (0))), (.const (.int (1))), (.call i_law_take [.e (.slotP 0), .e (.o2 .idx (.slotB 1) (.const (.int (0))))])])])))))) [.asg (.slot 9) (.call i_law_of [.e (.slotP 0), .e (.lst [(.o2 .add (.const (.int (1))) (.call i_law_take [.e (.slotP 0), .e (.slot 2)])), (.o2 .add (.const (.int (1))) (.call i_law_take [.e (.slotP 0), .e (.slot 2)])), (.const (.int (7))), (.slot 2)])]), .app 4 (.tup [(.slot 8), (.call i_law_of [.e (.slotP 0), .e (.slot 7)]), (.slot 9)])], .par [10, 11, 12] [(.o2 .max (.const (.int (1))) (.o2 .sub (.o2 .idx (.slotB 1) (.const (.int (1)))) (.call i_law_of [.e (.slotP 0), .e (.lst [(.const (.int (0))), (.const (.int (0))), (.const (.int (1))), (.call i_law_take [.e (.slotP 0), .e (.o2 .idx (.slotB 1) (.const (.int (1))))])])]))), (.lst []), (.const (.int (1000)))], .asg (.slot 13) (.call i_law_of [.e (.slotP 0), .e (.lst [(.const (.int (0))), (.const (.int (0))), (.call i_law_take [.e (.slotP 0), .e (.const (.int (18)))])])]), .forr (.slot 14) (.range [(.slot 10)]) [.app 11 (.slot 13), .asg (.slot 13) (.o2 .add (.o2 .add (.slotB 13) (.const (.int (1)))) (.call i_law_of [.e (.slotP 0), .e (.lst [(.const (.int (0))), (.const (.int (1))), (.call i_law_take [.e (.slotP 0), .e (.const (.int (6)))])])]))], .forr (.slot 14) (.range [(.slot 10)]) [.asg (.slot 15) (.ite (.o2 .eq (.slotB 14) (.o2 .sub (.slotB 10) (.const (.int (1))))) (.slot 12) (.o2 .add (.const (.int (1))) (.call i_law_take [.e (.slotP 0), .e (.o2 .min (.o2 .sub (.slotB 12) (.o2 .sub (.slotB 10) (.slotB 14))) (.call i_law_of [.e (.slotP 0), .e (.lst [(.const (.int (60))), (.const (.int (400))), (.const (.int (900)))])]))]))), .app 5 (.tup [(.o2 .idx (.slotB 11) (.slotB 14)), (.slot 15)]), .asg (.slot 12) (.o2 .sub (.slotB 12) (.slotB 15))], .par [13, 16] [(.const (.int (0))), (.o1 .sum (.comp [17] (.slot 17) (.seq (.slot 4)) [] (.o2 .idx (.slotB 17) (.const (.int (2))))))], .forr (.slot 14) (.range [(.o2 .sub (.o2 .idx (.slotB 1) (.const (.int (2)))) (.call i_law_of [.e (.slotP 0), .e (.lst [(.const (.int (0))), (.const (.int (1))), (.call i_law_take [.e (.slotP 0), .e (.o2 .add (.o2 .idx (.slotB 1) (.const (.int (2)))) (.const (.int (1))))])])]))]) [.asg (.slot 13) (.o2 .min (.const (.int (90))) (.o2 .add (.slotB 13) (.call i_law_of [.e (.slotP 0), .e (.lst [(.const (.int (0))), (.const (.int (1))), (.const (.int (3))), (.call i_law_take [.e (.slotP 0), .e (.const (.int (12)))])])]))), .asg (.slot 18) (.call i_law_of [.e (.slotP 0), .e (.lst [(.o2 .fdiv (.slotB 16) (.const (.int (2)))), (.o2 .fdiv (.slotB 16) (.const (.int (5)))), (.const (.int (9))), (.slot 16)])]), .app 6 (.tup [(.slot 13), (.o2 .min (.o2 .pow (.const (.int (10))) (.const (.int (7)))) (.o2 .add (.const (.int (1))) (.call i_law_take [.e (.slotP 0), .e (.o2 .max (.const (.int (1))) (.slotB 18))])))])], .asg (.slot 19) (.call i_law_of [.e (.slotP 0), .e (.lst [(.const (.int (0))), (.call i_law_take [.e (.slotP 0), .e (.o2 .add (.slotB 16) (.const (.int (1))))]), (.call i_law_take [.e (.slotP 0), .e (.o2 .add (.o2 .fdiv (.slotB 16) (.const (.int (2)))) (.const (.int (1))))]), (.call i_law_take [.e (.slotP 0), .e (.const (.int (9)))])])]), .ret (.tup [(.o1 .tuple (.slotB 4)), (.o1 .tuple (.slotB 5)), (.o1 .tuple (.slotB 6)), (.o2 .min (.o2 .pow (.const (.int (10))) (.const (.int (7)))) (.slotB 19)), (.tup [(.const (.int (0))), (.const (.int (0))), (.const (.int (0))), (.const (.int (0)))])])]
def fn_law_plan : Fn := ⟨false, 3, 0, 20, b_law_plan⟩
def b_law_bounds : List Stm := [.asg (.slot 3) (.lst []), .forr (.slot 4) (.seq (.slot 2)) [.app 3 (.call i_law_take [.e (.slotP 0), .e (.o2 .add (.slotB 4) (.const (.int (1))))])], .ret (.o2 .add (.slice (.slotB 1) (.const .non) (.const (.int (4)))) (.tup [(.o1 .tuple (.slotB 3))]))]
def fn_law_bounds : Fn := ⟨false, 3, 0, 5, b_law_bounds⟩
def b_law_owed : List Stm := [.ret (.o2 .fdiv (.o2 .mul (.o2 .idx (.slotB 1) (.const (.int (2)))) (.o1 .sum (.comp [3, 4] (.tup [(.slot 3), (.slot 4)]) (.seq (.slice (.o2 .idx (.slotB 0) (.const (.int (1)))) (.const .non) (.o2 .add (.slotB 2) (.const (.int (1)))))) [] (.slot 4)))) (.const (.int (1000))))]
def fn_law_owed : Fn := ⟨false, 3, 0, 5, b_law_owed⟩
def b_law_spent : List Stm := [.ret (.o1 .sum (.comp [2, 3] (.tup [(.slot 2), (.slot 3)]) (.seq (.o2 .idx (.slotB 0) (.const (.int (2))))) [(.o2 .le (.slotB 2) (.slotB 1))] (.slot 3)))]
def fn_law_spent : Fn := ⟨false, 2, 0, 4, b_law_spent⟩
def b_law_sets : List Stm := [.asg (.slot 2) (.lst []), .forr (.slot 3) (.range [(.o2 .pow (.const (.int (2))) (.const (.int (4))))]) [.asg (.slot 4) (.o1 .tuple (.comp [5] (.slot 5) (.range [(.o1 .len (.slotB 0))]) [(.o2 .eq (.o2 .band (.o2 .shr (.slotB 3) (.slotB 5)) (.const (.int (1)))) (.const (.int (1))))] (.o2 .idx (.slotB 0) (.slotB 5)))), .ite (.and (.o2 .eq (.o2 .shr (.slotB 3) (.o1 .len (.slotB 0))) (.const (.int (0)))) (.o2 .le (.o1 .len (.slotB 4)) (.slotB 1))) [.app 2 (.slot 4)] []], .retS 2]
def fn_law_sets : Fn := ⟨false, 2, 0, 6, b_law_sets⟩
def b_law_offices : List Stm := [.ret (.o1 .sortedSet (.comp [1] (.slot 1) (.seq (.o2 .idx (.slotB 0) (.const (.int (0))))) [] (.o2 .idx (.slotB 1) (.const (.int (1))))))]
def fn_law_offices : Fn := ⟨false, 1, 0, 2, b_law_offices⟩
def b_law_margin : List Stm := [.asg (.tup [(.slot 2), (.slot 3), (.slot 4), (.slot 5)]) (.o2 .idx (.slotB 0) (.const (.int (4)))), .asg (.slot 6) (.lst []), .forr (.slot 7) (.seq (.call i_law_sets [.e (.call i_law_offices [.e (.slot 0)]), .e (.slot 4)])) [.asg (.slot 8) (.lst []), .forr (.slot 9) (.seq (.o2 .idx (.slotB 0) (.const (.int (0))))) [.par [10, 11] [(.o2 .sub (.o2 .sub (.slotB 1) (.slotB 3)) (.ite (.o2 .isin (.o2 .idx (.slotB 9) (.const (.int (1)))) (.slotB 7)) (.slot 5) (.const (.int (0))))), (.const (.int (0)))], .forr (.tup [(.slot 12), (.tup [(.slot 13), (.slot 14)])]) (.enum (.o2 .idx (.slotB 0) (.const (.int (1))))) [.asg (.slot 11) (.ite (.o2 .le (.slotB 13) (.slotB 10)) (.call i_law_owed [.e (.slot 0), .e (.slot 9), .e (.slot 12)]) (.slot 11))], .app 8 (.slot 11)], .asg (.slot 15) (.slice (.o1 .sorted (.slotB 8)) (.const .non) (.o2 .max (.const (.int (0))) (.o2 .sub (.o1 .len (.slotB 8)) (.slotB 2)))), .app 6 (.o2 .add (.o2 .sub (.o2 .idx (.slotB 0) (.const (.int (3)))) (.call i_law_spent [.e (.slot 0), .e (.slot 1)])) (.o1 .sum (.slotB 15)))], .ret (.o1 .min (.slotB 6))]
def fn_law_margin : Fn := ⟨false, 2, 0, 16, b_law_margin⟩
def b_law_least : List Stm := [.ret (.o1 .min (.comp [1] (.slot 1) (.seq (.o2 .add (.lst [(.const (.int (0)))]) (.comp [1, 2] (.tup [(.slot 1), (.slot 2)]) (.seq (.o2 .idx (.slotB 0) (.const (.int (2))))) [] (.slot 1)))) [] (.call i_law_margin [.e (.slot 0), .e (.slot 1)])))]
def fn_law_least : Fn := ⟨false, 1, 0, 3, b_law_least⟩
def b_law_right : List Stm := [.par [1, 2] [(.call i_law_of [.e (.slotP 0), .e (.lst [(.tup [(.const (.int (12))), (.const (.int (8))), (.const (.int (4)))]), (.tup [(.const (.int (3))), (.const (.int (2))), (.const (.int (2)))]), (.tup [(.const (.int (6))), (.const (.int (4))), (.const (.int (3)))])])]), (.call i_law_of [.e (.slotP 0), .e (.lst [(.const (.int (9))), (.const (.int (1000))), (.o2 .pow (.const (.int (10))) (.const (.int (6))))])])], .asg (.slot 3) (.call i_law_bounds [.e (.slotP 0), .e (.call i_law_plan [.e (.slotP 0), .e (.slot 1), .e (.slot 2)]), .e (.call i_law_of [.e (.slotP 0), .e (.lst [(.tup [(.const (.int (6))), (.const (.int (9))), (.const (.int (3))), (.const (.int (9)))]), (.tup [(.const (.int (2))), (.const (.int (1))), (.const (.int (1))), (.const (.int (2)))]), (.tup [(.const (.int (1))), (.const (.int (0))), (.const (.int (2))), (.const (.int (3)))])])])]), .asg (.tup [(.slot 4), (.slot 5), (.slot 6), (.slot 7)]) (.o2 .idx (.slotB 3) (.const (.int (4)))), .asg (.slot 8) (.o2 .sub (.o2 .sub (.o2 .idx (.slotB 3) (.const (.int (3)))) (.call i_law_least [.e (.slot 3)])) (.call i_law_of [.e (.slotP 0), .e (.lst [(.const (.int (0))), (.const (.int (1))), (.o1 .neg (.const (.int (3)))), (.const (.int (9))), (.const (.int (400)))])])), .asg (.slot 3) (.o2 .add (.o2 .add (.slice (.slotB 3) (.const .non) (.const (.int (3)))) (.tup [(.o2 .max (.const (.int (0))) (.o2 .min (.o2 .pow (.const (.int (10))) (.const (.int (7)))) (.slotB 8)))])) (.slice (.slotB 3) (.const (.int (4))) (.const .non))), .asg (.slot 9) (.new 0 [.e (.o2 .idx (.slotB 3) (.const (.int (0)))), .e (.o2 .idx (.slotB 3) (.const (.int (1)))), .e (.o2 .idx (.slotB 3) (.const (.int (2)))), .e (.o2 .idx (.slotB 3) (.const (.int (3)))), .e (.o2 .idx (.slotB 3) (.const (.int (4))))]), .asg (.slot 10) (.comp [11] (.slot 11) (.range [(.const (.int (7)))]) [(.o2 .ge (.call i_law_least [.e (.o2 .add (.slice (.slotB 3) (.const .non) (.const (.int (4)))) (.tup [(.tup [(.slot 11), (.slot 5), (.slot 6), (.slot 7)])]))]) (.const (.int (0))))] (.slot 11)), .asg (.slot 12) (.comp [11] (.slot 11) (.range [(.const (.int (4)))]) [(.o2 .ge (.call i_law_least [.e (.o2 .add (.slice (.slotB 3) (.const .non) (.const (.int (4)))) (.tup [(.tup [(.slot 4), (.slot 5), (.slot 11), (.slot 7)])]))]) (.const (.int (0))))] (.slot 11)), .asg (.slot 13) (.o2 .max (.const (.int (0))) (.o2 .sub (.o2 .idx (.slotB 3) (.const (.int (3)))) (.call i_law_least [.e (.slot 3)]))), .asg (.slot 14) (.lst [(.ite (.o2 .ne (.slotB 10) (.lst [])) (.o2 .idx (.slotB 10) (.o1 .neg (.const (.int (1))))) (.const .non)), (.ite (.o2 .ne (.slotB 12) (.lst [])) (.o2 .idx (.slotB 12) (.o1 .neg (.const (.int (1))))) (.const .non)), (.slot 13)]), .asg (.slot 15) (.lst [(.call i_bears_fails [.e (.slot 9)]), (.call i_bears_slow [.e (.slot 9)]), (.call i_least_reserve [.e (.slot 9)])]), .asg (.slot 16) (.lst [(.call i_bears_fails [.e (.slot 9)]), (.call i_bears_slow [.e (.slot 9)]), (.call i_least_reserve [.e (.slot 9)])]), .ite (.o2 .ne (.o1 .repr (.lst [(.slot 15), (.slot 16)])) (.o1 .repr (.lst [(.slot 14), (.slot 14)]))) [.ret (.const (.bl false))] [], .ite (.o2 .le (.slotB 13) (.o2 .pow (.const (.int (10))) (.const (.int (7))))) [.ite (.o2 .isnot (.call i_is_borne [.e (.new 0 [.e (.o2 .idx (.slotB 3) (.const (.int (0)))), .e (.o2 .idx (.slotB 3) (.const (.int (1)))), .e (.o2 .idx (.slotB 3) (.const (.int (2)))), .e (.slot 13), .e (.o2 .idx (.slotB 3) (.const (.int (4))))])]) (.const (.bl true))) [.ret (.const (.bl false))] [], .ite (.and (.o2 .gt (.slotB 13) (.const (.int (0)))) (.o2 .isnot (.call i_is_borne [.e (.new 0 [.e (.o2 .idx (.slotB 3) (.const (.int (0)))), .e (.o2 .idx (.slotB 3) (.const (.int (1)))), .e (.o2 .idx (.slotB 3) (.const (.int (2)))), .e (.o2 .sub (.slotB 13) (.const (.int (1)))), .e (.o2 .idx (.slotB 3) (.const (.int (4))))])]) (.const (.bl false)))) [.ret (.const (.bl false))] []] [], .ret (.const (.bl true))]
def fn_law_right : Fn := ⟨false, 1, 0, 17, b_law_right⟩
def b_law : List Stm := [.ret (.o1 .all (.comp [1] (.slot 1) (.range [(.o2 .max (.const (.int (1))) (.o2 .min (.o1 .len (.slotB 0)) (.const (.int (2)))))]) [] (.call i_law_right [.e (.prom (.call i_law_urn [.e (.slot 0), .e (.slot 1)]))])))]
def fn_law : Fn := ⟨false, 1, 0, 2, b_law⟩
def b_Calls_init : List Stm := [.expr (.call i_check_payers [.e (.slot 1)]), .expr (.call i_check_calls [.e (.slot 2)]), .expr (.call i_check_outlays [.e (.slot 3)]), .expr (.call i_check_number [.e (.slot 4), .e (.const (.int (0))), .e (.const (.int (10000000)))]), .ite (.not (.call i_are_bounds [.e (.slot 5)])) [.never] [], .asg (.slot 6) (.o1 .sum (.comp [7, 8] (.tup [(.slot 7), (.slot 8)]) (.seq (.slot 2)) [] (.slot 8))), .ite (.o2 .ne (.slotB 6) (.const (.int (1000)))) [.never] [], .asg (.attr 0 "told") (.tup [(.slot 1), (.slot 2), (.slot 3), (.slot 4), (.slot 5)])]
def fn_Calls_init : Fn := ⟨true, 6, 0, 9, b_Calls_init⟩
def b_Calls_payers : List Stm := [.ret (.o2 .idx (.attr (.slotB 0) "told") (.const (.int (0))))]
def fn_Calls_payers : Fn := ⟨false, 1, 0, 1, b_Calls_payers⟩
def b_Calls_calls : List Stm := [.ret (.o2 .idx (.attr (.slotB 0) "told") (.const (.int (1))))]
def fn_Calls_calls : Fn := ⟨false, 1, 0, 1, b_Calls_calls⟩
def b_Calls_outlays : List Stm := [.ret (.o2 .idx (.attr (.slotB 0) "told") (.const (.int (2))))]
def fn_Calls_outlays : Fn := ⟨false, 1, 0, 1, b_Calls_outlays⟩
def b_Calls_reserve : List Stm := [.ret (.o2 .idx (.attr (.slotB 0) "told") (.const (.int (3))))]
def fn_Calls_reserve : Fn := ⟨false, 1, 0, 1, b_Calls_reserve⟩
def b_Calls_bounds : List Stm := [.ret (.o2 .idx (.attr (.slotB 0) "told") (.const (.int (4))))]
def fn_Calls_bounds : Fn := ⟨false, 1, 0, 1, b_Calls_bounds⟩

/-- a program that has these defs -/
structure Has (P : Prog) : Prop where
  f_part_up_to : P.fns[i_part_up_to]? = some fn_part_up_to
  f_owed_of : P.fns[i_owed_of]? = some fn_owed_of
  f_last_by : P.fns[i_last_by]? = some fn_last_by
  f_outlays_by : P.fns[i_outlays_by]? = some fn_outlays_by
  f_offices_of : P.fns[i_offices_of]? = some fn_offices_of
  f_slow_sets : P.fns[i_slow_sets]? = some fn_slow_sets
  f_wait_of : P.fns[i_wait_of]? = some fn_wait_of
  f_last_day_of : P.fns[i_last_day_of]? = some fn_last_day_of
  f_left_by : P.fns[i_left_by]? = some fn_left_by
  f_is_whole : P.fns[i_is_whole]? = some fn_is_whole
  f_is_number : P.fns[i_is_number]? = some fn_is_number
  f_check_number : P.fns[i_check_number]? = some fn_check_number
  f_is_tuple_of : P.fns[i_is_tuple_of]? = some fn_is_tuple_of
  f_wrong_at : P.fns[i_wrong_at]? = some fn_wrong_at
  f_wrong_from_one : P.fns[i_wrong_from_one]? = some fn_wrong_from_one
  f_is_letters : P.fns[i_is_letters]? = some fn_is_letters
  f_is_name : P.fns[i_is_name]? = some fn_is_name
  f_is_payer : P.fns[i_is_payer]? = some fn_is_payer
  f_is_call : P.fns[i_is_call]? = some fn_is_call
  f_is_outlay : P.fns[i_is_outlay]? = some fn_is_outlay
  f_are_bounds : P.fns[i_are_bounds]? = some fn_are_bounds
  f_check_payers : P.fns[i_check_payers]? = some fn_check_payers
  f_check_calls : P.fns[i_check_calls]? = some fn_check_calls
  f_check_outlays : P.fns[i_check_outlays]? = some fn_check_outlays
  f_check_plan : P.fns[i_check_plan]? = some fn_check_plan
  f_with_bounds : P.fns[i_with_bounds]? = some fn_with_bounds
  f_surely_come : P.fns[i_surely_come]? = some fn_surely_come
  f_least_come : P.fns[i_least_come]? = some fn_least_come
  f_margin_by : P.fns[i_margin_by]? = some fn_margin_by
  f_least_by : P.fns[i_least_by]? = some fn_least_by
  f_least_margin : P.fns[i_least_margin]? = some fn_least_margin
  f_is_borne : P.fns[i_is_borne]? = some fn_is_borne
  f_greatest_with : P.fns[i_greatest_with]? = some fn_greatest_with
  f_bears_fails : P.fns[i_bears_fails]? = some fn_bears_fails
  f_bears_slow : P.fns[i_bears_slow]? = some fn_bears_slow
  f_least_reserve : P.fns[i_least_reserve]? = some fn_least_reserve
  f_law_urn : P.fns[i_law_urn]? = some fn_law_urn
  f_law_take : P.fns[i_law_take]? = some fn_law_take
  f_law_of : P.fns[i_law_of]? = some fn_law_of
  f_law_names : P.fns[i_law_names]? = some fn_law_names
  f_law_plan : P.fns[i_law_plan]? = some fn_law_plan
  f_law_bounds : P.fns[i_law_bounds]? = some fn_law_bounds
  f_law_owed : P.fns[i_law_owed]? = some fn_law_owed
  f_law_spent : P.fns[i_law_spent]? = some fn_law_spent
  f_law_sets : P.fns[i_law_sets]? = some fn_law_sets
  f_law_offices : P.fns[i_law_offices]? = some fn_law_offices
  f_law_margin : P.fns[i_law_margin]? = some fn_law_margin
  f_law_least : P.fns[i_law_least]? = some fn_law_least
  f_law_right : P.fns[i_law_right]? = some fn_law_right
  f_law : P.fns[i_law]? = some fn_law
  f_Calls_init : P.fns[i_Calls_init]? = some fn_Calls_init
  f_Calls_payers : P.fns[i_Calls_payers]? = some fn_Calls_payers
  f_Calls_calls : P.fns[i_Calls_calls]? = some fn_Calls_calls
  f_Calls_outlays : P.fns[i_Calls_outlays]? = some fn_Calls_outlays
  f_Calls_reserve : P.fns[i_Calls_reserve]? = some fn_Calls_reserve
  f_Calls_bounds : P.fns[i_Calls_bounds]? = some fn_Calls_bounds
  p_payers : P.prop 0 "payers" = some i_Calls_payers
  p_calls : P.prop 0 "calls" = some i_Calls_calls
  p_outlays : P.prop 0 "outlays" = some i_Calls_outlays
  p_reserve : P.prop 0 "reserve" = some i_Calls_reserve
  p_bounds : P.prop 0 "bounds" = some i_Calls_bounds
  p_told : P.prop 0 "told" = none
  ini : P.init 0 = some i_Calls_init
end Pv
end

section
set_option Elab.async false
set_option linter.all false
set_option maxRecDepth 100000
/-! K1: plans of calls: what the program's small defs come to. -/
namespace Pv
open PySem
abbrev Pay := Str × Str × Int
def payD (p : Pay) : D := .tup [.str p.1, .str p.2.1, .int p.2.2]
def prD (c : Int × Int) : D := .tup [.int c.1, .int c.2]
abbrev prsD (cs : List (Int × Int)) : D := .tup (cs.map prD)
structure Pl where
  pays : List Pay
  calls : List (Int × Int)
  outl : List (Int × Int)
  res : Int
  fl : Int
  lt : Int
  sl : Int
  wt : Int
abbrev bndD (f l s w : Int) : D := .tup [.int f, .int l, .int s, .int w]
abbrev Pl.parts (p : Pl) : D := .tup [.tup (p.pays.map payD), prsD p.calls, prsD p.outl, .int p.res, bndD p.fl p.lt p.sl p.wt]
abbrev Pl.obj (p : Pl) : D := .obj 0 [("told", p.parts)]
/-! ### plain -/
def partUp (cs : List (Int × Int)) (i : Int) : Int := ((cut cs none (some (i + 1))).map (·.2)).sum
def owed (due : Int) (cs : List (Int × Int)) (i : Int) : Int := (due * partUp cs i).fdiv 1000
def lastBy (cs : List (Int × Int)) (day : Int) : Int := ((cs.filter fun c => decide (c.1 ≤ day)).length : Int) - 1
def spent (os : List (Int × Int)) (day : Int) : Int := ((os.filter fun c => decide (c.1 ≤ day)).map (·.2)).sum
def offs (ps : List Pay) : List Str := sortS (firsts [] (ps.map (·.2.1)))
def strsD (ss : List Str) : D := .tup (ss.map .str)
def grow (sl : Int) (found : List (List Str)) (o : Str) : List (List Str) := found ++ (found.filter fun s => decide ((s.length : Int) < sl)).map fun s => s ++ [o]
def slowSets (ps : List Pay) (sl : Int) : List (List Str) := (offs ps).foldl (grow sl) [[]]
def waitOf (p : Pl) (o : Str) (slow : List Str) : Int := p.lt + (if o ∈ slow then p.wt else 0)
def leftBy (ns : List Int) (fails : Int) : Int := (cut (sortI ns) none (some (if (ns.length : Int) - fails > 0 then (ns.length : Int) - fails else 0))).sum
def come (p : Pl) (day : Int) (slow : List Str) : List Int := p.pays.map fun q => owed q.2.2 p.calls (lastBy p.calls (day - waitOf p q.2.1 slow))
def told : Str := "told"
/-- a plan's numbers -/
structure Pl.Sm (p : Pl) : Prop where
  np : p.pays.length < 60
  nc : p.calls.length < 60
  no : p.outl.length < 60
  due : ∀ q ∈ p.pays, big q.2.2 = true
  of4 : (offs p.pays).length ≤ 4
  c0 : p.calls ≠ []
theorem LINE_big : 100000 ≤ LINE := le_line (by decide)
theorem grow_len (sl : Int) (b : List (List Str)) (o : Str) : (grow sl b o).length ≤ 2 * b.length := by
  unfold grow
  rw [List.length_append, List.length_map]
  have := List.length_filter_le (fun s : List Str => decide ((s.length : Int) < sl)) b
  omega
theorem grows_len (sl : Int) : ∀ (os : List Str) (b : List (List Str)), (os.foldl (grow sl) b).length ≤ 2 ^ os.length * b.length
  | [], b => by simp
  | o :: os, b => by
    have h1 := grows_len sl os (grow sl b o)
    have h2 := grow_len sl b o
    rw [List.foldl_cons, List.length_cons, Nat.pow_succ]
    calc _ ≤ 2 ^ os.length * (grow sl b o).length := h1
      _ ≤ 2 ^ os.length * (2 * b.length) := Nat.mul_le_mul_left _ h2
      _ = _ := by rw [Nat.mul_assoc]
theorem grow_mem {sl : Int} : ∀ {os : List Str} {b : List (List Str)} {q : List Str} {k : Nat}, (∀ r ∈ b, r.length ≤ k) → q ∈ os.foldl (grow sl) b → q.length ≤ k + os.length
  | [], b, q, k, hb, hq => by simpa using hb q hq
  | o :: os, b, q, k, hb, hq => by
    have := grow_mem (sl := sl) (os := os) (b := grow sl b o) (q := q) (k := k + 1) (fun r hr => by
      unfold grow at hr
      rcases List.mem_append.mp hr with h | h
      · have := hb r h; omega
      · obtain ⟨r', h1, rfl⟩ := List.mem_map.mp h
        have := hb r' (List.mem_filter.mp h1).1
        simp; omega) hq
    simp only [List.length_cons]; omega
section
variable {P : Prog} {rp : D → Option Str}
theorem look_told {x : D} : List.lookup ("told" : Str) [(("told" : Str), x)] = some x := by
  rw [List.lookup_cons]; simp
variable (hp : Has P)
include hp
theorem part_up_to_ok {n : Nat} {cs : List (Int × Int)} {i : Int} {m : List Ob} (hl : cs.length ≤ LINE) :
    evFn P rp (n + 2) i_part_up_to [] [.d (prsD cs), .d (.int i)] m = .ok (.d (.int (partUp cs i))) ⟨[], m⟩ := by
  rw [evFn_eq hp.f_part_up_to]
  refine run_ret rfl rfl rfl ?_
  simp only [fn_part_up_to, b_part_up_to]
  simp! []
  rw [comp_val (xs := cut cs none (some (i + 1))) (dOf := prD) (fm := fun c => some (.int c.2)) (by simp! [cut_map]) rfl (fun a _ => ⟨[.val (prsD cs), .val (.int i), .val (.int a.1), .val (.int a.2)], by ac_rfl, by simp! [prD]⟩) (Nat.le_trans (cut_len _ _ _) hl)]
  simp! [fm_map, intsOf_map, partUp]
theorem owed_of_ok {n : Nat} {cs : List (Int × Int)} {due i : Int} {m : List Ob} (hl : cs.length ≤ LINE) (hd : big due = true) :
    evFn P rp (n + 3) i_owed_of [] [.d (.int due), .d (prsD cs), .d (.int i)] m = .ok (.d (.int (owed due cs i))) ⟨[], m⟩ := by
  rw [evFn_eq hp.f_owed_of]
  refine run_ret rfl rfl rfl ?_
  simp only [fn_owed_of, b_owed_of]
  simp! [part_up_to_ok hp hl, hd, Bool.true_or]
  rfl
theorem last_by_ok {n : Nat} {cs : List (Int × Int)} {day : Int} {m : List Ob} (hl : cs.length ≤ LINE) :
    evFn P rp (n + 2) i_last_by [] [.d (prsD cs), .d (.int day)] m = .ok (.d (.int (lastBy cs day))) ⟨[], m⟩ := by
  rw [evFn_eq hp.f_last_by]
  refine run_ret rfl rfl rfl ?_
  simp only [fn_last_by, b_last_by]
  simp! []
  rw [comp_val (xs := cs) (dOf := prD) (fm := fun c => if decide (c.1 ≤ day) then some (prD c) else none) (by simp! []) rfl (fun a _ => ⟨[.val (prsD cs), .val (.int day), .val (prD a)], by ac_rfl, by
    simp! [prD]
    by_cases h : a.1 ≤ day <;> simp! [h, decide_true, decide_false]⟩) hl]
  simp! [fm_if, lastBy, List.length_map]
/-! getters -/
theorem g_payers {n : Nat} {p : Pl} {m : List Ob} : evFn P rp (n + 2) i_Calls_payers [] [.d p.obj] m = .ok (.d (.tup (p.pays.map payD))) ⟨[], m⟩ := by
  rw [evFn_eq hp.f_Calls_payers]
  refine run_ret rfl rfl rfl ?_
  simp only [fn_Calls_payers, b_Calls_payers]
  simp! [hp.p_told, look_told]
theorem g_calls {n : Nat} {p : Pl} {m : List Ob} : evFn P rp (n + 2) i_Calls_calls [] [.d p.obj] m = .ok (.d (prsD p.calls)) ⟨[], m⟩ := by
  rw [evFn_eq hp.f_Calls_calls]
  refine run_ret rfl rfl rfl ?_
  simp only [fn_Calls_calls, b_Calls_calls]
  simp! [hp.p_told, look_told]
theorem g_outlays {n : Nat} {p : Pl} {m : List Ob} : evFn P rp (n + 2) i_Calls_outlays [] [.d p.obj] m = .ok (.d (prsD p.outl)) ⟨[], m⟩ := by
  rw [evFn_eq hp.f_Calls_outlays]
  refine run_ret rfl rfl rfl ?_
  simp only [fn_Calls_outlays, b_Calls_outlays]
  simp! [hp.p_told, look_told]
theorem g_reserve {n : Nat} {p : Pl} {m : List Ob} : evFn P rp (n + 2) i_Calls_reserve [] [.d p.obj] m = .ok (.d (.int p.res)) ⟨[], m⟩ := by
  rw [evFn_eq hp.f_Calls_reserve]
  refine run_ret rfl rfl rfl ?_
  simp only [fn_Calls_reserve, b_Calls_reserve]
  simp! [hp.p_told, look_told]
theorem g_bounds {n : Nat} {p : Pl} {m : List Ob} : evFn P rp (n + 2) i_Calls_bounds [] [.d p.obj] m = .ok (.d (bndD p.fl p.lt p.sl p.wt)) ⟨[], m⟩ := by
  rw [evFn_eq hp.f_Calls_bounds]
  refine run_ret rfl rfl rfl ?_
  simp only [fn_Calls_bounds, b_Calls_bounds]
  simp! [hp.p_told, look_told]
theorem outlays_by_ok {n : Nat} {p : Pl} {day : Int} {m : List Ob} (hs : p.Sm) : evFn P rp (n + 4) i_outlays_by [] [.d p.obj, .d (.int day)] m = .ok (.d (.int (spent p.outl day))) ⟨[], m⟩ := by
  rw [evFn_eq hp.f_outlays_by]
  refine run_ret rfl rfl rfl ?_
  simp only [fn_outlays_by, b_outlays_by]
  simp! []
  rw [comp_val (xs := p.outl) (dOf := prD) (fm := fun c => if decide (c.1 ≤ day) then some (.int c.2) else none) (by simp! [hp.p_outlays, g_outlays hp]) rfl (fun a _ => ⟨[.val p.obj, .val (.int day), .val (.int a.1), .val (.int a.2)], by ac_rfl, by
    simp! [prD]
    by_cases h : a.1 ≤ day <;> simp! [h, decide_true, decide_false]⟩) (by have := hs.no; have := LINE_big; omega)]
  simp! [fm_if, intsOf_map, spent]
theorem wait_of_ok {n : Nat} {p : Pl} {o : Str} {slow : List Str} {m : List Ob} : evFn P rp (n + 4) i_wait_of [] [.d p.obj, .d (.str o), .d (strsD slow)] m = .ok (.d (.int (waitOf p o slow))) ⟨[], m⟩ := by
  rw [evFn_eq hp.f_wait_of]
  refine run_ret rfl rfl rfl ?_
  simp only [fn_wait_of, b_wait_of]
  simp! [hp.p_bounds, g_bounds hp, strsD, inD_str, waitOf]
  by_cases h : o ∈ slow <;> simp! [h, decide_true, decide_false, hp.p_bounds, g_bounds hp]
theorem left_by_ok {n : Nat} {ns : List Int} {f : Int} {m : List Ob} : evFn P rp (n + 2) i_left_by [] [.d (.lst (ns.map .int)), .d (.int f)] m = .ok (.d (.int (leftBy ns f))) ⟨[], m⟩ := by
  rw [evFn_eq hp.f_left_by]
  refine run_ret rfl rfl rfl ?_
  simp only [fn_left_by, b_left_by]
  simp! [intsOf_int, List.length_map, cut_map, leftBy, gt_iff_lt]
theorem offices_of_ok {n : Nat} {p : Pl} {m : List Ob} (hs : p.Sm) : evFn P rp (n + 4) i_offices_of [] [.d p.obj] m = .ok (.d (strsD (offs p.pays))) ⟨[], m⟩ := by
  rw [evFn_eq hp.f_offices_of]
  refine run_ret rfl rfl rfl ?_
  simp only [fn_offices_of, b_offices_of]
  simp! []
  rw [dcomp_val (xs := p.pays) (dOf := payD) (fk := fun q => q.2.1) (fv := fun _ => .non) (by simp! [hp.p_payers, g_payers hp]) rfl (fun a _ => ⟨[.val p.obj, .val (.int a.2.2), .val (.str a.2.1)], by ac_rfl, by simp! [payD, turnDV]⟩) (by have := hs.np; have := LINE_big; omega)]
  have hk := foldl_putS_keys (fun q : Pay => q.2.1) (fun _ => D.non) p.pays []
  rw [List.map_nil] at hk
  have hl : (firsts [] (p.pays.map fun q => q.2.1)).length < 64 := by
    have := hs.np
    rw [← hk, List.length_map]
    have : ∀ (xs : List Pay) (acc : List (Str × D)), (xs.foldl (fun ks a => putS ks a.2.1 .non) acc).length ≤ acc.length + xs.length := by
      intro xs
      induction xs with
      | nil => intro acc; simp
      | cons x xs ih =>
        intro acc
        have h1 := ih (putS acc x.2.1 .non)
        have h2 := putS_len acc x.2.1 .non
        simp only [List.foldl_cons, List.length_cons]
        omega
    have := this p.pays []
    simp at this
    omega
  have e : ((p.pays.foldl (fun ks a => putS ks a.2.1 .non) []).map fun q : Str × D => ((D.str q.1, q.2) : D × D)).map (·.1) = (firsts [] (p.pays.map fun q => q.2.1)).map .str := by
    rw [← hk, List.map_map, List.map_map]; rfl
  simp! [e, strsOf_str, hl, offs, strsD]
theorem slow_sets_ok {n : Nat} {p : Pl} {m : List Ob} (hs : p.Sm) : evFn P rp (n + 5) i_slow_sets [] [.d p.obj] m = .ok (.f (.lst ((slowSets p.pays p.sl).map strsD))) ⟨[], m⟩ := by
  rw [evFn_eq hp.f_slow_sets]
  refine run_ret rfl rfl rfl ?_
  simp only [fn_slow_sets, b_slow_sets]
  have L1 : (0 + 1 : Nat) ≤ LINE := le_line (by decide)
  have hL := LINE_big
  refine step_nx (K := fun o => outR o = _) (s1 := ⟨[.val p.obj, .own (.lst ([[]].map strsD)), .no, .no], m⟩) (by simp_arith [L1]; rfl) ?_
  refine step_for (K := fun o => outR o = _) (xs := offs p.pays) (dOf := D.str) (s1 := ⟨[.val p.obj, .own (.lst ([[]].map strsD)), .no, .no], m⟩) (fun pre s => ∃ x, s = ⟨[.val p.obj, .own (.lst ((pre.foldl (grow p.sl) [[]]).map strsD)), x, .no], m⟩) (by simp_arith [offices_of_ok hp hs, strsD]) ?_ ⟨.no, rfl⟩ ?_
  · rintro pre a post _ e0 ⟨x, rfl⟩
    have h2 : pre.length ≤ 4 := by
      have := hs.of4
      rw [e0, List.length_append, List.length_cons] at this
      omega
    have hb : (pre.foldl (grow p.sl) [[]]).length ≤ 16 := by
      have h1 := grows_len p.sl pre [[]]
      have h3 : 2 ^ pre.length ≤ 2 ^ 4 := Nat.pow_le_pow_right (by decide) h2
      simp at h1
      omega
    refine ⟨⟨[.val p.obj, .own (.lst (((pre ++ [a]).foldl (grow p.sl) [[]]).map strsD)), .val (.str a), .no], m⟩, ?_, .val (.str a), rfl⟩
    simp_arith [exs_cons]
    rw [comp_valS (s := ⟨[.val p.obj, .val (.lst ((pre.foldl (grow p.sl) [[]]).map strsD)), .val (.str a), .no], m⟩) (xs := pre.foldl (grow p.sl) [[]]) (dOf := strsD) (fm := fun q => if decide ((q.length : Int) < p.sl) then some (strsD (q ++ [a])) else none) (by simp_arith []) rfl (fun q hq => ⟨[.val p.obj, .val (.lst ((pre.foldl (grow p.sl) [[]]).map strsD)), .val (.str a), .val (strsD q)], by ac_rfl, by
        have hq2 : 0 + 1 + q.length ≤ LINE := by
          have := grow_mem (k := 0) (fun r hr => by simp at hr; subst hr; exact Nat.le_refl _) hq
          omega
        simp_arith [strsD, List.length_map, hp.p_bounds, g_bounds hp]
        by_cases h : (q.length : Int) < p.sl <;> simp_arith [h, decide_true, decide_false, List.length_map, hq2, List.map_append]⟩) (by omega)]
    have hc : (pre.foldl (grow p.sl) [[]]).length + ((pre.foldl (grow p.sl) [[]]).filter fun s : List Str => decide ((s.length : Int) < p.sl)).length ≤ LINE := by
      have := List.length_filter_le (fun s : List Str => decide ((s.length : Int) < p.sl)) (pre.foldl (grow p.sl) [[]])
      omega
    simp_arith [fm_if, List.length_map, hc, List.foldl_append, List.foldl_cons, List.foldl_nil, grow, List.map_append, List.map_map]
    rfl
  · rintro _ ⟨x, rfl⟩
    simp_arith [exs_cons]
    rfl
end
end Pv
end

section
set_option Elab.async false
set_option linter.all false
set_option maxRecDepth 100000
/-! K2: margins. -/
namespace Pv
open PySem
/-! ### the least of some -/
def bst {β : Type} (f : β → Int) (acc : Option (Int × β)) (x : β) : Option (Int × β) := match acc with
  | none => some (f x, x)
  | some (c, y) => if f x < c then some (f x, x) else some (c, y)
def bestOf {β : Type} (f : β → Int) (xs : List β) : Option (Int × β) := xs.foldl (bst f) none
def bestD {β : Type} (g : β → D) : Option (Int × β) → D
  | none => .non
  | some (c, y) => .tup [.int c, g y]
theorem bst_some {β : Type} (f : β → Int) : ∀ (xs : List β) (c : Int) (y : β), ∃ c' y', xs.foldl (bst f) (some (c, y)) = some (c', y')
  | [], c, y => ⟨c, y, rfl⟩
  | x :: xs, c, y => by
    rw [List.foldl_cons]
    unfold bst
    by_cases h : f x < c
    · simp only [h, if_true]; exact bst_some f xs _ _
    · simp only [h, if_false]; exact bst_some f xs _ _
theorem bestOf_some {β : Type} (f : β → Int) {xs : List β} (h : xs ≠ []) : ∃ c y, bestOf f xs = some (c, y) := by
  cases xs with
  | nil => exact (h rfl).elim
  | cons x xs => exact bst_some f xs (f x) x
theorem intsOf_cons {i : Int} {r : List D} : intsOf (.int i :: r) = (intsOf r).map (i :: ·) := rfl
def lastDay (p : Pl) : Int := maxI (((p.calls.getLast?).getD (0, 0)).1 + p.lt + p.wt) (p.outl.map (·.1))
def comeBest (p : Pl) (day : Int) : Option (Int × List Str) := bestOf (fun s => leftBy (come p day s) p.fl) (slowSets p.pays p.sl)
def comeMin (p : Pl) (day : Int) : Int := ((comeBest p day).getD (0, [])).1
def margin (p : Pl) (day : Int) : Int := p.res - spent p.outl day + comeMin p day
def days (p : Pl) : List Nat := List.range (lastDay p + 1).toNat
def leastBest (p : Pl) : Option (Int × Nat) := bestOf (fun d : Nat => margin p d) (days p)
def least (p : Pl) : Int := ((leastBest p).getD (0, 0)).1
theorem grows_ne (sl : Int) : ∀ (os : List Str) (b : List (List Str)), b ≠ [] → os.foldl (grow sl) b ≠ []
  | [], b, h => h
  | o :: os, b, h => grows_ne sl os (grow sl b o) (by unfold grow; intro z; exact h (List.append_eq_nil_iff.mp z).1)
theorem slow_ne (ps : List Pay) (sl : Int) : slowSets ps sl ≠ [] := grows_ne sl _ _ (by simp)
theorem idx_last {cs : List (Int × Int)} (h : cs ≠ []) : op2 .idx (prsD cs) (.int (-1)) = some (.d (prD ((cs.getLast?).getD (0, 0)))) := by
  obtain ⟨init, c, rfl⟩ : ∃ init c, cs = init ++ [c] := ⟨cs.dropLast, cs.getLast h, (List.dropLast_concat_getLast h).symm⟩
  rw [prsD, List.map_append]
  have := iLastT (xs := init.map prD) (x := prD c)
  simpa using this
/-- days are near -/
structure Pl.Nr (p : Pl) : Prop where
  lo : 0 ≤ lastDay p
  hi : lastDay p < 1000
section
variable {P : Prog} {rp : D → Option Str}
variable (hp : Has P)
include hp
theorem surely_come_ok {n : Nat} {p : Pl} {day : Int} {slow : List Str} {m : List Ob} (hs : p.Sm) : evFn P rp (n + 5) i_surely_come [] [.d p.obj, .d (.int day), .d (strsD slow)] m = .ok (.f (.lst ((come p day slow).map .int))) ⟨[], m⟩ := by
  rw [evFn_eq hp.f_surely_come]
  refine run_ret rfl rfl rfl ?_
  simp only [fn_surely_come, b_surely_come]
  have hL := LINE_big
  have L0 : (0 : Nat) ≤ LINE := le_line (by decide)
  have hn := hs.np
  have hc : p.calls.length ≤ LINE := by have := hs.nc; omega
  refine step_nx (K := fun o => outR o = _) (s1 := ⟨[.val p.obj, .val (.int day), .val (strsD slow), .own (.lst []), .no, .no, .no], m⟩) (by simp_arith [L0]) ?_
  refine step_for (K := fun o => outR o = _) (xs := p.pays) (dOf := payD) (s1 := ⟨[.val p.obj, .val (.int day), .val (strsD slow), .own (.lst []), .no, .no, .no], m⟩)
    (fun pre s => ∃ x y z, s = ⟨[.val p.obj, .val (.int day), .val (strsD slow), .own (.lst ((pre.map fun q => owed q.2.2 p.calls (lastBy p.calls (day - waitOf p q.2.1 slow))).map .int)), x, y, z], m⟩) (by simp_arith [hp.p_payers, g_payers hp]) ?_ ⟨.no, .no, .no, rfl⟩ ?_
  · rintro pre a post _ e0 ⟨x, y, z, rfl⟩
    have ha : big a.2.2 = true := hs.due a (by rw [e0]; simp)
    have hl : pre.length + (0 + 1) ≤ LINE := by
      rw [e0, List.length_append, List.length_cons] at hn
      omega
    refine ⟨⟨[.val p.obj, .val (.int day), .val (strsD slow), .own (.lst (((pre ++ [a]).map fun q => owed q.2.2 p.calls (lastBy p.calls (day - waitOf p q.2.1 slow))).map .int)), .val (.str a.1), .val (.str a.2.1), .val (.int a.2.2)], m⟩, ?_, _, _, _, rfl⟩
    simp_arith [exs_cons, payD, hp.p_calls, g_calls hp, wait_of_ok hp, last_by_ok hp hc, owed_of_ok hp hc ha, List.length_map, hl, List.map_append]
  · rintro _ ⟨x, y, z, rfl⟩
    simp_arith [exs_cons]
    rfl
theorem least_come_ok {n : Nat} {p : Pl} {day : Int} {m : List Ob} (hs : p.Sm) : evFn P rp (n + 6) i_least_come [] [.d p.obj, .d (.int day)] m = .ok (.d (bestD strsD (comeBest p day))) ⟨[], m⟩ := by
  rw [evFn_eq hp.f_least_come]
  refine run_ret rfl rfl rfl ?_
  simp only [fn_least_come, b_least_come]
  refine step_nx (K := fun o => outR o = _) (s1 := ⟨[.val p.obj, .val (.int day), .val .non, .no, .no], m⟩) (by simp_arith []) ?_
  refine step_for (K := fun o => outR o = _) (xs := slowSets p.pays p.sl) (dOf := strsD) (s1 := ⟨[.val p.obj, .val (.int day), .val .non, .no, .no], m⟩)
    (fun pre s => ∃ x y, s = ⟨[.val p.obj, .val (.int day), .val (bestD strsD (bestOf (fun s => leftBy (come p day s) p.fl) pre)), x, y], m⟩) (by simp_arith [slow_sets_ok hp hs]) ?_ ⟨.no, .no, rfl⟩ ?_
  · rintro pre a post _ e0 ⟨x, y, rfl⟩
    have L2 : 0 + 1 + 1 ≤ LINE := le_line (by decide)
    refine ⟨⟨[.val p.obj, .val (.int day), .val (bestD strsD (bestOf (fun s => leftBy (come p day s) p.fl) (pre ++ [a]))), .val (strsD a), .val (.int (leftBy (come p day a) p.fl))], m⟩, ?_, _, _, rfl⟩
    have eb : bestOf (fun s => leftBy (come p day s) p.fl) (pre ++ [a]) = bst (fun s => leftBy (come p day s) p.fl) (bestOf (fun s => leftBy (come p day s) p.fl) pre) a := by
      unfold bestOf; rw [List.foldl_append]; rfl
    rw [eb]
    cases q : bestOf (fun s => leftBy (come p day s) p.fl) pre with
    | none => simp_arith [exs_cons, bestD, bst, surely_come_ok hp hs, left_by_ok hp, hp.p_bounds, g_bounds hp, L2]
    | some cy =>
      obtain ⟨c, y'⟩ := cy
      by_cases h : leftBy (come p day a) p.fl < c
      · simp_arith [exs_cons, bestD, bst, surely_come_ok hp hs, left_by_ok hp, hp.p_bounds, g_bounds hp, h, decide_true, L2]
      · simp_arith [exs_cons, bestD, bst, surely_come_ok hp hs, left_by_ok hp, hp.p_bounds, g_bounds hp, h, decide_false]
  · rintro _ ⟨x, y, rfl⟩
    simp_arith [exs_cons]
    rfl
theorem margin_by_ok {n : Nat} {p : Pl} {day : Int} {m : List Ob} (hs : p.Sm) : evFn P rp (n + 7) i_margin_by [] [.d p.obj, .d (.int day)] m = .ok (.d (.int (margin p day))) ⟨[], m⟩ := by
  rw [evFn_eq hp.f_margin_by]
  refine run_ret rfl rfl rfl ?_
  simp only [fn_margin_by, b_margin_by]
  obtain ⟨c, y, e⟩ := bestOf_some (fun s => leftBy (come p day s) p.fl) (slow_ne p.pays p.sl)
  have e' : comeBest p day = some (c, y) := e
  simp_arith [exs_cons, hp.p_reserve, g_reserve hp, outlays_by_ok hp hs, least_come_ok hp hs, e', bestD, margin, comeMin, Option.getD_some]
theorem last_day_of_ok {n : Nat} {p : Pl} {m : List Ob} (hs : p.Sm) : evFn P rp (n + 4) i_last_day_of [] [.d p.obj] m = .ok (.d (.int (lastDay p))) ⟨[], m⟩ := by
  rw [evFn_eq hp.f_last_day_of]
  refine run_ret rfl rfl rfl ?_
  simp only [fn_last_day_of, b_last_day_of]
  have hL := LINE_big
  have hn := hs.no
  have L1 : 0 + 1 ≤ LINE := le_line (by decide)
  have L2 : 0 + 1 + p.outl.length ≤ LINE := by omega
  refine step_nx (K := fun o => outR o = _) (s1 := ⟨[.val p.obj, .val (.int p.sl), .val (.int p.lt), .val (.int p.wt), .no], m⟩) (by simp_arith [hp.p_bounds, g_bounds hp]) ?_
  simp_arith [exs_cons, hp.p_calls, g_calls hp, idx_last hs.c0, prD, L1]
  rw [comp_val (xs := p.outl) (dOf := prD) (fm := fun c => some (.int c.1)) (by simp_arith [hp.p_outlays, g_outlays hp]) rfl (fun a _ => ⟨[.val p.obj, .val (.int a.2), .val (.int p.lt), .val (.int p.wt), .val (.int a.1)], by ac_rfl, by simp_arith [prD]⟩) (by omega)]
  simp_arith [fm_map, List.length_map, L2, intsOf_cons, intsOf_map, lastDay]
theorem least_by_ok {n : Nat} {p : Pl} {m : List Ob} (hs : p.Sm) (hn : p.Nr) : evFn P rp (n + 8) i_least_by [] [.d p.obj] m = .ok (.d (bestD (fun d : Nat => .int d) (leastBest p))) ⟨[], m⟩ := by
  rw [evFn_eq hp.f_least_by]
  refine run_ret rfl rfl rfl ?_
  simp only [fn_least_by, b_least_by]
  have hL := LINE_big
  have h1 := hn.lo
  have h2 := hn.hi
  have hnr : near (lastDay p + 1) = true ∧ lastDay p + 1 ≤ LINE := by
    refine ⟨by unfold near; rw [decide_eq_true_eq]; constructor <;> omega, ?_⟩
    have : (LINE : Int) = 16777216 := by rw [LINE_val]; rfl
    omega
  refine step_nx (K := fun o => outR o = _) (s1 := ⟨[.val p.obj, .val .non, .no, .no], m⟩) (by simp_arith []) ?_
  refine step_for (K := fun o => outR o = _) (xs := days p) (dOf := fun d : Nat => .int d) (s1 := ⟨[.val p.obj, .val .non, .no, .no], m⟩)
    (fun pre s => ∃ x y, s = ⟨[.val p.obj, .val (bestD (fun d : Nat => .int d) (bestOf (fun d : Nat => margin p d) pre)), x, y], m⟩) (by simp_arith [last_day_of_ok hp hs, rangeItems, hnr, and_self, rangeD_eq, days, Int.zero_add]) ?_ ⟨.no, .no, rfl⟩ ?_
  · rintro pre a post _ e0 ⟨x, y, rfl⟩
    have L2 : 0 + 1 + 1 ≤ LINE := le_line (by decide)
    refine ⟨⟨[.val p.obj, .val (bestD (fun d : Nat => .int d) (bestOf (fun d : Nat => margin p d) (pre ++ [a]))), .val (.int a), .val (.int (margin p a))], m⟩, ?_, _, _, rfl⟩
    have eb : bestOf (fun d : Nat => margin p d) (pre ++ [a]) = bst (fun d : Nat => margin p d) (bestOf (fun d : Nat => margin p d) pre) a := by
      unfold bestOf; rw [List.foldl_append]; rfl
    rw [eb]
    cases q : bestOf (fun d : Nat => margin p d) pre with
    | none => simp_arith [exs_cons, bestD, bst, margin_by_ok hp hs, L2]
    | some cy =>
      obtain ⟨c, y'⟩ := cy
      by_cases h : margin p a < c
      · simp_arith [exs_cons, bestD, bst, margin_by_ok hp hs, h, decide_true, L2]
      · simp_arith [exs_cons, bestD, bst, margin_by_ok hp hs, h, decide_false]
  · rintro _ ⟨x, y, rfl⟩
    simp_arith [exs_cons]
    rfl
theorem check_plan_ok {n : Nat} {p : Pl} {m : List Ob} : evFn P rp (n + 2) i_check_plan [] [.d p.obj] m = .ok (.d .non) ⟨[], m⟩ := by
  rw [evFn_eq hp.f_check_plan]
  refine run_ret rfl rfl rfl ?_
  simp only [fn_check_plan, b_check_plan]
  simp_arith [exs_cons]
theorem least_margin_ok {n : Nat} {p : Pl} {m : List Ob} (hs : p.Sm) (hn : p.Nr) : evFn P rp (n + 9) i_least_margin [] [.d p.obj] m = .ok (.d (bestD (fun d : Nat => .int d) (leastBest p))) ⟨[], m⟩ := by
  rw [evFn_eq hp.f_least_margin]
  refine run_ret rfl rfl rfl ?_
  simp only [fn_least_margin, b_least_margin]
  simp_arith [exs_cons, check_plan_ok hp, least_by_ok hp hs hn]
omit hp in
theorem least_some {p : Pl} (hn : p.Nr) : ∃ d, leastBest p = some (least p, d) := by
  have : days p ≠ [] := by
    unfold days
    intro z
    have h := hn.lo
    have := congrArg List.length z
    simp at this
    omega
  obtain ⟨c, d, e⟩ := bestOf_some (fun d : Nat => margin p d) this
  have e : leastBest p = some (c, d) := e
  exact ⟨d, by unfold least; rw [e]; rfl⟩
theorem is_borne_ok {n : Nat} {p : Pl} {m : List Ob} (hs : p.Sm) (hn : p.Nr) : evFn P rp (n + 10) i_is_borne [] [.d p.obj] m = .ok (.d (.bl (decide (0 ≤ least p)))) ⟨[], m⟩ := by
  rw [evFn_eq hp.f_is_borne]
  refine run_ret rfl rfl rfl ?_
  simp only [fn_is_borne, b_is_borne]
  obtain ⟨d, e⟩ := least_some hn
  simp_arith [exs_cons, least_margin_ok hp hs hn, e, bestD]
theorem least_reserve_ok {n : Nat} {p : Pl} {m : List Ob} (hs : p.Sm) (hn : p.Nr) : evFn P rp (n + 10) i_least_reserve [] [.d p.obj] m = .ok (.d (.int (if p.res - least p > 0 then p.res - least p else 0))) ⟨[], m⟩ := by
  rw [evFn_eq hp.f_least_reserve]
  refine run_ret rfl rfl rfl ?_
  simp only [fn_least_reserve, b_least_reserve]
  obtain ⟨d, e⟩ := least_some hn
  simp_arith [exs_cons, least_margin_ok hp hs hn, e, bestD, hp.p_reserve, g_reserve hp]
end
end Pv
end

section
set_option Elab.async false
set_option linter.all false
set_option maxRecDepth 100000
/-! K3: plans are looked at. -/
namespace Pv
open PySem
def lettersL : List Nat := ("abcdefghijklmnopqrstuvwxyz" : Str).cps.toList
def wordsL : List Str := ["all", "any", "back", "cannot", "close", "day", "fixed", "gives", "goal", "hear", "match", "may", "met", "none", "office", "person", "some", "sum", "sure", "terms", "with"]
structure Nm (x : Str) : Prop where
  lo : 1 ≤ x.length
  hi : x.length ≤ 8
  let_ : ∀ c ∈ x.cps.toList, c ∈ lettersL
  nw : x ∉ wordsL
structure Pl.Ok (p : Pl) : Prop where
  p0 : p.pays ≠ []
  np : p.pays.length ≤ 12
  nm : ∀ q ∈ p.pays, Nm q.1 ∧ Nm q.2.1
  due : ∀ q ∈ p.pays, 1 ≤ q.2.2 ∧ q.2.2 ≤ 1000000
  pasc : ∀ pre a b post, p.pays = pre ++ a :: b :: post → ltS a.1 b.1 = true
  dis : ∀ q ∈ p.pays, ∀ r ∈ p.pays, q.1 ≠ r.2.1
  of4 : ∀ k, (firsts [] ((p.pays.take k).map (·.2.1))).length ≤ 4
  c0 : p.calls ≠ []
  nc : p.calls.length ≤ 8
  call : ∀ c ∈ p.calls, 0 ≤ c.1 ∧ c.1 ≤ 60 ∧ 1 ≤ c.2 ∧ c.2 ≤ 1000
  casc : ∀ pre a b post, p.calls = pre ++ a :: b :: post → a.1 < b.1
  no : p.outl.length ≤ 8
  out : ∀ c ∈ p.outl, 0 ≤ c.1 ∧ c.1 ≤ 90 ∧ 1 ≤ c.2 ∧ c.2 ≤ 10000000
  oasc : ∀ pre a b post, p.outl = pre ++ a :: b :: post → a.1 ≤ b.1
  res : 0 ≤ p.res ∧ p.res ≤ 10000000
  bnd : (0 ≤ p.fl ∧ p.fl ≤ 6) ∧ (0 ≤ p.lt ∧ p.lt ≤ 9) ∧ (0 ≤ p.sl ∧ p.sl ≤ 3) ∧ (0 ≤ p.wt ∧ p.wt ≤ 9)
  sum : (p.calls.map (·.2)).sum = 1000
theorem insS_len (x : Str) : ∀ l : List Str, (insS x l).length = l.length + 1
  | [] => rfl
  | y :: r => by
    unfold insS
    split
    · simp [insS_len x r]
    · simp
theorem sortS_len : ∀ l : List Str, (sortS l).length = l.length
  | [] => rfl
  | x :: r => by rw [sortS, insS_len, sortS_len r]; rfl
theorem Pl.Ok.sm {p : Pl} (o : p.Ok) : p.Sm := by
  refine ⟨by have := o.np; omega, by have := o.nc; omega, by have := o.no; omega, fun q hq => ?_, ?_, o.c0⟩
  · have := o.due q hq
    unfold big
    rw [decide_eq_true_eq]
    omega
  · unfold offs
    rw [sortS_len]
    have := o.of4 p.pays.length
    rwa [List.take_length] at this
theorem maxI_ge : ∀ (xs : List Int) (x : Int), x ≤ maxI x xs
  | [], x => Int.le_refl _
  | y :: r, x => by
    unfold maxI
    split
    · have := maxI_ge r y; omega
    · exact maxI_ge r x
theorem maxI_leK : ∀ (xs : List Int) (x b : Int), x ≤ b → (∀ y ∈ xs, y ≤ b) → maxI x xs ≤ b
  | [], x, b, h, _ => h
  | y :: r, x, b, h, hb => by
    unfold maxI
    split
    · exact maxI_leK r y b (hb y (.head _)) fun z hz => hb z (.tail _ hz)
    · exact maxI_leK r x b h fun z hz => hb z (.tail _ hz)
theorem Pl.Ok.nr {p : Pl} (o : p.Ok) : p.Nr := by
  have hc : ∀ c, (p.calls.getLast?).getD (0, 0) = c → 0 ≤ c.1 ∧ c.1 ≤ 60 := by
    intro c hc
    cases q : p.calls.getLast? with
    | none => exact (o.c0 (List.getLast?_eq_none_iff.mp q)).elim
    | some d =>
      rw [q] at hc
      cases hc
      have := o.call d (List.mem_of_getLast? q)
      exact ⟨this.1, this.2.1⟩
  have h := hc _ rfl
  have b := o.bnd
  constructor
  · unfold lastDay
    have := maxI_ge (p.outl.map (·.1)) (((p.calls.getLast?).getD (0, 0)).1 + p.lt + p.wt)
    omega
  · unfold lastDay
    have := maxI_leK (p.outl.map (·.1)) (((p.calls.getLast?).getD (0, 0)).1 + p.lt + p.wt) 100 (by omega) fun y hy => by
      obtain ⟨c, hc, rfl⟩ := List.mem_map.mp hy
      have := o.out c hc
      omega
    omega
/-! ### comparing with () -/
theorem eqP_tup0 : eqP (.tup []) (.tup []) = some true := rfl
theorem eqP_tup {x : D} {xs : List D} (h : okDs 59 (x :: xs) = true) : eqP (.tup (x :: xs)) (.tup []) = some false := by
  unfold eqP
  have h2 : okD 60 (.tup (x :: xs)) = true := by rw [okD]; exact h
  have h3 : okD 60 (.tup []) = true := by rw [okD, okDs]
  simp only [scalEq, h2, h3, Bool.and_self, if_true]
  rw [eqD, eqDs]
  all_goals simp
theorem okDs_map {α : Type} {dOf : α → D} {n : Nat} (h : ∀ a, True → okD n (dOf a) = true) : ∀ xs : List α, okDs n (xs.map dOf) = true
  | [] => by rw [List.map_nil, okDs]
  | a :: xs => by rw [List.map_cons, okDs, h a trivial, okDs_map h xs]; rfl
theorem okDs_mem {α : Type} {dOf : α → D} {n : Nat} : ∀ xs : List α, (∀ a ∈ xs, okD n (dOf a) = true) → okDs n (xs.map dOf) = true
  | [], _ => by rw [List.map_nil, okDs]
  | a :: xs, h => by rw [List.map_cons, okDs, h a (.head _), okDs_mem xs fun b hb => h b (.tail _ hb)]; rfl
theorem ok_pr (c : Int × Int) : okD 59 (prD c) = true := by
  unfold prD
  simp [okD, okDs]
theorem letters_lt : ∀ c ∈ lettersL, c < 0x110000 := by decide
theorem Nm.ok {x : Str} (h : Nm x) (n : Nat) : okD n (.str x) = true := by
  rw [okD]
  rw [Array.all_eq_true']
  intro c hc
  have := letters_lt c (h.let_ c (by simpa using hc))
  simpa using this
theorem ok_pay {q : Pay} (h : Nm q.1 ∧ Nm q.2.1) : okD 59 (payD q) = true := by
  unfold payD
  rw [okD, okDs, okDs, okDs, okDs, h.1.ok, h.2.ok, okD]; rfl
/-- a loop over enumerate -/
theorem forL_enum {α : Type} {turn : D → S → Out Fl} {dOf : α → D} (J : List α → S → Prop) (all : List α) (h : ∀ (pre : List α) (a : α) (post : List α) (s : S), all = pre ++ a :: post → J pre s → ∃ s', turn (.tup [.int pre.length, dOf a]) s = .ok .nx s' ∧ J (pre ++ [a]) s') :
    ∀ (xs pre : List α) (s : S), all = pre ++ xs → J pre s → ∃ s', forL turn (enumD pre.length (xs.map dOf)) s = .ok .nx s' ∧ J all s'
  | [], pre, s, e, hj => ⟨s, rfl, by rw [e, List.append_nil]; exact hj⟩
  | a :: xs, pre, s, e, hj => by
    obtain ⟨s1, e1, j1⟩ := h pre a xs s e hj
    obtain ⟨s2, e2, j2⟩ := forL_enum J all h xs (pre ++ [a]) s1 (by rw [e]; simp) j1
    refine ⟨s2, ?_, j2⟩
    rw [List.map_cons, enumD, forL, e1, Out.bind_ok]
    rw [List.length_append] at e2
    exact e2
theorem step_enum {α : Type} {g : G} {s s1 : S} {rest : List Stm} {K : Out Fl → Prop} {t : T} {it : It} {b : List Stm} {xs : List α} {dOf : α → D} (J : List α → S → Prop) (hi : evI g it s = .ok (enumD 0 (xs.map dOf)) s1)
    (h : ∀ (pre : List α) (a : α) (post : List α) (s : S), xs = pre ++ a :: post → J pre s → ∃ s', (asT g t (.tup [.int pre.length, dOf a]) s).bind (fun _ s => exs g b s) = .ok .nx s' ∧ J (pre ++ [a]) s') (h0 : J [] s1) (k : ∀ s', J xs s' → K (exs g rest s')) : K (exs g (.forr t it b :: rest) s) := by
  obtain ⟨s', e, hj⟩ := forL_enum (turn := fun x s => (asT g t x s).bind fun _ s => exs g b s) (dOf := dOf) J xs h xs [] s1 rfl h0
  refine step_nx (s1 := s') ?_ (k s' hj)
  rw [ex_forr, hi, Out.bind_ok]
  exact e
section
variable {P : Prog} {rp : D → Option Str}
variable (hp : Has P)
include hp
theorem is_whole_ok {n : Nat} {v : Int} {m : List Ob} : evFn P rp (n + 2) i_is_whole [] [.d (.int v)] m = .ok (.d (.bl true)) ⟨[], m⟩ := by
  rw [evFn_eq hp.f_is_whole]
  refine run_ret rfl rfl rfl ?_
  simp only [fn_is_whole, b_is_whole]
  simp_arith [exs_cons]
  rfl
theorem is_number_ok {n : Nat} {v lo hi : Int} {m : List Ob} : evFn P rp (n + 3) i_is_number [] [.d (.int v), .d (.int lo), .d (.int hi)] m = .ok (.d (.bl (decide (lo ≤ v ∧ v ≤ hi)))) ⟨[], m⟩ := by
  rw [evFn_eq hp.f_is_number]
  refine run_ret rfl rfl rfl ?_
  simp only [fn_is_number, b_is_number]
  by_cases h : v < lo
  · have : ¬ (lo ≤ v ∧ v ≤ hi) := by omega
    simp_arith [exs_cons, is_whole_ok hp, h, decide_true, this, decide_false]
  · have : (lo ≤ v ∧ v ≤ hi) ↔ v ≤ hi := by omega
    simp_arith [exs_cons, is_whole_ok hp, h, decide_false, this]
theorem check_number_ok {n : Nat} {v lo hi : Int} {m : List Ob} (h : lo ≤ v ∧ v ≤ hi) : evFn P rp (n + 4) i_check_number [] [.d (.int v), .d (.int lo), .d (.int hi)] m = .ok (.d .non) ⟨[], m⟩ := by
  rw [evFn_eq hp.f_check_number]
  refine run_ret rfl rfl rfl ?_
  simp only [fn_check_number, b_check_number]
  simp_arith [exs_cons, is_number_ok hp, h, and_self, decide_true]
theorem is_tuple_of_ok {n : Nat} {xs : List D} {k : Int} {m : List Ob} : evFn P rp (n + 2) i_is_tuple_of [] [.d (.tup xs), .d (.int k)] m = .ok (.d (.bl ((xs.length : Int) == k))) ⟨[], m⟩ := by
  rw [evFn_eq hp.f_is_tuple_of]
  refine run_ret rfl rfl rfl ?_
  simp only [fn_is_tuple_of, b_is_tuple_of]
  simp_arith [exs_cons]
  rfl
theorem is_letters_ok {n : Nat} {x : Str} {m : List Ob} (h : Nm x) : evFn P rp (n + 2) i_is_letters [] [.d (.str x), .d (.int 1), .d (.int 8)] m = .ok (.d (.bl true)) ⟨[], m⟩ := by
  rw [evFn_eq hp.f_is_letters]
  refine run_ret rfl rfl rfl ?_
  simp only [fn_is_letters, b_is_letters]
  have hL := LINE_big
  have h1 := h.lo
  have h2 := h.hi
  have a1 : x.length ≤ LINE := by omega
  have a2 : (1 : Int) ≤ (x.length : Int) := by omega
  have a3 : (x.length : Int) ≤ 8 := by omega
  refine step_nx (K := fun o => outR o = _) (s1 := ⟨[.val (.str x), .val (.int 1), .val (.int 8), .no], m⟩) (by
    simp_arith [a1, a2, a3, decide_true]
    rfl) ?_
  simp_arith [exs_cons]
  rw [comp_val (xs := x.cps.toList) (dOf := fun c => .str ⟨#[c]⟩) (fm := fun c => some (.bl (decide (c ∈ lettersL)))) (by simp_arith []) rfl (fun a _ => ⟨[.val (.str x), .val (.int 1), .val (.int 8), .val (.str ⟨#[a]⟩)], by ac_rfl, by simp_arith []; rfl⟩) (by
    have : x.cps.toList.length = x.length := by simp [Str.length]
    omega)]
  simp_arith [fm_map, blsOf_map]
  have : (x.cps.toList.map fun c => decide (c ∈ lettersL)).all id = true := by
    rw [List.all_map, List.all_eq_true]
    intro c hc
    exact decide_eq_true (h.let_ c hc)
  rw [this]
theorem is_name_ok {n : Nat} {x : Str} {m : List Ob} (h : Nm x) : evFn P rp (n + 3) i_is_name [] [.d (.str x)] m = .ok (.d (.bl true)) ⟨[], m⟩ := by
  rw [evFn_eq hp.f_is_name]
  refine run_ret rfl rfl rfl ?_
  simp only [fn_is_name, b_is_name]
  have hw : inD (.str x) [(.str "all"), (.str "any"), (.str "back"), (.str "cannot"), (.str "close"), (.str "day"), (.str "fixed"), (.str "gives"), (.str "goal"), (.str "hear"), (.str "match"), (.str "may"), (.str "met"), (.str "none"), (.str "office"), (.str "person"), (.str "some"), (.str "sum"), (.str "sure"), (.str "terms"), (.str "with")] = some false := by
    have := inD_str x wordsL
    rw [decide_eq_false h.nw] at this
    exact this
  simp_arith [exs_cons, is_letters_ok hp h, hw]
theorem wrong_at_ok {α : Type} {dOf : α → D} {xs : List α} {f : Nat} {most : Int} {n : Nat} {m : List Ob} (hi : isIni P f = false) (hl : (xs.length : Int) ≤ most) (h : ∀ pre a post, xs = pre ++ a :: post → evFn P rp (n + 1) f [] [.d (dOf a), .d (.tup (pre.map dOf))] m = .ok (.d (.bl true)) ⟨[], m⟩) :
    evFn P rp (n + 2) i_wrong_at [] [.d (.tup (xs.map dOf)), .d (.int most), .d (.fn f)] m = .ok (.f (.lst [])) ⟨[], m⟩ := by
  rw [evFn_eq hp.f_wrong_at]
  refine run_ret rfl rfl rfl ?_
  simp only [fn_wrong_at, b_wrong_at]
  have L0 : (0 : Nat) ≤ LINE := le_line (by decide)
  refine step_nx (K := fun o => outR o = _) (s1 := ⟨[.val (.tup (xs.map dOf)), .val (.int most), .val (.fn f), .no, .no], m⟩) (by simp_arith []; rfl) ?_
  refine step_enum (K := fun o => outR o = _) (xs := xs) (dOf := dOf) (s1 := ⟨[.val (.tup (xs.map dOf)), .val (.int most), .val (.fn f), .no, .no], m⟩)
    (fun pre s => ∃ x y, s = ⟨[.val (.tup (xs.map dOf)), .val (.int most), .val (.fn f), x, y], m⟩) (by simp_arith [enumI]) ?_ ⟨.no, .no, rfl⟩ ?_
  · rintro pre a post _ e0 ⟨x, y, rfl⟩
    refine ⟨⟨[.val (.tup (xs.map dOf)), .val (.int most), .val (.fn f), .val (.int pre.length), .val (dOf a)], m⟩, ?_, _, _, rfl⟩
    have hne : ((pre.length : Int) == most) = false := by
      have : (pre.length : Int) ≠ most := by
        rw [e0, List.length_append, List.length_cons] at hl
        omega
      simpa using this
    have hc : cut (xs.map dOf) none (some (pre.length : Int)) = pre.map dOf := by
      unfold cut clip
      have : ¬ ((pre.length : Int) < 0) := by omega
      simp only [this, if_false, List.length_map, Int.toNat_natCast, List.drop_zero]
      rw [e0, List.length_append, List.length_cons]
      rw [show min pre.length (pre.length + (post.length + 1)) = pre.length by omega, ← List.map_take, List.take_left']
      rfl
    have he : ([A.e (.slot 4), A.e (.slice (.slotB 0) (.const .non) (.slot 3))] : List A).isEmpty = false := rfl
    simp_arith [exs_cons, hne, hi, he, Bool.or_self, hc, h pre a post e0]
  · rintro _ ⟨x, y, rfl⟩
    simp_arith [exs_cons, L0]
theorem wrong_from_one_ok {α : Type} {dOf : α → D} {xs : List α} {f : Nat} {most : Int} {n : Nat} {m : List Ob} (h0 : xs ≠ []) (hok : okDs 59 (xs.map dOf) = true) (hi : isIni P f = false) (hl : (xs.length : Int) ≤ most) (h : ∀ pre a post, xs = pre ++ a :: post → evFn P rp (n + 1) f [] [.d (dOf a), .d (.tup (pre.map dOf))] m = .ok (.d (.bl true)) ⟨[], m⟩) :
    evFn P rp (n + 3) i_wrong_from_one [] [.d (.tup (xs.map dOf)), .d (.int most), .d (.fn f)] m = .ok (.f (.lst [])) ⟨[], m⟩ := by
  rw [evFn_eq hp.f_wrong_from_one]
  refine run_ret rfl rfl rfl ?_
  simp only [fn_wrong_from_one, b_wrong_from_one]
  have L0 : (0 : Nat) ≤ LINE := le_line (by decide)
  have hw := wrong_at_ok hp (dOf := dOf) (n := n) hi hl h
  cases xs with
  | nil => exact (h0 rfl).elim
  | cons x xs =>
    rw [List.map_cons] at hok hw ⊢
    simp_arith [exs_cons, L0, eqP_tup hok, hw]
end
end Pv
end

section
set_option Elab.async false
set_option linter.all false
set_option maxRecDepth 100000
/-! K4: plans are made. -/
namespace Pv
open PySem
theorem strs_snoc (f : Pay → Str) (pre : List Pay) (q : Pay) : pre.map (fun a => D.str (f a)) ++ [.str (f q)] = ((pre ++ [q]).map f).map .str := by simp
theorem idx_lastP {pre : List Pay} {r : Pay} : op2 .idx (.tup ((pre ++ [r]).map payD)) (.int (-1)) = some (.d (payD r)) := by
  rw [List.map_append]
  exact iLastT
theorem idx_lastC {pre : List (Int × Int)} {r : Int × Int} : op2 .idx (prsD (pre ++ [r])) (.int (-1)) = some (.d (prD r)) := by
  rw [prsD, List.map_append]
  exact iLastT
theorem snoc_cases {α : Type} (l : List α) : l = [] ∨ ∃ i r, l = i ++ [r] := by
  rcases List.eq_nil_or_concat l with h | ⟨i, r, h⟩
  · exact .inl h
  · exact .inr ⟨i, r, by rw [h, List.concat_eq_append]⟩
section
variable {P : Prog} {rp : D → Option Str}
variable (hp : Has P)
include hp
theorem is_payer_ok {n : Nat} {q : Pay} {pre : List Pay} {m : List Ob} (hq : Nm q.1 ∧ Nm q.2.1) (hd : 1 ≤ q.2.2 ∧ q.2.2 ≤ 1000000) (hpre : ∀ r ∈ pre, Nm r.1 ∧ Nm r.2.1) (hlast : ∀ i r, pre = i ++ [r] → ltS r.1 q.1 = true)
    (hdis : ∀ x ∈ (pre ++ [q]).map (·.1), x ∉ (pre ++ [q]).map (·.2.1)) (h4 : (firsts [] ((pre ++ [q]).map (·.2.1))).length ≤ 4) (hl : pre.length ≤ 12) :
    evFn P rp (n + 4) i_is_payer [] [.d (payD q), .d (.tup (pre.map payD))] m = .ok (.d (.bl true)) ⟨[], m⟩ := by
  rw [evFn_eq hp.f_is_payer]
  refine run_ret rfl rfl rfl ?_
  simp only [fn_is_payer, b_is_payer]
  have hL := LINE_big
  have L1 : (0 + 1 : Nat) ≤ LINE := le_line (by decide)
  have L2 : pre.length + (0 + 1) ≤ LINE := by omega
  have L3 : pre.length + 1 < LINE := by omega
  have L4 : pre.length + 1 ≤ LINE := by omega
  have b3 : (((0 + 1 + 1 + 1 : Nat) : Int) == 3) = true := rfl
  refine step_nx (K := fun o => outR o = _) (s1 := ⟨[.val (payD q), .val (.tup (pre.map payD)), .no, .no, .no, .no, .no, .no, .no], m⟩) (by
    simp_arith [payD, is_tuple_of_ok hp, b3, is_name_ok hp hq.1, is_name_ok hp hq.2, startS]) ?_
  refine step_nx (K := fun o => outR o = _) (s1 := ⟨[.val (payD q), .val (.tup (pre.map payD)), .val (.str q.1), .val (.str q.2.1), .val (.int q.2.2), .no, .no, .no, .no], m⟩) (by simp_arith [payD]) ?_
  have hnum : evFn P rp (n + 2 + 1) i_is_number [] [.d (.int q.2.2), .d (.int 1), .d (.int 1000000)] m = .ok (.d (.bl true)) ⟨[], m⟩ := by
    rw [is_number_ok hp, decide_eq_true hd]
  refine step_nx (K := fun o => outR o = _) (s1 := ⟨[.val (payD q), .val (.tup (pre.map payD)), .val (.str q.1), .val (.str q.2.1), .val (.int q.2.2), .no, .no, .no, .no], m⟩) (by
    rcases snoc_cases pre with rfl | ⟨i, r, rfl⟩
    · simp_arith [hnum, Nat.zero_le, eqP_tup0]
    · have hne : eqP (.tup ((i ++ [r]).map payD)) (.tup []) = some false := by
        have := okDs_mem (n := 59) (i ++ [r]) fun a ha => ok_pay (hpre a ha)
        cases e : (i ++ [r]).map payD with
        | nil => simp at e
        | cons x xs => rw [e] at this; exact eqP_tup this
      have h1 := hlast i r rfl
      simp_arith [hnum, Nat.zero_le, hne, idx_lastP, payD, h1]) ?_
  have c1 : ev (gAt P rp (n + 2)) (.comp [7] (.slot 7) (.seq (.slot 1)) [] (.o2 .idx (.slotB 7) (.const (.int (0))))) ⟨[.val (payD q), .val (.tup (pre.map payD)), .val (.str q.1), .val (.str q.2.1), .val (.int q.2.2), .no, .no, .no, .no], m⟩ = .ok (.f (.lst (pre.map fun a => .str a.1))) ⟨[.val (payD q), .val (.tup (pre.map payD)), .val (.str q.1), .val (.str q.2.1), .val (.int q.2.2), .no, .no, .no, .no], m⟩ := by
    rw [comp_val (xs := pre) (dOf := payD) (fm := fun a => some (.str a.1)) (by simp_arith []) rfl (fun a _ => ⟨[.val (payD q), .val (.tup (pre.map payD)), .val (.str q.1), .val (.str q.2.1), .val (.int q.2.2), .no, .no, .val (payD a), .no], by ac_rfl, by simp_arith [payD]⟩) (by omega), fm_map]
  have c2 : ev (gAt P rp (n + 2)) (.comp [7] (.slot 7) (.seq (.slot 1)) [] (.o2 .idx (.slotB 7) (.const (.int (1))))) ⟨[.val (payD q), .val (.tup (pre.map payD)), .val (.str q.1), .val (.str q.2.1), .val (.int q.2.2), .no, .no, .no, .no], m⟩ = .ok (.f (.lst (pre.map fun a => .str a.2.1))) ⟨[.val (payD q), .val (.tup (pre.map payD)), .val (.str q.1), .val (.str q.2.1), .val (.int q.2.2), .no, .no, .no, .no], m⟩ := by
    rw [comp_val (xs := pre) (dOf := payD) (fm := fun a => some (.str a.2.1)) (by simp_arith []) rfl (fun a _ => ⟨[.val (payD q), .val (.tup (pre.map payD)), .val (.str q.1), .val (.str q.2.1), .val (.int q.2.2), .no, .no, .val (payD a), .no], by ac_rfl, by simp_arith [payD]⟩) (by omega), fm_map]
  refine step_nx (K := fun o => outR o = _) (s1 := ⟨[.val (payD q), .val (.tup (pre.map payD)), .val (.str q.1), .val (.str q.2.1), .val (.int q.2.2), .own (.lst (((pre ++ [q]).map (·.1)).map .str)), .own (.lst (((pre ++ [q]).map (·.2.1)).map .str)), .no, .no], m⟩) (by
    simp_arith [c1, c2, List.length_map, L1, L2]
    rw [strs_snoc (fun q => q.1), strs_snoc (fun q => q.2.1)]) ?_
  refine step_nx (K := fun o => outR o = _) (s1 := ⟨[.val (payD q), .val (.tup (pre.map payD)), .val (.str q.1), .val (.str q.2.1), .val (.int q.2.2), .val (.lst (((pre ++ [q]).map (·.1)).map .str)), .own (.lst (((pre ++ [q]).map (·.2.1)).map .str)), .no, .no], m⟩) (by
    simp_arith []
    rw [comp_valS (s := ⟨[.val (payD q), .val (.tup (pre.map payD)), .val (.str q.1), .val (.str q.2.1), .val (.int q.2.2), .val (.lst (((pre ++ [q]).map (·.1)).map .str)), .own (.lst (((pre ++ [q]).map (·.2.1)).map .str)), .no, .no], m⟩) (xs := (pre ++ [q]).map (·.1)) (dOf := .str) (fm := fun x => some (.bl (decide (x ∈ (pre ++ [q]).map (·.2.1))))) (by simp_arith []) rfl
      (fun a _ => ⟨[.val (payD q), .val (.tup (pre.map payD)), .val (.str q.1), .val (.str q.2.1), .val (.int q.2.2), .val (.lst (((pre ++ [q]).map (·.1)).map .str)), .own (.lst (((pre ++ [q]).map (·.2.1)).map .str)), .no, .val (.str a)], by ac_rfl, by
        have := inD_str a ((pre ++ [q]).map (·.2.1))
        simp_arith [this]⟩) (by simp; omega)]
    have hany : (((pre ++ [q]).map (·.1)).map fun x => decide (x ∈ (pre ++ [q]).map (·.2.1))).any id = false := by
      rw [List.any_map, List.any_eq_false]
      intro x hx
      have := hdis x hx
      simpa using this
    simp_arith [fm_map, blsOf_map, hany]) ?_
  simp_arith [exs_cons]
  have d := foldl_putS_keys (fun q : Str => q) (fun _ => D.non) ((pre ++ [q]).map (·.2.1)) []
  rw [List.map_nil, List.map_id'] at d
  have dl : (((pre ++ [q]).map (·.2.1)).foldl (fun ks a => putS ks a .non) []).length ≤ 4 := by
    have := congrArg List.length d
    rw [List.length_map] at this
    rw [this]
    exact h4
  rw [dcomp_valS (s := ⟨[.val (payD q), .val (.tup (pre.map payD)), .val (.str q.1), .val (.str q.2.1), .val (.int q.2.2), .val (.lst (((pre ++ [q]).map (·.1)).map .str)), .val (.lst (((pre ++ [q]).map (·.2.1)).map .str)), .no, .no], m⟩) (xs := (pre ++ [q]).map (·.2.1)) (dOf := .str) (fk := fun x => x) (fv := fun _ => .non) (by simp_arith []) rfl
    (fun a _ => ⟨[.val (payD q), .val (.tup (pre.map payD)), .val (.str q.1), .val (.str q.2.1), .val (.int q.2.2), .val (.lst (((pre ++ [q]).map (·.1)).map .str)), .val (.lst (((pre ++ [q]).map (·.2.1)).map .str)), .no, .val (.str a)], by ac_rfl, by simp_arith [turnDV]⟩) (by simp; omega)]
  have dl' : ((((pre ++ [q]).map (·.2.1)).foldl (fun ks a => putS ks a .non) []).length : Int) ≤ 4 := by omega
  simp_arith [List.length_map, dl', decide_true]
theorem is_call_ok {n : Nat} {c : Int × Int} {pre : List (Int × Int)} {m : List Ob} (h : 0 ≤ c.1 ∧ c.1 ≤ 60 ∧ 1 ≤ c.2 ∧ c.2 ≤ 1000) (hlast : ∀ i r, pre = i ++ [r] → r.1 < c.1) : evFn P rp (n + 4) i_is_call [] [.d (prD c), .d (prsD pre)] m = .ok (.d (.bl true)) ⟨[], m⟩ := by
  rw [evFn_eq hp.f_is_call]
  refine run_ret rfl rfl rfl ?_
  simp only [fn_is_call, b_is_call]
  have b2 : (((0 + 1 + 1 : Nat) : Int) == 2) = true := rfl
  have L0 : (0 : Nat) ≤ LINE := le_line (by decide)
  have h1 : (0 ≤ c.1 ∧ c.1 ≤ 60) = True := eq_true ⟨h.1, h.2.1⟩
  have h2 : (1 ≤ c.2 ∧ c.2 ≤ 1000) = True := eq_true h.2.2
  refine step_nx (K := fun o => outR o = _) (s1 := ⟨[.val (prD c), .val (prsD pre)], m⟩) (by simp_arith [prD, is_tuple_of_ok hp, b2, is_number_ok hp, h1, h2, decide_true]; rfl) ?_
  rcases snoc_cases pre with rfl | ⟨i, r, rfl⟩
  · simp_arith [exs_cons, L0, prsD, eqP_tup0]
  · have hne : eqP (prsD (i ++ [r])) (.tup []) = some false := by
      have := okDs_mem (n := 59) (i ++ [r]) fun a _ => ok_pr a
      unfold prsD
      cases e : (i ++ [r]).map prD with
      | nil => simp at e
      | cons x xs => rw [e] at this; exact eqP_tup this
    have h1 := hlast i r rfl
    have il := @idx_lastC i r
    simp only [prsD] at hne il
    simp_arith [exs_cons, L0, prsD, hne, il, prD, h1, decide_true]
theorem is_outlay_ok {n : Nat} {c : Int × Int} {pre : List (Int × Int)} {m : List Ob} (h : 0 ≤ c.1 ∧ c.1 ≤ 90 ∧ 1 ≤ c.2 ∧ c.2 ≤ 10000000) (hlast : ∀ i r, pre = i ++ [r] → r.1 ≤ c.1) : evFn P rp (n + 4) i_is_outlay [] [.d (prD c), .d (prsD pre)] m = .ok (.d (.bl true)) ⟨[], m⟩ := by
  rw [evFn_eq hp.f_is_outlay]
  refine run_ret rfl rfl rfl ?_
  simp only [fn_is_outlay, b_is_outlay]
  have b2 : (((0 + 1 + 1 : Nat) : Int) == 2) = true := rfl
  have L0 : (0 : Nat) ≤ LINE := le_line (by decide)
  have h1 : (0 ≤ c.1 ∧ c.1 ≤ 90) = True := eq_true ⟨h.1, h.2.1⟩
  have h2 : (1 ≤ c.2 ∧ c.2 ≤ 10000000) = True := eq_true h.2.2
  refine step_nx (K := fun o => outR o = _) (s1 := ⟨[.val (prD c), .val (prsD pre)], m⟩) (by simp_arith [prD, is_tuple_of_ok hp, b2, is_number_ok hp, h1, decide_true]; rfl) ?_
  rcases snoc_cases pre with rfl | ⟨i, r, rfl⟩
  · simp_arith [exs_cons, L0, prsD, eqP_tup0, prD, is_number_ok hp, h2, decide_true]
  · have hne : eqP (prsD (i ++ [r])) (.tup []) = some false := by
      have := okDs_mem (n := 59) (i ++ [r]) fun a _ => ok_pr a
      unfold prsD
      cases e : (i ++ [r]).map prD with
      | nil => simp at e
      | cons x xs => rw [e] at this; exact eqP_tup this
    have h1 := hlast i r rfl
    have il := @idx_lastC i r
    simp only [prsD] at hne il
    simp_arith [exs_cons, L0, prsD, hne, il, prD, h1, is_number_ok hp, h2, decide_true]
theorem are_bounds_ok {n : Nat} {f l s w : Int} {m : List Ob} (h : (0 ≤ f ∧ f ≤ 6) ∧ (0 ≤ l ∧ l ≤ 9) ∧ (0 ≤ s ∧ s ≤ 3) ∧ (0 ≤ w ∧ w ≤ 9)) : evFn P rp (n + 4) i_are_bounds [] [.d (bndD f l s w)] m = .ok (.d (.bl true)) ⟨[], m⟩ := by
  rw [evFn_eq hp.f_are_bounds]
  refine run_ret rfl rfl rfl ?_
  simp only [fn_are_bounds, b_are_bounds]
  have b4 : (((0 + 1 + 1 + 1 + 1 : Nat) : Int) == ((0 + 1 + 1 + 1 + 1 : Nat) : Int)) = true := rfl
  refine step_nx (K := fun o => outR o = _) (s1 := ⟨[.val (bndD f l s w), .no, .no], m⟩) (by simp_arith [is_tuple_of_ok hp, b4]) ?_
  obtain ⟨ps, hps⟩ : ∃ ps : List (Int × Int), ps = [(f, 6), (l, 9), (s, 3), (w, 9)] := ⟨_, rfl⟩
  obtain ⟨h1, h2, h3, h4⟩ := h
  have hall : (ps.map fun c => decide (0 ≤ c.1 ∧ c.1 ≤ c.2)).all id = true := by
    rw [hps]
    simp [h1.1, h1.2, h2.1, h2.2, h3.1, h3.2, h4.1, h4.2]
  have hl : ps.length ≤ LINE := by rw [hps]; exact le_line (by simp)
  simp_arith [exs_cons]
  rw [comp_val (xs := ps) (dOf := prD) (fm := fun c => some (.bl (decide (0 ≤ c.1 ∧ c.1 ≤ c.2)))) (by rw [hps]; simp_arith [zipI, zipD, prD]) rfl (fun a _ => ⟨[.val (bndD f l s w), .val (.int a.1), .val (.int a.2)], by ac_rfl, by simp_arith [prD, is_number_ok hp]⟩) hl]
  simp_arith [fm_map, blsOf_map, hall]
theorem check_payers_ok {n : Nat} {p : Pl} {m : List Ob} (o : p.Ok) (hi : isIni P i_is_payer = false) : evFn P rp (n + 7) i_check_payers [] [.d (.tup (p.pays.map payD))] m = .ok (.d .non) ⟨[], m⟩ := by
  rw [evFn_eq hp.f_check_payers]
  refine run_ret rfl rfl rfl ?_
  simp only [fn_check_payers, b_check_payers]
  have hl : (p.pays.length : Int) ≤ 12 := by have := o.np; omega
  have hw := wrong_from_one_ok (n := n + 3) (m := m) (rp := rp) hp (dOf := payD) o.p0 (okDs_mem p.pays fun a ha => ok_pay (o.nm a ha)) hi hl fun pre a post e => by
    have ha : a ∈ p.pays := by rw [e]; simp
    have hpre : ∀ r ∈ pre, r ∈ p.pays := fun r hr => by rw [e]; exact List.mem_append_left _ hr
    have htk : pre ++ [a] = p.pays.take (pre.length + 1) := by rw [e, List.take_append, List.take_of_length_le (by omega)]; simp
    have hin : ∀ r ∈ pre ++ [a], r ∈ p.pays := fun r hr => by
      rw [htk] at hr
      exact List.mem_of_mem_take hr
    refine is_payer_ok hp (o.nm a ha) (o.due a ha) (fun r hr => o.nm r (hpre r hr)) (fun i r ee => ?_) (fun x hx hy => ?_) ?_ ?_
    · subst ee
      exact o.pasc i r a post (by rw [e]; simp)
    · obtain ⟨q, hq, rfl⟩ := List.mem_map.mp hx
      obtain ⟨r, hr, er⟩ := List.mem_map.mp hy
      exact o.dis q (hin q hq) r (hin r hr) er.symm
    · rw [htk]; exact o.of4 _
    · have := o.np
      rw [e, List.length_append, List.length_cons] at this
      omega
  simp_arith [exs_cons, ex_forr, hw, forL_nil]
theorem check_calls_ok {n : Nat} {p : Pl} {m : List Ob} (o : p.Ok) (hi : isIni P i_is_call = false) : evFn P rp (n + 7) i_check_calls [] [.d (prsD p.calls)] m = .ok (.d .non) ⟨[], m⟩ := by
  rw [evFn_eq hp.f_check_calls]
  refine run_ret rfl rfl rfl ?_
  simp only [fn_check_calls, b_check_calls]
  have hl : (p.calls.length : Int) ≤ 8 := by have := o.nc; omega
  have hw := wrong_from_one_ok (n := n + 3) (m := m) (rp := rp) hp (dOf := prD) o.c0 (okDs_mem p.calls fun a ha => ok_pr a) hi hl fun pre a post e => by
    refine is_call_ok hp (o.call a (by rw [e]; simp)) fun i r ee => ?_
    subst ee
    exact o.casc i r a post (by rw [e]; simp)
  simp_arith [exs_cons, ex_forr, hw, forL_nil]
theorem check_outlays_ok {n : Nat} {p : Pl} {m : List Ob} (o : p.Ok) (hi : isIni P i_is_outlay = false) : evFn P rp (n + 7) i_check_outlays [] [.d (prsD p.outl)] m = .ok (.d .non) ⟨[], m⟩ := by
  rw [evFn_eq hp.f_check_outlays]
  refine run_ret rfl rfl rfl ?_
  simp only [fn_check_outlays, b_check_outlays]
  have hl : (p.outl.length : Int) ≤ 8 := by have := o.no; omega
  have hw := wrong_at_ok (n := n + 4) (m := m) (rp := rp) hp (dOf := prD) hi hl fun pre a post e => by
    refine is_outlay_ok hp (o.out a (by rw [e]; simp)) fun i r ee => ?_
    subst ee
    exact o.oasc i r a post (by rw [e]; simp)
  simp_arith [exs_cons, ex_forr, hw, forL_nil]
/-- no function that is walked with makes an object -/
structure Plain (P : Prog) : Prop where
  a : isIni P i_is_payer = false
  b : isIni P i_is_call = false
  c : isIni P i_is_outlay = false
theorem init_ok {n : Nat} {p : Pl} {m : List Ob} (o : p.Ok) (hi : Plain P) : evFn P rp (n + 8) i_Calls_init [] [.own (.ins 0 []), .d (.tup (p.pays.map payD)), .d (prsD p.calls), .d (prsD p.outl), .d (.int p.res), .d (bndD p.fl p.lt p.sl p.wt)] m = .ok (.f (.ins 0 [("told", p.parts)])) ⟨[], m⟩ := by
  rw [evFn_eq hp.f_Calls_init]
  refine run_ini rfl rfl rfl ?_
  have hL := LINE_big
  have hc := o.nc
  refine ⟨[.own (.ins 0 [("told", p.parts)]), .val (.tup (p.pays.map payD)), .val (prsD p.calls), .val (prsD p.outl), .val (.int p.res), .val (bndD p.fl p.lt p.sl p.wt), .val (.int 1000), .no, .no], ?_, rfl⟩
  simp only [fn_Calls_init, b_Calls_init]
  have cs : ev (gAt P rp (n + 6)) (.comp [7, 8] (.tup [(.slot 7), (.slot 8)]) (.seq (.slot 2)) [] (.slot 8)) ⟨[.own (.ins 0 []), .val (.tup (p.pays.map payD)), .val (prsD p.calls), .val (prsD p.outl), .val (.int p.res), .val (bndD p.fl p.lt p.sl p.wt), .no, .no, .no], m⟩ =
      .ok (.f (.lst (p.calls.map fun c => .int c.2))) ⟨[.own (.ins 0 []), .val (.tup (p.pays.map payD)), .val (prsD p.calls), .val (prsD p.outl), .val (.int p.res), .val (bndD p.fl p.lt p.sl p.wt), .no, .no, .no], m⟩ := by
    rw [comp_val (xs := p.calls) (dOf := prD) (fm := fun c => some (.int c.2)) (by simp_arith []) rfl (fun a _ => ⟨[.own (.ins 0 []), .val (.tup (p.pays.map payD)), .val (prsD p.calls), .val (prsD p.outl), .val (.int p.res), .val (bndD p.fl p.lt p.sl p.wt), .no, .val (.int a.1), .val (.int a.2)], by ac_rfl, by simp_arith [prD]⟩) (by omega), fm_map]
  have b1 : ((1000 : Int) == 1000) = true := rfl
  have L5 : (0 + 1 + 1 + 1 + 1 + 1 : Nat) ≤ LINE := le_line (by decide)
  have hd : decide ((0 : Nat) < 1000) = true := by decide
  have hres := o.res
  simp_arith [exs_cons, check_payers_ok hp o hi.a, check_calls_ok hp o hi.b, check_outlays_ok hp o hi.c, check_number_ok hp hres, are_bounds_ok hp o.bnd, cs, intsOf_map, o.sum, b1, L5, hp.p_told, Option.isNone_none, Bool.true_and, hd, fieldsPut]
theorem with_bounds_ok {n : Nat} {p : Pl} {f l s w : Int} {m : List Ob} (o : Pl.Ok { p with fl := f, lt := l, sl := s, wt := w }) (hi : Plain P) : evFn P rp (n + 10) i_with_bounds [] [.d p.obj, .d (bndD f l s w)] m = .ok (.f (.ins 0 [("told", Pl.parts { p with fl := f, lt := l, sl := s, wt := w })])) ⟨[], m⟩ := by
  rw [evFn_eq hp.f_with_bounds]
  refine run_ret rfl rfl rfl ?_
  simp only [fn_with_bounds, b_with_bounds]
  have hini := init_ok (rp := rp) (n := n) (m := m) hp o hi
  simp_arith [exs_cons, hp.p_payers, g_payers hp, hp.p_calls, g_calls hp, hp.p_outlays, g_outlays hp, hp.p_reserve, g_reserve hp, hp.ini, hini]
end
end Pv
end

section
set_option Elab.async false
set_option linter.all false
set_option maxRecDepth 100000
/-! K5: what plans bear. -/
namespace Pv
open PySem
def down (most : Nat) : List Int := (List.range (most + 1)).map fun i => (most : Int) - (i : Nat)
def optD : Option Int → D
  | none => .non
  | some k => .int k
def Pl.bnd4 (p : Pl) (f l s w : Int) : Pl := { p with fl := f, lt := l, sl := s, wt := w }
theorem Pl.Ok.bounds {p : Pl} (o : p.Ok) {f l s w : Int} (h : (0 ≤ f ∧ f ≤ 6) ∧ (0 ≤ l ∧ l ≤ 9) ∧ (0 ≤ s ∧ s ≤ 3) ∧ (0 ≤ w ∧ w ≤ 9)) : (p.bnd4 f l s w).Ok :=
  ⟨o.p0, o.np, o.nm, o.due, o.pasc, o.dis, o.of4, o.c0, o.nc, o.call, o.casc, o.no, o.out, o.oasc, o.res, h, o.sum⟩
def borne (p : Pl) : Bool := decide (0 ≤ least p)
theorem mem_down {most : Nat} {k : Int} : k ∈ down most ↔ 0 ≤ k ∧ k ≤ most := by
  unfold down
  rw [List.mem_map]
  constructor
  · rintro ⟨i, hi, rfl⟩
    have := List.mem_range.mp hi
    omega
  · rintro ⟨h1, h2⟩
    refine ⟨(most - k).toNat, List.mem_range.mpr (by omega), by omega⟩
theorem range_down {most : Nat} (hm : most < 1000) : rangeItems [.int most, .int (-1), .int (-1)] = some ((down most).map .int) := by
  have h1 : near (most : Int) = true ∧ near (-1) = true ∧ (most : Int) - (-1) ≤ LINE := by
    have : (LINE : Int) = 16777216 := by rw [LINE_val]; rfl
    refine ⟨?_, ?_, by omega⟩
    · unfold near; rw [decide_eq_true_eq]; constructor <;> omega
    · unfold near; rw [decide_eq_true_eq]; constructor <;> omega
  unfold rangeItems
  simp only [h1, and_self, if_true, rangeD_down]
  unfold down
  rw [List.map_map]
  have : ((most : Int) - (-1)).toNat = most + 1 := by omega
  rw [this]; rfl
section
variable {P : Prog} {rp : D → Option Str}
variable (hp : Has P)
include hp
theorem greatest_with_ok {n : Nat} {most : Nat} {f : Fn} {caps : List D} {m : List Ob} {q : Int → Bool} (hm : most < 1000) (h : ∀ k : Int, 0 ≤ k ∧ k ≤ most → evC P rp (n + 1) f caps [.d (.int k)] m = .ok (.d (.bl (q k))) ⟨[], m⟩) :
    evFn P rp (n + 2) i_greatest_with [] [.d (.int most), .clo f caps] m = .ok (.d (optD ((down most).find? q))) ⟨[], m⟩ := by
  rw [evFn_eq hp.f_greatest_with]
  refine run_ret rfl rfl rfl ?_
  simp only [fn_greatest_with, b_greatest_with]
  have hr := range_down hm
  have he : evs (gAt P rp n) [(.slot 0), (.o1 .neg (.const (.int (1)))), (.o1 .neg (.const (.int (1))))] ⟨[.val (.int most), .clo f caps, .no], m⟩ = .ok [.int most, .int (-1), .int (-1)] ⟨[.val (.int most), .clo f caps, .no], m⟩ := by simp_arith []
  refine step_find (xs := down most) (dOf := .int) (s1 := ⟨[.val (.int most), .clo f caps, .no], m⟩) (r := .d (optD ((down most).find? q))) (fun s => ∃ x, s = ⟨[.val (.int most), .clo f caps, x], m⟩) q (fun k => .d (.int k)) (by rw [evI_range]; exact (congrArg (fun o => Out.bind o fun xs s => lift s (rangeItems xs)) he).trans (by rw [Out.bind_ok, hr, lift_some])) ?_ ⟨.no, rfl⟩ ?_ ?_
  · rintro a ha _ ⟨x, rfl⟩
    have hc := h a (mem_down.mp ha)
    split
    · rename_i hq
      rw [hq] at hc
      exact ⟨⟨[.val (.int most), .clo f caps, .val (.int a)], m⟩, by simp_arith [exs_cons, hc], rfl⟩
    · rename_i hq
      rw [show q a = false by simpa using hq] at hc
      exact ⟨⟨[.val (.int most), .clo f caps, .val (.int a)], m⟩, by simp_arith [exs_cons, hc], _, rfl⟩
  · intro a e; rw [e]; rfl
  · rintro e _ ⟨x, rfl⟩
    rw [e]
    simp_arith [exs_cons]
    rfl
theorem bears_fails_ok {n : Nat} {p : Pl} {m : List Ob} (o : p.Ok) (hi : Plain P) (ht : m[0]? = some (.tbl 0)) : evFn P rp (n + 14) i_bears_fails [] [.d p.obj] m = .ok (.d (optD ((down 6).find? fun k => borne (p.bnd4 k p.lt p.sl p.wt)))) ⟨[], m⟩ := by
  rw [evFn_eq hp.f_bears_fails]
  refine run_ret rfl rfl rfl ?_
  simp only [fn_bears_fails, b_bears_fails]
  have hcut : cut [D.int p.fl, .int p.lt, .int p.sl, .int p.wt] (some 1) none = [.int p.lt, .int p.sl, .int p.wt] := by simp [cut, clip]
  have L4 : 0 + 1 + (0 + 1 + 1 + 1) ≤ LINE := le_line (by decide)
  have hg := greatest_with_ok (n := n + 11) (most := 6) (rp := rp) (m := m) (f := ⟨false, 1, (0 + 1 + 1), 3, [.ret (.call i_is_borne [.e (.call i_with_bounds [.e (.slot 2), .e (.tupS [(.slot 0)] (.slotB 1))])])]⟩) (caps := [.tup [.int p.lt, .int p.sl, .int p.wt], p.obj]) (q := fun k => borne (p.bnd4 k p.lt p.sl p.wt)) hp (by decide) fun k hk => by
    have o' := o.bounds (f := k) (l := p.lt) (s := p.sl) (w := p.wt) ⟨hk, o.bnd.2⟩
    rw [show n + 11 + 1 = n + 10 + 2 from rfl, evC_eq]
    refine run_ret rfl rfl rfl ?_
    have hw := with_bounds_ok (n := n + 1) (rp := rp) (m := m) hp o' hi
    have hb : evFn P rp (n + 1 + 10) i_is_borne [] [.d (.obj 0 [("told", Pl.parts { p with fl := k, lt := p.lt, sl := p.sl, wt := p.wt })])] m = .ok (.d (.bl (borne (p.bnd4 k p.lt p.sl p.wt)))) ⟨[], m⟩ := is_borne_ok hp o'.sm o'.nr
    simp_arith [exs_cons, L4, hw, hb]
  refine step_nx (K := fun o => outR o = _) (s1 := ⟨[.val p.obj, .no], m⟩) (by simp_arith [check_plan_ok hp]) ?_
  refine step_nx (K := fun o => outR o = _) (s1 := ⟨[.val p.obj, .val (.tup [.int p.lt, .int p.sl, .int p.wt])], m⟩) (by simp_arith [hp.p_bounds, g_bounds hp, hcut]) ?_
  rw [show ((6 : Nat) : Int) = 6 from rfl] at hg
  simp_arith [exs_cons, ht, hg]
theorem bears_slow_ok {n : Nat} {p : Pl} {m : List Ob} (o : p.Ok) (hi : Plain P) (ht : m[1]? = some (.tbl 1)) : evFn P rp (n + 14) i_bears_slow [] [.d p.obj] m = .ok (.d (optD ((down 3).find? fun k => borne (p.bnd4 p.fl p.lt k p.wt)))) ⟨[], m⟩ := by
  rw [evFn_eq hp.f_bears_slow]
  refine run_ret rfl rfl rfl ?_
  simp only [fn_bears_slow, b_bears_slow]
  have L4 : (0 + 1 + 1 + 1 + 1 : Nat) ≤ LINE := le_line (by decide)
  have hg := greatest_with_ok (n := n + 11) (most := 3) (rp := rp) (m := m) (f := ⟨false, 1, (0 + 1 + 1 + 1 + 1), 5, [.ret (.call i_is_borne [.e (.call i_with_bounds [.e (.slot 3), .e (.tup [(.slot 1), (.slot 2), (.slot 0), (.slot 4)])])])]⟩) (caps := [.int p.fl, .int p.lt, p.obj, .int p.wt]) (q := fun k => borne (p.bnd4 p.fl p.lt k p.wt)) hp (by decide) fun k hk => by
    have o' := o.bounds (f := p.fl) (l := p.lt) (s := k) (w := p.wt) ⟨o.bnd.1, o.bnd.2.1, hk, o.bnd.2.2.2⟩
    rw [show n + 11 + 1 = n + 10 + 2 from rfl, evC_eq]
    refine run_ret rfl rfl rfl ?_
    have hw := with_bounds_ok (n := n + 1) (rp := rp) (m := m) hp o' hi
    have hb : evFn P rp (n + 1 + 10) i_is_borne [] [.d (.obj 0 [("told", Pl.parts { p with fl := p.fl, lt := p.lt, sl := k, wt := p.wt })])] m = .ok (.d (.bl (borne (p.bnd4 p.fl p.lt k p.wt)))) ⟨[], m⟩ := is_borne_ok hp o'.sm o'.nr
    simp_arith [exs_cons, L4, hw, hb]
  refine step_nx (K := fun o => outR o = _) (s1 := ⟨[.val p.obj, .no, .no, .no, .no], m⟩) (by simp_arith [check_plan_ok hp]) ?_
  refine step_nx (K := fun o => outR o = _) (s1 := ⟨[.val p.obj, .val (.int p.fl), .val (.int p.lt), .val (.int p.sl), .val (.int p.wt)], m⟩) (by simp_arith [hp.p_bounds, g_bounds hp]) ?_
  rw [show ((3 : Nat) : Int) = 3 from rfl] at hg
  simp_arith [exs_cons, ht, hg]
end
end Pv
end

section
set_option Elab.async false
set_option linter.all false
set_option maxRecDepth 100000
/-! K6: the law's own sums. -/
namespace Pv
open PySem
def lawOwed (due : Int) (cs : List (Int × Int)) (until_ : Int) (pre : List (Int × Int)) : Int := (pre.zipIdx).foldl (fun acc c => if c.1.1 ≤ until_ then owed due cs c.2 else acc) 0
def lawRow (os : List Str) (number : Nat) : List Str := (List.range os.length).filterMap fun k => if decide (((number : Int) / 2 ^ k) % 2 = 1) then os[k]? else none
def lawOk (os : List Str) (most : Int) (number : Nat) : Bool := decide ((number : Int) / 2 ^ os.length = 0) && decide (((lawRow os number).length : Int) ≤ most)
def lawSets (os : List Str) (most : Int) : List (List Str) := ((List.range 16).filter (lawOk os most)).map (lawRow os)
def lawOffs (ps : List Pay) : List Str := sortS (dedup (ps.map (·.2.1)))
def lawUntil (p : Pl) (day : Int) (q : Pay) (s : List Str) : Int := day - p.lt - (if q.2.1 ∈ s then p.wt else 0)
def lawCome (p : Pl) (day : Int) (s : List Str) : List Int := p.pays.map fun q => lawOwed q.2.2 p.calls (lawUntil p day q s) p.calls
def lawRest (p : Pl) (day : Int) (s : List Str) : Int := p.res - spent p.outl day + leftBy (lawCome p day s) p.fl
def minL : List Int → Int
  | [] => 0
  | x :: xs => minI x xs
def lawMargin (p : Pl) (day : Int) : Int := minL ((lawSets (lawOffs p.pays) p.sl).map (lawRest p day))
def lawDays (p : Pl) : List Int := 0 :: p.outl.map (·.1)
def lawLeast (p : Pl) : Int := minL ((lawDays p).map (lawMargin p))
theorem dedup_len : ∀ xs : List Str, (dedup xs).length ≤ xs.length
  | [] => Nat.le_refl _
  | x :: r => by
    unfold dedup
    have := dedup_len r
    split
    · simp; omega
    · simp; omega
theorem lawSets_ne (os : List Str) (most : Int) (h : 0 ≤ most) : lawSets os most ≠ [] := by
  have h0 : lawRow os 0 = [] := by
    unfold lawRow
    rw [List.filterMap_eq_nil_iff]
    intro k _
    simp
  have : lawRow os 0 ∈ lawSets os most := by
    unfold lawSets
    refine List.mem_map.mpr ⟨0, List.mem_filter.mpr ⟨by simp, ?_⟩, rfl⟩
    unfold lawOk
    rw [h0]
    simpa using h
  intro z
  rw [z] at this
  cases this
theorem lawSets_len (os : List Str) (most : Int) : (lawSets os most).length ≤ 16 := by
  unfold lawSets
  rw [List.length_map]
  have := List.length_filter_le (lawOk os most) (List.range 16)
  simpa using this
section
variable {P : Prog} {rp : D → Option Str}
variable (hp : Has P)
include hp
theorem law_owed_ok {n : Nat} {p : Pl} {q : Pay} {i : Int} {m : List Ob} (hs : p.Sm) (hq : big q.2.2 = true) : evFn P rp (n + 2) i_law_owed [] [.d p.parts, .d (payD q), .d (.int i)] m = .ok (.d (.int (owed q.2.2 p.calls i))) ⟨[], m⟩ := by
  rw [evFn_eq hp.f_law_owed]
  refine run_ret rfl rfl rfl ?_
  simp only [fn_law_owed, b_law_owed]
  have hL := LINE_big
  have hn := hs.nc
  simp_arith [exs_cons, payD]
  rw [comp_val (xs := cut p.calls none (some (i + 1))) (dOf := prD) (fm := fun c => some (.int c.2)) (by simp_arith [cut_map]) rfl (fun a _ => ⟨[.val p.parts, .val (payD q), .val (.int i), .val (.int a.1), .val (.int a.2)], by ac_rfl, by simp_arith [prD]; rfl⟩) (by have := cut_len p.calls none (some (i + 1)); omega)]
  simp_arith [fm_map, intsOf_map, hq, Bool.true_or]
  rfl
theorem law_spent_ok {n : Nat} {p : Pl} {day : Int} {m : List Ob} (hs : p.Sm) : evFn P rp (n + 2) i_law_spent [] [.d p.parts, .d (.int day)] m = .ok (.d (.int (spent p.outl day))) ⟨[], m⟩ := by
  rw [evFn_eq hp.f_law_spent]
  refine run_ret rfl rfl rfl ?_
  simp only [fn_law_spent, b_law_spent]
  have hL := LINE_big
  have hn := hs.no
  simp_arith [exs_cons]
  rw [comp_val (xs := p.outl) (dOf := prD) (fm := fun c => if decide (c.1 ≤ day) then some (.int c.2) else none) (by simp_arith []) rfl (fun a _ => ⟨[.val p.parts, .val (.int day), .val (.int a.1), .val (.int a.2)], by ac_rfl, by
    simp_arith [prD]
    by_cases h : a.1 ≤ day <;> simp_arith [h, decide_true, decide_false]⟩) (by omega)]
  simp_arith [fm_if, intsOf_map, spent]
theorem law_offices_ok {n : Nat} {p : Pl} {m : List Ob} (hs : p.Sm) : evFn P rp (n + 2) i_law_offices [] [.d p.parts] m = .ok (.f (.lst ((lawOffs p.pays).map .str))) ⟨[], m⟩ := by
  rw [evFn_eq hp.f_law_offices]
  refine run_ret rfl rfl rfl ?_
  simp only [fn_law_offices, b_law_offices]
  have hL := LINE_big
  have hn := hs.np
  have hlt : (p.pays.map fun q => q.2.1).length < 64 := by rw [List.length_map]; omega
  simp_arith [exs_cons]
  rw [comp_val (xs := p.pays) (dOf := payD) (fm := fun q => some (.str q.2.1)) (by simp_arith []) rfl (fun a _ => ⟨[.val p.parts, .val (payD a)], by ac_rfl, by simp_arith [payD]⟩) (by omega)]
  simp_arith [fm_map, strsOf_map, hlt, lawOffs]
omit hp in
theorem range_lit {k : Nat} (hk : k < 1000) : rangeItems [.int k] = some ((List.range k).map fun i : Nat => .int i) := by
  have h1 : near (k : Int) = true ∧ (k : Int) ≤ LINE := by
    have : (LINE : Int) = 16777216 := by rw [LINE_val]; rfl
    refine ⟨?_, by omega⟩
    unfold near; rw [decide_eq_true_eq]; constructor <;> omega
  unfold rangeItems
  simp only [h1, and_self, if_true, rangeD_eq, Int.zero_add, Int.toNat_natCast]
omit hp in
theorem p_16 : ((2 : Int) ^ Int.toNat 4) = ((16 : Nat) : Int) := by decide
omit hp in
theorem sets_cond {g : G} {os row : List Str} {most : Int} {a : Nat} {x : Sl} {m : List Ob} {z : Sl} :
    tst (.and (.o2 .eq (.o2 .shr (.slotB 3) (.o1 .len (.slotB 0))) (.const (.int (0)))) (.o2 .le (.o1 .len (.slotB 4)) (.slotB 1))) (ev g (.and (.o2 .eq (.o2 .shr (.slotB 3) (.o1 .len (.slotB 0))) (.const (.int (0)))) (.o2 .le (.o1 .len (.slotB 4)) (.slotB 1)))) ⟨[.val (.lst (os.map .str)), .val (.int most), x, .val (.int a), .val (.tup (row.map .str)), z], m⟩ =
      .ok (decide ((a : Int) / 2 ^ os.length = 0) && decide ((row.length : Int) ≤ most)) ⟨[.val (.lst (os.map .str)), .val (.int most), x, .val (.int a), .val (.tup (row.map .str)), z], m⟩ := by
  have e1 : ev g (.o2 .shr (.slotB 3) (.o1 .len (.slotB 0))) ⟨[.val (.lst (os.map .str)), .val (.int most), x, .val (.int a), .val (.tup (row.map .str)), z], m⟩ = .ok (.d (.int ((a : Int) / 2 ^ os.length))) ⟨[.val (.lst (os.map .str)), .val (.int most), x, .val (.int a), .val (.tup (row.map .str)), z], m⟩ := by
    have h0 : (0 : Int) ≤ (os.length : Int) := by omega
    simp_arith [List.length_map, h0, Int.toNat_natCast]
  have e2 : ev g (.o2 .le (.o1 .len (.slotB 4)) (.slotB 1)) ⟨[.val (.lst (os.map .str)), .val (.int most), x, .val (.int a), .val (.tup (row.map .str)), z], m⟩ = .ok (.d (.bl (decide ((row.length : Int) ≤ most)))) ⟨[.val (.lst (os.map .str)), .val (.int most), x, .val (.int a), .val (.tup (row.map .str)), z], m⟩ := by
    simp_arith [List.length_map]
  generalize (a : Int) / 2 ^ os.length = v at e1 ⊢
  generalize decide ((row.length : Int) ≤ most) = c at e2 ⊢
  have e3 : ev g (.o2 .eq (.o2 .shr (.slotB 3) (.o1 .len (.slotB 0))) (.const (.int (0)))) ⟨[.val (.lst (os.map .str)), .val (.int most), x, .val (.int a), .val (.tup (row.map .str)), z], m⟩ = .ok (.d (.bl (v == 0))) ⟨[.val (.lst (os.map .str)), .val (.int most), x, .val (.int a), .val (.tup (row.map .str)), z], m⟩ := by
    rw [ev_o2]
    simp only [opd, isBor, e1, Out.bind_ok, ev_const, fin, view, FX.frz, Option.bind_some, o_eq, eqP_int, Option.map_some, lift_some]
  have e4 : (v == 0) = decide (v = 0) := by
    by_cases h : v = 0 <;> simp [h]
  rw [e4] at e3
  simp only [tst, opd, isBor, ev_and, e3, Out.bind_ok]
  by_cases h : v = 0
  · simp only [h, decide_true, Bool.true_and, e2, Out.bind_ok, fin, isBor, view, FX.frz, Option.bind_some, t_bl, lift_some]
  · simp only [h, decide_false, Bool.false_and, Out.bind_ok, fin, isBor, view, FX.frz, Option.bind_some, t_bl, lift_some]
theorem law_sets_ok {n : Nat} {os : List Str} {most : Int} {m : List Ob} (ho : os.length ≤ 4) : evFn P rp (n + 2) i_law_sets [] [.d (.lst (os.map .str)), .d (.int most)] m = .ok (.f (.lst ((lawSets os most).map strsD))) ⟨[], m⟩ := by
  rw [evFn_eq hp.f_law_sets]
  refine run_ret rfl rfl rfl ?_
  simp only [fn_law_sets, b_law_sets]
  have hL := LINE_big
  have L0 : (0 : Nat) ≤ LINE := le_line (by decide)
  have b2 : (0 : Int) ≤ 4 ∧ (4 : Int) ≤ 1000 ∧ big 2 = true := ⟨by omega, by omega, by unfold big; rw [decide_eq_true_eq]; omega⟩
  refine step_nx (K := fun o => outR o = some (.f (.lst ((lawSets os most).map strsD)), m)) (s1 := ⟨[.val (.lst (os.map .str)), .val (.int most), .own (.lst []), .no, .no, .no], m⟩) (by simp_arith [L0]) ?_
  have he : evI (gAt P rp n) (.range [(.o2 .pow (.const (.int (2))) (.const (.int (4))))]) ⟨[.val (.lst (os.map .str)), .val (.int most), .own (.lst []), .no, .no, .no], m⟩ = .ok ((List.range 16).map fun i : Nat => .int i) ⟨[.val (.lst (os.map .str)), .val (.int most), .own (.lst []), .no, .no, .no], m⟩ := by
    have h1 : evs (gAt P rp n) [(.o2 .pow (.const (.int (2))) (.const (.int (4))))] ⟨[.val (.lst (os.map .str)), .val (.int most), .own (.lst []), .no, .no, .no], m⟩ = .ok [.int ((16 : Nat) : Int)] ⟨[.val (.lst (os.map .str)), .val (.int most), .own (.lst []), .no, .no, .no], m⟩ := by
      simp_arith [b2, and_self, p_16]
    rw [evI_range, h1, Out.bind_ok, range_lit (by decide), lift_some]
  refine step_for (K := fun o => outR o = some (.f (.lst ((lawSets os most).map strsD)), m)) (xs := List.range 16) (dOf := fun i : Nat => .int i) (s1 := ⟨[.val (.lst (os.map .str)), .val (.int most), .own (.lst []), .no, .no, .no], m⟩)
    (fun pre s => ∃ x y, s = ⟨[.val (.lst (os.map .str)), .val (.int most), .own (.lst (((pre.filter (lawOk os most)).map (lawRow os)).map strsD)), x, y, .no], m⟩) he ?_ ⟨.no, .no, rfl⟩ ?_
  · rintro pre a post _ e0 ⟨x, y, rfl⟩
    have hpl : pre.length < 16 := by
      have := congrArg List.length e0
      rw [List.length_range, List.length_append, List.length_cons] at this
      omega
    have hfl : (pre.filter (lawOk os most)).length + (0 + 1) ≤ LINE := by
      have := List.length_filter_le (lawOk os most) pre
      omega
    have c1 : ev (gAt P rp n) (.comp [5] (.slot 5) (.range [(.o1 .len (.slotB 0))]) [(.o2 .eq (.o2 .band (.o2 .shr (.slotB 3) (.slotB 5)) (.const (.int (1)))) (.const (.int (1))))] (.o2 .idx (.slotB 0) (.slotB 5)))
        ⟨[.val (.lst (os.map .str)), .val (.int most), .own (.lst (((pre.filter (lawOk os most)).map (lawRow os)).map strsD)), .val (.int a), y, .no], m⟩ = .ok (.f (.lst ((lawRow os a).map .str))) ⟨[.val (.lst (os.map .str)), .val (.int most), .own (.lst (((pre.filter (lawOk os most)).map (lawRow os)).map strsD)), .val (.int a), y, .no], m⟩ := by
      have h2 : evs (gAt P rp n) [(.o1 .len (.slotB 0))] ⟨[.val (.lst (os.map .str)), .val (.int most), .own (.lst (((pre.filter (lawOk os most)).map (lawRow os)).map strsD)), .val (.int a), y, .no], m⟩ = .ok [.int (os.length : Int)] ⟨[.val (.lst (os.map .str)), .val (.int most), .own (.lst (((pre.filter (lawOk os most)).map (lawRow os)).map strsD)), .val (.int a), y, .no], m⟩ := by
        simp_arith [List.length_map]
      rw [comp_val (xs := List.range os.length) (dOf := fun i : Nat => .int i) (fm := fun k => if decide (((a : Int) / 2 ^ k) % 2 = 1) then (os[k]?).map .str else none) (by rw [evI_range, h2, Out.bind_ok, range_lit (by omega), lift_some]) rfl
        (fun k hk => ⟨[.val (.lst (os.map .str)), .val (.int most), .own (.lst (((pre.filter (lawOk os most)).map (lawRow os)).map strsD)), .val (.int a), y, .val (.int k)], by ac_rfl, by
          have hk := List.mem_range.mp hk
          have h0 : (0 : Int) ≤ (k : Int) := by omega
          have h1 : (0 : Int) ≤ (a : Int) / 2 ^ k ∧ (1 : Int) = 1 := ⟨Int.ediv_nonneg (by omega) (Int.pow_nonneg (by decide)), rfl⟩
          have hi : op2 .idx (.lst (os.map .str)) (.int k) = some (.d (.str os[k])) := iAtL (by rw [List.getElem?_map, List.getElem?_eq_getElem hk]; rfl)
          have hs : (os[k]?).map D.str = some (.str os[k]) := by rw [List.getElem?_eq_getElem hk]; rfl
          by_cases hb : ((a : Int) / 2 ^ k) % 2 = 1
          · have hb' : ((((a : Int) / 2 ^ k) % 2) == 1) = true := by simpa using hb
            have hd : decide (((a : Int) / 2 ^ k) % 2 = 1) = true := decide_eq_true hb
            simp_arith [h0, h1, Int.toNat_natCast, hd, hb', decide_true, hi, hs, and_self]
          · have hb' : ((((a : Int) / 2 ^ k) % 2) == 1) = false := by simpa using hb
            have hd : decide (((a : Int) / 2 ^ k) % 2 = 1) = false := decide_eq_false hb
            simp_arith [h0, h1, Int.toNat_natCast, hd, hb', decide_false, and_self]⟩) (by simp; omega)]
      congr 3
      unfold lawRow
      rw [List.map_filterMap]
      refine congrArg (fun f => List.filterMap f _) (funext fun k => ?_)
      split <;> rfl
    have hasg : ex (gAt P rp n) (.asg (.slot 4) (.o1 .tuple (.comp [5] (.slot 5) (.range [(.o1 .len (.slotB 0))]) [(.o2 .eq (.o2 .band (.o2 .shr (.slotB 3) (.slotB 5)) (.const (.int (1)))) (.const (.int (1))))] (.o2 .idx (.slotB 0) (.slotB 5)))))
        ⟨[.val (.lst (os.map .str)), .val (.int most), .own (.lst (((pre.filter (lawOk os most)).map (lawRow os)).map strsD)), .val (.int a), y, .no], m⟩ = .ok .nx ⟨[.val (.lst (os.map .str)), .val (.int most), .own (.lst (((pre.filter (lawOk os most)).map (lawRow os)).map strsD)), .val (.int a), .val (strsD (lawRow os a)), .no], m⟩ := by
      simp_arith [c1]
      rfl
    have hcond : tst (.and (.o2 .eq (.o2 .shr (.slotB 3) (.o1 .len (.slotB 0))) (.const (.int (0)))) (.o2 .le (.o1 .len (.slotB 4)) (.slotB 1))) (ev (gAt P rp n) (.and (.o2 .eq (.o2 .shr (.slotB 3) (.o1 .len (.slotB 0))) (.const (.int (0)))) (.o2 .le (.o1 .len (.slotB 4)) (.slotB 1)))) ⟨[.val (.lst (os.map .str)), .val (.int most), .own (.lst (((pre.filter (lawOk os most)).map (lawRow os)).map strsD)), .val (.int a), .val (strsD (lawRow os a)), .no], m⟩ =
        .ok (lawOk os most a) ⟨[.val (.lst (os.map .str)), .val (.int most), .own (.lst (((pre.filter (lawOk os most)).map (lawRow os)).map strsD)), .val (.int a), .val (strsD (lawRow os a)), .no], m⟩ := by
      exact sets_cond
    have happ : ex (gAt P rp n) (.app 2 (.slot 4)) ⟨[.val (.lst (os.map .str)), .val (.int most), .own (.lst (((pre.filter (lawOk os most)).map (lawRow os)).map strsD)), .val (.int a), .val (strsD (lawRow os a)), .no], m⟩ =
        .ok .nx ⟨[.val (.lst (os.map .str)), .val (.int most), .own (.lst ((((pre.filter (lawOk os most)).map (lawRow os)).map strsD) ++ [strsD (lawRow os a)])), .val (.int a), .val (strsD (lawRow os a)), .no], m⟩ := by
      simp_arith [List.length_map, hfl]
    refine ⟨⟨[.val (.lst (os.map .str)), .val (.int most), .own (.lst ((((pre ++ [a]).filter (lawOk os most)).map (lawRow os)).map strsD)), .val (.int a), .val (strsD (lawRow os a)), .no], m⟩, ?_, _, _, rfl⟩
    rw [asT_slot, Out.bind_ok, exs_cons]
    refine (congrArg (fun o => Out.bind o _) hasg).trans ?_
    rw [Out.bind_ok, exs_cons, ex_ite, hcond, Out.bind_ok]
    cases hok : lawOk os most a with
    | true =>
      rw [if_pos rfl, exs_cons, happ, Out.bind_ok, exs_nil, Out.bind_ok, exs_nil, List.filter_append, List.filter_cons, hok, if_pos rfl, List.filter_nil, List.map_append, List.map_append]
      rfl
    | false =>
      rw [if_neg (by decide), exs_nil, Out.bind_ok, exs_nil, List.filter_append, List.filter_cons, hok, if_neg (by decide), List.filter_nil, List.append_nil]
  · rintro _ ⟨x, y, rfl⟩
    simp_arith [exs_cons]
    rfl
end
end Pv
end

section
set_option Elab.async false
set_option linter.all false
set_option maxRecDepth 100000
/-! K7: the law's margins. -/
namespace Pv
open PySem
theorem lawOwed_snoc (due : Int) (cs : List (Int × Int)) (u : Int) (pre : List (Int × Int)) (a : Int × Int) : lawOwed due cs u (pre ++ [a]) = if a.1 ≤ u then owed due cs pre.length else lawOwed due cs u pre := by
  unfold lawOwed
  rw [List.zipIdx_append, List.foldl_append]
  simp
theorem minI_min : ∀ (xs : List Int) (x : Int), minI x xs ≤ x ∧ (∀ y ∈ xs, minI x xs ≤ y) ∧ (minI x xs = x ∨ minI x xs ∈ xs)
  | [], x => ⟨Int.le_refl _, (fun y h => by cases h), .inl rfl⟩
  | y :: r, x => by
    unfold minI
    by_cases h : y < x
    · rw [if_pos h]
      obtain ⟨h1, h2, h3⟩ := minI_min r y
      refine ⟨by omega, fun z hz => ?_, ?_⟩
      · rcases List.mem_cons.mp hz with rfl | hz
        · exact h1
        · exact h2 z hz
      · rcases h3 with h3 | h3
        · exact .inr (by rw [h3]; exact .head _)
        · exact .inr (.tail _ h3)
    · rw [if_neg h]
      obtain ⟨h1, h2, h3⟩ := minI_min r x
      refine ⟨h1, fun z hz => ?_, ?_⟩
      · rcases List.mem_cons.mp hz with rfl | hz
        · omega
        · exact h2 z hz
      · rcases h3 with h3 | h3
        · exact .inl h3
        · exact .inr (.tail _ h3)
theorem minL_spec {xs : List Int} (h : xs ≠ []) : (∀ y ∈ xs, minL xs ≤ y) ∧ minL xs ∈ xs := by
  cases xs with
  | nil => exact (h rfl).elim
  | cons x xs =>
    obtain ⟨h1, h2, h3⟩ := minI_min xs x
    refine ⟨fun y hy => ?_, ?_⟩
    · rcases List.mem_cons.mp hy with rfl | hy
      · exact h1
      · exact h2 y hy
    · rcases h3 with h3 | h3
      · show minI x xs ∈ _
        rw [h3]; exact .head _
      · exact .tail _ h3
section
variable {P : Prog} {rp : D → Option Str}
variable (hp : Has P)
include hp
abbrev mS (p : Pl) (day : Int) (found : Sl) (some_ : List Str) (sums : Sl) (payer until_ owed_ k at_ part kept : Sl) (m : List Ob) : S :=
  ⟨[.val p.parts, .val (.int day), .val (.int p.fl), .val (.int p.lt), .val (.int p.sl), .val (.int p.wt), found, .val (strsD some_), sums, payer, until_, owed_, k, at_, part, kept], m⟩
def bPay : List Stm := [.par [10, 11] [(.o2 .sub (.o2 .sub (.slotB 1) (.slotB 3)) (.ite (.o2 .isin (.o2 .idx (.slotB 9) (.const (.int (1)))) (.slotB 7)) (.slot 5) (.const (.int (0))))), (.const (.int (0)))], .forr (.tup [(.slot 12), (.tup [(.slot 13), (.slot 14)])]) (.enum (.o2 .idx (.slotB 0) (.const (.int (1))))) [.asg (.slot 11) (.ite (.o2 .le (.slotB 13) (.slotB 10)) (.call i_law_owed [.e (.slot 0), .e (.slot 9), .e (.slot 12)]) (.slot 11))], .app 8 (.slot 11)]
def bSet : List Stm := [.asg (.slot 8) (.lst []), .forr (.slot 9) (.seq (.o2 .idx (.slotB 0) (.const (.int (0))))) bPay, .asg (.slot 15) (.slice (.o1 .sorted (.slotB 8)) (.const .non) (.o2 .max (.const (.int (0))) (.o2 .sub (.o1 .len (.slotB 8)) (.slotB 2)))), .app 6 (.o2 .add (.o2 .sub (.o2 .idx (.slotB 0) (.const (.int (3)))) (.call i_law_spent [.e (.slot 0), .e (.slot 1)])) (.o1 .sum (.slotB 15)))]
/-- one payer -/
theorem m_pay {n : Nat} {p : Pl} {day : Int} {q : Pay} {some_ : List Str} {m : List Ob} {found u ow k at_ part kept : Sl} {sums : List Int} (hs : p.Sm) (hq : big q.2.2 = true) (hl : sums.length + (0 + 1) ≤ LINE) :
    ∃ k' a' p', exs (gAt P rp (n + 1)) bPay (mS p day found some_ (.own (.lst (sums.map .int))) (.val (payD q)) u ow k at_ part kept m) =
      .ok .nx (mS p day found some_ (.own (.lst ((sums ++ [lawOwed q.2.2 p.calls (lawUntil p day q some_) p.calls]).map .int))) (.val (payD q)) (.val (.int (lawUntil p day q some_))) (.val (.int (lawOwed q.2.2 p.calls (lawUntil p day q some_) p.calls))) k' a' p' kept m) := by
  have h1 : ex (gAt P rp (n + 1)) (.par [10, 11] [(.o2 .sub (.o2 .sub (.slotB 1) (.slotB 3)) (.ite (.o2 .isin (.o2 .idx (.slotB 9) (.const (.int (1)))) (.slotB 7)) (.slot 5) (.const (.int (0))))), (.const (.int (0)))]) (mS p day found some_ (.own (.lst (sums.map .int))) (.val (payD q)) u ow k at_ part kept m) =
      .ok .nx (mS p day found some_ (.own (.lst (sums.map .int))) (.val (payD q)) (.val (.int (lawUntil p day q some_))) (.val (.int 0)) k at_ part kept m) := by
    unfold lawUntil
    by_cases h : q.2.1 ∈ some_
    · simp_arith [payD, strsD, inD_str, h, decide_true]
      rfl
    · simp_arith [payD, strsD, inD_str, h, decide_false]
      rfl
  have K : ∀ o : Out Fl, (∃ k' a' p', o = .ok .nx (mS p day found some_ (.own (.lst ((sums ++ [lawOwed q.2.2 p.calls (lawUntil p day q some_) p.calls]).map .int))) (.val (payD q)) (.val (.int (lawUntil p day q some_))) (.val (.int (lawOwed q.2.2 p.calls (lawUntil p day q some_) p.calls))) k' a' p' kept m)) →
      (fun o => ∃ k' a' p', o = Out.ok Fl.nx (mS p day found some_ (.own (.lst ((sums ++ [lawOwed q.2.2 p.calls (lawUntil p day q some_) p.calls]).map .int))) (.val (payD q)) (.val (.int (lawUntil p day q some_))) (.val (.int (lawOwed q.2.2 p.calls (lawUntil p day q some_) p.calls))) k' a' p' kept m)) o := fun o h => h
  refine K _ (step_nx (K := fun o => ∃ k' a' p', o = Out.ok Fl.nx (mS p day found some_ (.own (.lst ((sums ++ [lawOwed q.2.2 p.calls (lawUntil p day q some_) p.calls]).map .int))) (.val (payD q)) (.val (.int (lawUntil p day q some_))) (.val (.int (lawOwed q.2.2 p.calls (lawUntil p day q some_) p.calls))) k' a' p' kept m)) h1 ?_)
  refine step_enum (K := fun o => ∃ k' a' p', o = Out.ok Fl.nx (mS p day found some_ (.own (.lst ((sums ++ [lawOwed q.2.2 p.calls (lawUntil p day q some_) p.calls]).map .int))) (.val (payD q)) (.val (.int (lawUntil p day q some_))) (.val (.int (lawOwed q.2.2 p.calls (lawUntil p day q some_) p.calls))) k' a' p' kept m)) (xs := p.calls) (dOf := prD)
    (s1 := mS p day found some_ (.own (.lst (sums.map .int))) (.val (payD q)) (.val (.int (lawUntil p day q some_))) (.val (.int 0)) k at_ part kept m)
    (fun pre s => ∃ k' a' p', s = mS p day found some_ (.own (.lst (sums.map .int))) (.val (payD q)) (.val (.int (lawUntil p day q some_))) (.val (.int (lawOwed q.2.2 p.calls (lawUntil p day q some_) pre))) k' a' p' kept m) (by simp_arith [enumI]) ?_ ⟨k, at_, part, rfl⟩ ?_
  · rintro pre a post _ e0 ⟨k', a', p', rfl⟩
    refine ⟨mS p day found some_ (.own (.lst (sums.map .int))) (.val (payD q)) (.val (.int (lawUntil p day q some_))) (.val (.int (lawOwed q.2.2 p.calls (lawUntil p day q some_) (pre ++ [a])))) (.val (.int pre.length)) (.val (.int a.1)) (.val (.int a.2)) kept m, ?_, _, _, _, rfl⟩
    rw [lawOwed_snoc]
    have ho := law_owed_ok (n := n) (rp := rp) (m := m) (i := (pre.length : Int)) hp hs hq
    by_cases h : a.1 ≤ lawUntil p day q some_
    · rw [if_pos h]
      simp_arith [exs_cons, prD, h, decide_true, ho]
    · rw [if_neg h]
      simp_arith [exs_cons, prD, h, decide_false]
  · rintro _ ⟨k', a', p', rfl⟩
    refine ⟨k', a', p', ?_⟩
    simp_arith [exs_cons, List.length_map, hl, List.map_append]
/-- one set -/
theorem m_set {n : Nat} {p : Pl} {day : Int} {some_ : List Str} {m : List Ob} {sums py u ow k at_ part kept : Sl} {found : List Int} (hs : p.Sm) (hl : found.length + (0 + 1) ≤ LINE) :
    ∃ sums' py' u' ow' k' a' p' kp', exs (gAt P rp (n + 1)) bSet (mS p day (.own (.lst (found.map .int))) some_ sums py u ow k at_ part kept m) =
      .ok .nx (mS p day (.own (.lst ((found ++ [lawRest p day some_]).map .int))) some_ sums' py' u' ow' k' a' p' kp' m) := by
  refine step_nx (K := fun o => ∃ sums' py' u' ow' k' a' p' kp', o = Out.ok Fl.nx (mS p day (.own (.lst ((found ++ [lawRest p day some_]).map .int))) some_ sums' py' u' ow' k' a' p' kp' m)) (s1 := mS p day (.own (.lst (found.map .int))) some_ (.own (.lst [])) py u ow k at_ part kept m) (by simp_arith []) ?_
  have hn := hs.np
  refine step_for (K := fun o => ∃ sums' py' u' ow' k' a' p' kp', o = Out.ok Fl.nx (mS p day (.own (.lst ((found ++ [lawRest p day some_]).map .int))) some_ sums' py' u' ow' k' a' p' kp' m)) (xs := p.pays) (dOf := payD) (s1 := mS p day (.own (.lst (found.map .int))) some_ (.own (.lst [])) py u ow k at_ part kept m)
    (fun pre s => ∃ py' u' ow' k' a' p', s = mS p day (.own (.lst (found.map .int))) some_ (.own (.lst ((pre.map fun q => lawOwed q.2.2 p.calls (lawUntil p day q some_) p.calls).map .int))) py' u' ow' k' a' p' kept m) (by simp_arith []) ?_ ⟨py, u, ow, k, at_, part, rfl⟩ ?_
  · rintro pre a post _ e0 ⟨py', u', ow', k', a', p', rfl⟩
    have ha : big a.2.2 = true := hs.due a (by rw [e0]; simp)
    have hpl : (pre.map fun q => lawOwed q.2.2 p.calls (lawUntil p day q some_) p.calls).length + (0 + 1) ≤ LINE := by
      rw [List.length_map]
      rw [e0, List.length_append, List.length_cons] at hn
      exact le_line (by omega)
    obtain ⟨k2, a2, p2, e⟩ := m_pay (rp := rp) (n := n) (day := day) (some_ := some_) (m := m) (found := .own (.lst (found.map .int))) (u := u') (ow := ow') (k := k') (at_ := a') (part := p') (kept := kept) hp hs ha hpl
    refine ⟨mS p day (.own (.lst (found.map .int))) some_ (.own (.lst (((pre ++ [a]).map fun q => lawOwed q.2.2 p.calls (lawUntil p day q some_) p.calls).map .int))) (.val (payD a)) (.val (.int (lawUntil p day a some_))) (.val (.int (lawOwed a.2.2 p.calls (lawUntil p day a some_) p.calls))) k2 a2 p2 kept m, ?_, _, _, _, _, _, _, rfl⟩
    rw [asT_slot, Out.bind_ok, List.map_append]
    exact e
  · rintro _ ⟨py', u', ow', k', a', p', rfl⟩
    refine ⟨.own (.lst ((lawCome p day some_).map .int)), py', u', ow', k', a', p', .own (.lst ((cut (sortI (lawCome p day some_)) none (some (if (((lawCome p day some_).length : Int) - p.fl) > 0 then ((lawCome p day some_).length : Int) - p.fl else 0))).map .int)), ?_⟩
    have hsp := law_spent_ok (rp := rp) (n := n) (day := day) (m := m) hp hs
    have hc : (p.pays.map fun q => lawOwed q.2.2 p.calls (lawUntil p day q some_) p.calls) = lawCome p day some_ := rfl
    rw [hc]
    generalize hco : lawCome p day some_ = co
    have h1 : ex (gAt P rp (n + 1)) (.asg (.slot 15) (.slice (.o1 .sorted (.slotB 8)) (.const .non) (.o2 .max (.const (.int (0))) (.o2 .sub (.o1 .len (.slotB 8)) (.slotB 2))))) (mS p day (.own (.lst (found.map .int))) some_ (.own (.lst (co.map .int))) py' u' ow' k' a' p' kept m) =
        .ok .nx (mS p day (.own (.lst (found.map .int))) some_ (.own (.lst (co.map .int))) py' u' ow' k' a' p' (.own (.lst ((cut (sortI co) none (some (if ((co.length : Int) - p.fl) > 0 then (co.length : Int) - p.fl else 0))).map .int))) m) := by
      simp_arith [intsOf_int, List.length_map, cut_map, gt_iff_lt]
    rw [exs_cons]
    refine (congrArg (fun o => Out.bind o _) h1).trans ?_
    rw [Out.bind_ok]
    have hr : lawRest p day some_ = p.res - spent p.outl day + (cut (sortI co) none (some (if ((co.length : Int) - p.fl) > 0 then (co.length : Int) - p.fl else 0))).sum := by
      unfold lawRest leftBy
      rw [hco]
    rw [hr]
    simp_arith [exs_cons, hsp, intsOf_int, List.length_map, hl, List.map_append]
theorem law_margin_ok {n : Nat} {p : Pl} {day : Int} {m : List Ob} (hs : p.Sm) (ho : (lawOffs p.pays).length ≤ 4) (hsl : 0 ≤ p.sl) : evFn P rp (n + 3) i_law_margin [] [.d p.parts, .d (.int day)] m = .ok (.d (.int (lawMargin p day))) ⟨[], m⟩ := by
  rw [evFn_eq hp.f_law_margin]
  refine run_ret rfl rfl rfl ?_
  have hb : fn_law_margin.body = [.asg (.tup [(.slot 2), (.slot 3), (.slot 4), (.slot 5)]) (.o2 .idx (.slotB 0) (.const (.int (4)))), .asg (.slot 6) (.lst []), .forr (.slot 7) (.seq (.call i_law_sets [.e (.call i_law_offices [.e (.slot 0)]), .e (.slot 4)])) bSet, .ret (.o1 .min (.slotB 6))] := rfl
  rw [hb]
  refine step_nx (K := fun o => outR o = some (.d (.int (lawMargin p day)), m)) (s1 := ⟨[.val p.parts, .val (.int day), .val (.int p.fl), .val (.int p.lt), .val (.int p.sl), .val (.int p.wt), .no, .no, .no, .no, .no, .no, .no, .no, .no, .no], m⟩) (by simp_arith [fn_law_margin]) ?_
  refine step_nx (K := fun o => outR o = some (.d (.int (lawMargin p day)), m)) (s1 := ⟨[.val p.parts, .val (.int day), .val (.int p.fl), .val (.int p.lt), .val (.int p.sl), .val (.int p.wt), .own (.lst []), .no, .no, .no, .no, .no, .no, .no, .no, .no], m⟩) (by simp_arith []) ?_
  have hlo := law_offices_ok (rp := rp) (n := n) (m := m) hp hs
  have hls := law_sets_ok (rp := rp) (n := n) (m := m) (most := p.sl) hp ho
  refine step_for (K := fun o => outR o = some (.d (.int (lawMargin p day)), m)) (xs := lawSets (lawOffs p.pays) p.sl) (dOf := strsD) (s1 := ⟨[.val p.parts, .val (.int day), .val (.int p.fl), .val (.int p.lt), .val (.int p.sl), .val (.int p.wt), .own (.lst []), .no, .no, .no, .no, .no, .no, .no, .no, .no], m⟩)
    (fun pre s => ∃ x a b c d e f g h, s = ⟨[.val p.parts, .val (.int day), .val (.int p.fl), .val (.int p.lt), .val (.int p.sl), .val (.int p.wt), .own (.lst ((pre.map (lawRest p day)).map .int)), x, a, b, c, d, e, f, g, h], m⟩) (by simp_arith [hlo, hls]) ?_ ⟨.no, .no, .no, .no, .no, .no, .no, .no, .no, rfl⟩ ?_
  · rintro pre a post _ e0 ⟨x, a1, b1, c1, d1, e1, f1, g1, h1, rfl⟩
    have hpl : (pre.map (lawRest p day)).length + (0 + 1) ≤ LINE := by
      have := lawSets_len (lawOffs p.pays) p.sl
      rw [List.length_map]
      rw [e0, List.length_append, List.length_cons] at this
      exact le_line (by omega)
    obtain ⟨s1, s2, s3, s4, s5, s6, s7, s8, e⟩ := m_set (rp := rp) (n := n) (day := day) (some_ := a) (m := m) (sums := a1) (py := b1) (u := c1) (ow := d1) (k := e1) (at_ := f1) (part := g1) (kept := h1) (found := pre.map (lawRest p day)) hp hs hpl
    refine ⟨mS p day (.own (.lst (((pre ++ [a]).map (lawRest p day)).map .int))) a s1 s2 s3 s4 s5 s6 s7 s8 m, ?_, _, _, _, _, _, _, _, _, _, rfl⟩
    rw [asT_slot, Out.bind_ok, List.map_append]
    exact e
  · rintro _ ⟨x, a1, b1, c1, d1, e1, f1, g1, h1, rfl⟩
    have hne := lawSets_ne (lawOffs p.pays) p.sl hsl
    unfold lawMargin
    cases e : (lawSets (lawOffs p.pays) p.sl).map (lawRest p day) with
    | nil => exact (hne (List.map_eq_nil_iff.mp e)).elim
    | cons y ys => simp_arith [exs_cons, intsOf_cons, intsOf_int, minL]
theorem law_least_ok {n : Nat} {p : Pl} {m : List Ob} (hs : p.Sm) (ho : (lawOffs p.pays).length ≤ 4) (hsl : 0 ≤ p.sl) : evFn P rp (n + 4) i_law_least [] [.d p.parts] m = .ok (.d (.int (lawLeast p))) ⟨[], m⟩ := by
  rw [evFn_eq hp.f_law_least]
  refine run_ret rfl rfl rfl ?_
  simp only [fn_law_least, b_law_least]
  have hn := hs.no
  have c1 : ev (gAt P rp (n + 2)) (.comp [1, 2] (.tup [(.slot 1), (.slot 2)]) (.seq (.o2 .idx (.slotB 0) (.const (.int (2))))) [] (.slot 1)) ⟨[.val p.parts, .no, .no], m⟩ = .ok (.f (.lst (p.outl.map fun c => .int c.1))) ⟨[.val p.parts, .no, .no], m⟩ := by
    rw [comp_val (xs := p.outl) (dOf := prD) (fm := fun c => some (.int c.1)) (by simp_arith []) rfl (fun a _ => ⟨[.val p.parts, .val (.int a.1), .val (.int a.2)], by ac_rfl, by simp_arith [prD]⟩) (le_line (by omega)), fm_map]
  have c2 : ev (gAt P rp (n + 2)) (.comp [1] (.slot 1) (.seq (.o2 .add (.lst [(.const (.int (0)))]) (.comp [1, 2] (.tup [(.slot 1), (.slot 2)]) (.seq (.o2 .idx (.slotB 0) (.const (.int (2))))) [] (.slot 1)))) [] (.call i_law_margin [.e (.slot 0), .e (.slot 1)])) ⟨[.val p.parts, .no, .no], m⟩ =
      .ok (.f (.lst ((lawDays p).map fun d => .int (lawMargin p d)))) ⟨[.val p.parts, .no, .no], m⟩ := by
    rw [comp_val (xs := lawDays p) (dOf := .int) (fm := fun d => some (.int (lawMargin p d))) (by
      simp_arith [c1, List.length_map, lawDays]
      rw [List.map_map]; rfl) rfl (fun a _ => ⟨[.val p.parts, .val (.int a), .no], by ac_rfl, by
        have := law_margin_ok (rp := rp) (n := n) (day := a) (m := m) hp hs ho hsl
        simp_arith [this]⟩) (by
        unfold lawDays
        rw [List.length_cons, List.length_map]
        exact le_line (by omega)), fm_map]
  simp_arith [exs_cons, c2, intsOf_map]
  unfold lawLeast
  cases e : (lawDays p).map (lawMargin p) with
  | nil => unfold lawDays at e; cases e
  | cons y ys => simp_arith [minL]
end
end Pv
end

section
set_option Elab.async false
set_option linter.all false
set_option maxRecDepth 100000
/-! K8: the urn. -/
namespace Pv
open PySem
abbrev urnD (a b c : Int) : Ob := .lst [.int a, .int b, .int c]
def U (mz : List Ob) (a b c : Int) : List Ob := mz ++ [urnD a b c]
theorem uget {mz : List Ob} {a b c : Int} : (U mz a b c)[mz.length]? = some (urnD a b c) := by simp [U]
theorem uset {mz : List Ob} {a b c a' b' c' : Int} : (U mz a b c).set mz.length (urnD a' b' c') = U mz a' b' c' := by simp [U]
theorem big_fmod (x : Int) : big (x.fmod 2147483629) = true := by
  have h1 : 0 ≤ x.fmod 2147483629 := Int.fmod_nonneg_of_pos _ (by omega)
  have h2 : x.fmod 2147483629 < 2147483629 := Int.fmod_lt_of_pos _ (by omega)
  unfold big
  rw [decide_eq_true_eq]
  omega
theorem pl0 : place (0 + 1 + 1 + 1) 0 = some 0 := rfl
theorem pl1 : place (0 + 1 + 1 + 1) 1 = some 1 := rfl
theorem pl2 : place (0 + 1 + 1 + 1) 2 = some 2 := rfl
theorem set0 {x y z w : D} : [x, y, z].set 0 w = [w, y, z] := rfl
theorem set1 {x y z w : D} : [x, y, z].set 1 w = [x, w, z] := rfl
theorem set2 {x y z w : D} : [x, y, z].set 2 w = [x, y, w] := rfl
theorem asT_sub {g : G} {s : S} {j : Nat} {i : E} {x : D} : asT g (.sub j i) x s = (lift s (isSub s j)).bind fun _ s => (ev g i s).bind fun k s => match getN s.ρ j, k.frz with
      | .own (.lst xs), .int n => (match place xs.length n with
        | some m => .ok () (s.set j (.own (.lst (xs.set m x))))
        | none => .err)
      | .own (.dic kvs), k => (match putKV kvs k x with
        | some kvs => .ok () (s.set j (.own (.dic kvs)))
        | none => .err)
      | .val (.ref l), .int n => (match s.m[l]? with
        | some (.lst xs) => (match place xs.length n with
          | some m => .ok () ⟨s.ρ, s.m.set l (.lst (xs.set m x))⟩
          | none => .err)
        | _ => .err)
      | _, _ => .err := rfl
theorem b40009 : big 40009 = true := by unfold big; rw [decide_eq_true_eq]; omega
theorem b15013 : big 15013 = true := by unfold big; rw [decide_eq_true_eq]; omega
theorem b3 : big 3 = true := by unfold big; rw [decide_eq_true_eq]; omega
/-- a draw: what comes, what is left -/
structure Draw (a' : Int) : Prop where
  pos : 0 ≤ a'
section
variable {P : Prog} {rp : D → Option Str} {mz : List Ob}
variable (hp : Has P)
include hp
theorem take_ok {n : Nat} {a b c many : Int} (ha : 0 ≤ a) (hm : 0 < many) (hm2 : many < 1073741824) :
    ∃ r a' b' c', (0 ≤ r ∧ r < many) ∧ 0 ≤ a' ∧ evFn P rp (n + 2) i_law_take [] [.d (.ref mz.length), .d (.int many)] (U mz a b c) = .ok (.d (.int r)) ⟨[], U mz a' b' c'⟩ := by
  have hc : (0 < many ∧ many < 1073741824) = True := eq_true ⟨hm, hm2⟩
  by_cases h : 0 < a
  · refine ⟨a % many, a / many, b, c, ⟨Int.emod_nonneg _ (by omega), Int.emod_lt_of_pos _ hm⟩, Int.ediv_nonneg ha (by omega), ?_⟩
    rw [evFn_eq hp.f_law_take]
    refine run_ret rfl rfl rfl ?_
    simp only [fn_law_take, b_law_take]
    have h' : (0 : Int) < a := h
    simp_arith [exs_cons, uget, h', decide_true, hc, asT_sub, isSub, pl0, set0, uset]
  · have hz : (many ≠ 0) = True := eq_true (by omega)
    generalize hst : ((b * 40009 + 15013 * (c + 1)).fmod 2147483629) = st
    have hbs : big st = true := by rw [← hst]; exact big_fmod _
    generalize hb' : ((st * (st.fmod 5003 + 30011) + 3 * (c + 1)).fmod 2147483629) = b'
    refine ⟨(b'.fdiv 907).fmod many, a, b', c + 1, ⟨Int.fmod_nonneg_of_pos _ hm, Int.fmod_lt_of_pos _ hm⟩, ha, ?_⟩
    rw [evFn_eq hp.f_law_take]
    refine run_ret rfl rfl rfl ?_
    simp only [fn_law_take, b_law_take]
    have n1 : ((2147483629 : Int) ≠ 0) = True := eq_true (by decide)
    have n2 : ((5003 : Int) ≠ 0) = True := eq_true (by decide)
    have n3 : ((907 : Int) ≠ 0 ∧ (907 : Int).natAbs < 1073741824) = True := eq_true ⟨by decide, by decide⟩
    refine step_nx (K := fun o => outR o = some (.d (.int ((b'.fdiv 907).fmod many)), U mz a b' (c + 1))) (s1 := ⟨[.val (.ref mz.length), .val (.int many), .no, .no], U mz a b c⟩) (by simp_arith [uget, h, decide_false]) ?_
    refine step_nx (K := fun o => outR o = some (.d (.int ((b'.fdiv 907).fmod many)), U mz a b' (c + 1))) (s1 := ⟨[.val (.ref mz.length), .val (.int many), .no, .no], U mz a b (c + 1)⟩) (by simp_arith [uget, asT_sub, isSub, pl2, set2, uset]) ?_
    refine step_nx (K := fun o => outR o = some (.d (.int ((b'.fdiv 907).fmod many)), U mz a b' (c + 1))) (s1 := ⟨[.val (.ref mz.length), .val (.int many), .no, .val (.int st)], U mz a b (c + 1)⟩) (by simp_arith [uget, b40009, b15013, Bool.or_true, Bool.true_or, n1, hst]) ?_
    refine step_nx (K := fun o => outR o = some (.d (.int ((b'.fdiv 907).fmod many)), U mz a b' (c + 1))) (s1 := ⟨[.val (.ref mz.length), .val (.int many), .no, .val (.int st)], U mz a b' (c + 1)⟩) (by simp_arith [uget, hbs, b3, Bool.or_true, Bool.true_or, n1, n2, hb', asT_sub, isSub, pl1, set1, uset]) ?_
    simp_arith [exs_cons, uget, n3, hz]
theorem of_ok {n : Nat} {a b c : Int} {xs : List D} (ha : 0 ≤ a) (h0 : xs ≠ []) (hl : xs.length < 1000) :
    ∃ x a' b' c', x ∈ xs ∧ 0 ≤ a' ∧ evFn P rp (n + 3) i_law_of [] [.d (.ref mz.length), .d (.lst xs)] (U mz a b c) = .ok (.d x) ⟨[], U mz a' b' c'⟩ := by
  have hpos : 0 < xs.length := List.length_pos_iff.mpr h0
  obtain ⟨r, a', b', c', hr, ha', e⟩ := take_ok (rp := rp) (mz := mz) (n := n) (b := b) (c := c) (many := xs.length) hp ha (by omega) (by omega)
  have hk : r.toNat < xs.length := by omega
  refine ⟨xs[r.toNat], a', b', c', List.getElem_mem hk, ha', ?_⟩
  rw [evFn_eq hp.f_law_of]
  refine run_ret rfl rfl rfl ?_
  simp only [fn_law_of, b_law_of]
  have hi : op2 .idx (.lst xs) (.int r) = some (.d xs[r.toNat]) := by
    have := iAtL (xs := xs) (k := r.toNat) (x := xs[r.toNat]) (List.getElem?_eq_getElem hk)
    rwa [Int.toNat_of_nonneg hr.1] at this
  simp_arith [exs_cons, e, hi]
def letters : Str := "abcdefghijklmnopqrstuvwxyz"
omit hp in
theorem letters_len : letters.length = 26 := rfl
omit hp in
theorem idx_str {z : Str} {k : Nat} (hz : z.length ≤ LINE) (h : k < z.cps.toList.length) : op2 .idx (.str z) (.int k) = some (.d (.str ⟨#[z.cps.toList[k]]⟩)) := by
  have hk : (k : Int) < (z.length : Int) := by
    have : z.cps.toList.length = z.length := by simp [Str.length]
    omega
  have h1 : (0 : Int) ≤ k := by omega
  show (if z.length ≤ LINE then ((place z.length k).bind fun k => z.cps.toList[k]?).map fun c => FX.d (.str ⟨#[c]⟩) else none) = _
  rw [if_pos hz]
  unfold place
  rw [if_pos h1, if_pos hk, Option.bind_some, Int.toNat_natCast, List.getElem?_eq_getElem h]
  rfl
theorem of_letters {n : Nat} {a b c : Int} (ha : 0 ≤ a) :
    ∃ x a' b' c', x ∈ lettersL ∧ 0 ≤ a' ∧ evFn P rp (n + 3) i_law_of [] [.d (.ref mz.length), .d (.str letters)] (U mz a b c) = .ok (.d (.str ⟨#[x]⟩)) ⟨[], U mz a' b' c'⟩ := by
  obtain ⟨r, a', b', c', hr, ha', e⟩ := take_ok (rp := rp) (mz := mz) (n := n) (b := b) (c := c) (many := 26) hp ha (by omega) (by omega)
  have hk : r.toNat < letters.cps.toList.length := by
    have : letters.cps.toList.length = 26 := rfl
    omega
  refine ⟨letters.cps.toList[r.toNat], a', b', c', List.getElem_mem hk, ha', ?_⟩
  rw [evFn_eq hp.f_law_of]
  refine run_ret rfl rfl rfl ?_
  simp only [fn_law_of, b_law_of]
  have hi : op2 .idx (.str letters) (.int r) = some (.d (.str ⟨#[letters.cps.toList[r.toNat]]⟩)) := by
    have := idx_str (z := letters) (k := r.toNat) (by rw [letters_len]; exact le_line (by omega)) hk
    rwa [Int.toNat_of_nonneg hr.1] at this
  have h26 : ((letters.length : Nat) : Int) = 26 := rfl
  have hL : letters.length ≤ LINE := by rw [letters_len]; exact le_line (by omega)
  simp_arith [exs_cons, hL, h26, e, hi]
end
end Pv
end

section
set_option Elab.async false
set_option linter.all false
set_option maxRecDepth 100000
/-! K9: drawn names. -/
namespace Pv
open PySem
def mkS (l : List Nat) : Str := ⟨l.toArray⟩
theorem mkS_len (l : List Nat) : (mkS l).length = l.length := by simp [mkS, Str.length]
theorem mkS_toList (l : List Nat) : (mkS l).cps.toList = l := rfl
theorem mkS_app (l r : List Nat) : mkS l ++ mkS r = mkS (l ++ r) := by
  show Str.append (mkS l) (mkS r) = _
  unfold Str.append mkS
  simp
theorem mkS_inj {l r : List Nat} (h : mkS l = mkS r) : l = r := by
  have := congrArg (fun s : Str => s.cps.toList) h
  simpa [mkS] using this
def Qc : Nat := 113
theorem q_lit : ("q" : Str) = mkS [Qc] := by decide +kernel
theorem e_lit : ("" : Str) = mkS [] := by decide +kernel
def Lt (t : Nat) : Nat := 97 + t
theorem letters_lit : letters = mkS (((List.range 26).map Lt)) := by decide +kernel
theorem lettersL_eq : lettersL = (List.range 26).map Lt := by decide +kernel
theorem Lt_mem {t : Nat} (h : t < 26) : Lt t ∈ lettersL := by
  rw [lettersL_eq]
  exact List.mem_map.mpr ⟨t, List.mem_range.mpr h, rfl⟩
theorem Q_mem : Qc ∈ lettersL := Lt_mem (t := 16) (by decide)
/-- what a name of the turn t is like -/
structure Shp (t : Nat) (x : List Nat) : Prop where
  form : x = [Lt t] ∨ ∃ u v, x = u ++ [Lt t, Qc] ++ v
  len : x.length ≤ 8
  let_ : ∀ c ∈ x, c ∈ lettersL
theorem words_no : ∀ w ∈ wordsL, Qc ∉ w.cps.toList ∧ 2 ≤ w.cps.toList.length := by decide +kernel
theorem Shp.nm {t : Nat} {x : List Nat} (h : Shp t x) : Nm (mkS x) := by
  refine ⟨?_, ?_, h.let_, fun hw => ?_⟩
  · rw [mkS_len]
    rcases h.form with e | ⟨u, v, e⟩
    · rw [e]; simp
    · rw [e]; simp; omega
  · rw [mkS_len]; exact h.len
  · obtain ⟨h1, h2⟩ := words_no _ hw
    rw [mkS_toList] at h1 h2
    rcases h.form with e | ⟨u, v, e⟩
    · rw [e] at h2; simp at h2
    · exact h1 (by rw [e]; simp)
/-- pairs behind one another -/
theorem last_pair {a : Nat} (ha : a ≠ Qc) {u v : List Nat} {b : Nat} (h : List.replicate 7 a ++ [Qc] = u ++ [b, Qc] ++ v) : b = a := by
  have hl := congrArg List.length h
  simp at hl
  have e1 : (List.replicate 7 a ++ [Qc])[u.length + 1]? = some Qc := by rw [h]; simp
  have e2 : (List.replicate 7 a ++ [Qc])[u.length]? = some b := by rw [h]; simp
  have h7 : u.length + 1 = 7 := by
    by_cases hc : u.length + 1 < 7
    · rw [List.getElem?_append_left (by simpa using hc), List.getElem?_replicate] at e1
      rw [if_pos hc] at e1
      exact (ha (Option.some.inj e1)).elim
    · omega
  have h6 : u.length < 7 := by omega
  rw [List.getElem?_append_left (by simpa using h6), List.getElem?_replicate, if_pos h6] at e2
  exact (Option.some.inj e2).symm
def rep7 (t : Nat) : List Nat := List.replicate 7 (Lt t)
def fallback (t : Nat) : List Nat := List.replicate 7 (Lt t) ++ [Qc]
theorem fall_shp {t : Nat} (ht : t < 16) : Shp t (fallback t) := by
  refine ⟨.inr ⟨List.replicate 6 (Lt t), [], ?_⟩, by simp [fallback], fun c hc => ?_⟩
  · unfold fallback
    rw [List.replicate_succ' (n := 6)]
    simp
  · unfold fallback at hc
    rcases List.mem_append.mp hc with h | h
    · rw [List.eq_of_mem_replicate h]; exact Lt_mem (by omega)
    · rw [List.mem_singleton.mp h]; exact Q_mem
theorem fall_new {t t' : Nat} (ht : t < 16) (hne : t' ≠ t) {x : List Nat} (h : Shp t' x) : x ≠ fallback t := by
  intro e
  rcases h.form with f | ⟨u, v, f⟩
  · have := congrArg List.length (f.symm.trans e)
    simp [fallback] at this
  · have := last_pair (a := Lt t) (b := Lt t') (by unfold Lt Qc; omega) (e.symm.trans f)
    unfold Lt at this
    omega
def nameOf (l : List Nat) (r t : Nat) : List Nat := l.take r ++ [Lt t] ++ ([Qc].take l.length) ++ l.drop r
theorem name_shp {l : List Nat} {r t : Nat} (ht : t < 16) (hl : l.length ≤ 6) (hc : ∀ c ∈ l, c ∈ lettersL) : Shp t (nameOf l r t) := by
  refine ⟨?_, ?_, fun c hcm => ?_⟩
  · unfold nameOf
    cases l with
    | nil => exact .inl (by simp)
    | cons x xs => exact .inr ⟨(x :: xs).take r, (x :: xs).drop r, by simp⟩
  · unfold nameOf
    simp only [List.length_append, List.length_take, List.length_drop, List.length_cons, List.length_nil]
    omega
  · unfold nameOf at hcm
    simp only [List.mem_append] at hcm
    rcases hcm with ((h | h) | h) | h
    · exact hc c (List.mem_of_mem_take h)
    · rw [List.mem_singleton.mp h]; exact Lt_mem (by omega)
    · have := List.mem_of_mem_take h
      rw [List.mem_singleton.mp this]; exact Q_mem
    · exact hc c (List.mem_of_mem_drop h)
theorem o_mulS {u : Str} {b : Int} : op2 .mul (.str u) (.int b) = if 0 < u.length ∧ u.length ≤ 16 ∧ 1 < b ∧ b ≤ 1048576 then some (.d (.str ⟨(List.replicate b.toNat u.cps.toList).flatten.toArray⟩)) else none := rfl
theorem range_split {n : Nat} {pre post : List Nat} {a : Nat} (h : List.range n = pre ++ a :: post) : a = pre.length ∧ a < n := by
  have h1 : (List.range n)[pre.length]? = some a := by rw [h]; simp
  have hl := congrArg List.length h
  simp at hl
  rw [List.getElem?_range (by omega)] at h1
  have := Option.some.inj h1
  omega
section
variable {P : Prog} {rp : D → Option Str} {mz : List Ob}
variable (hp : Has P)
include hp
abbrev nS (mz : List Ob) (found : List (List Nat)) (t : Int) (size name lap at_ : Sl) (m : List Ob) : S :=
  ⟨[.val (.ref mz.length), .val (.int 16), .own (.lst (found.map fun x => .str (mkS x))), .val (.str letters), .val (.int t), size, name, lap, at_], m⟩
def bTurn : List Stm := [.par [5, 6] [(.call i_law_of [.e (.slotP 0), .e (.lst [(.const (.int (0))), (.const (.int (0))), (.const (.int (1))), (.const (.int (3))), (.const (.int (6)))])]), (.const (.str ""))], .forr (.slot 7) (.range [(.slot 5)]) [.asg (.slot 6) (.o2 .add (.slotB 6) (.call i_law_of [.e (.slotP 0), .e (.slot 3)]))], .asg (.slot 8) (.call i_law_take [.e (.slotP 0), .e (.o2 .add (.slotB 5) (.const (.int (1))))]), .asg (.slot 6) (.o2 .add (.o2 .add (.o2 .add (.slice (.slotB 6) (.const .non) (.slot 8)) (.o2 .idx (.slotB 3) (.slotB 4))) (.slice (.const (.str "q")) (.const .non) (.slot 5))) (.slice (.slotB 6) (.slot 8) (.const .non))), .app 2 (.ite (.o2 .notin (.slotB 6) (.slotB 2)) (.slot 6) (.o2 .add (.o2 .mul (.o2 .idx (.slotB 3) (.slotB 4)) (.const (.int (7)))) (.const (.str "q"))))]
omit hp in
theorem cut_to (l : List Nat) {r : Nat} (h : r ≤ l.length) : cut l none (some (r : Int)) = l.take r := by
  unfold cut clip
  have : ¬ ((r : Int) < 0) := by omega
  simp only [this, if_false, Int.toNat_natCast, List.drop_zero]
  rw [Nat.min_eq_left h]
omit hp in
theorem cut_from (l : List Nat) {r : Nat} (h : r ≤ l.length) : cut l (some (r : Int)) none = l.drop r := by
  unfold cut clip
  have : ¬ ((r : Int) < 0) := by omega
  simp only [this, if_false, Int.toNat_natCast, List.take_length]
  rw [Nat.min_eq_left h]
omit hp in
theorem cut_q (n : Nat) : cut [Qc] none (some (n : Int)) = [Qc].take n := by
  unfold cut clip
  have : ¬ ((n : Int) < 0) := by omega
  simp only [this, if_false, Int.toNat_natCast, List.drop_zero]
  cases n with
  | zero => rfl
  | succ n => simp
theorem turn_ok {n : Nat} {a b c : Int} {found : List (List Nat)} {t : Nat} {size name lap at_ : Sl} (ha : 0 ≤ a) (ht : t < 16) (hf : found.length < 16) (hsh : ∀ (i : Nat) (x : List Nat), found[i]? = some x → Shp i x) (hft : found.length = t) :
    ∃ x size' name' lap' at' a' b' c', 0 ≤ a' ∧ Shp t x ∧ x ∉ found ∧ exs (gAt P rp (n + 2)) bTurn (nS mz found t size name lap at_ (U mz a b c)) = .ok .nx (nS mz (found ++ [x]) t size' name' lap' at' (U mz a' b' c')) := by
  -- the size
  obtain ⟨sz, a1, b1, c1, hsz, ha1, e1⟩ := of_ok (rp := rp) (mz := mz) (n := n) (b := b) (c := c) (xs := [.int 0, .int 0, .int 1, .int 3, .int 6]) hp ha (by simp) (by simp)
  obtain ⟨k, hk, rfl⟩ : ∃ k : Nat, k ≤ 6 ∧ sz = .int (k : Int) := by
    simp at hsz
    rcases hsz with rfl | rfl | rfl | rfl
    · exact ⟨0, by omega, rfl⟩
    · exact ⟨1, by omega, rfl⟩
    · exact ⟨3, by omega, rfl⟩
    · exact ⟨6, by omega, rfl⟩
  have h1 : ex (gAt P rp (n + 2)) (.par [5, 6] [(.call i_law_of [.e (.slotP 0), .e (.lst [(.const (.int (0))), (.const (.int (0))), (.const (.int (1))), (.const (.int (3))), (.const (.int (6)))])]), (.const (.str ""))]) (nS mz found t size name lap at_ (U mz a b c)) = .ok .nx (nS mz found t (.val (.int k)) (.val (.str (mkS []))) lap at_ (U mz a1 b1 c1)) := by
    rw [← e_lit]
    simp_arith [e1]
  -- the letters
  have h2 : ∃ l lap' a2 b2 c2, l.length = k ∧ (∀ c ∈ l, c ∈ lettersL) ∧ 0 ≤ a2 ∧ ex (gAt P rp (n + 2)) (.forr (.slot 7) (.range [(.slot 5)]) [.asg (.slot 6) (.o2 .add (.slotB 6) (.call i_law_of [.e (.slotP 0), .e (.slot 3)]))]) (nS mz found t (.val (.int k)) (.val (.str (mkS []))) lap at_ (U mz a1 b1 c1)) = .ok .nx (nS mz found t (.val (.int k)) (.val (.str (mkS l))) lap' at_ (U mz a2 b2 c2)) := by
    have he : evs (gAt P rp (n + 2)) [(.slot 5)] (nS mz found t (.val (.int k)) (.val (.str (mkS []))) lap at_ (U mz a1 b1 c1)) = .ok [.int (k : Int)] (nS mz found t (.val (.int k)) (.val (.str (mkS []))) lap at_ (U mz a1 b1 c1)) := by
      simp_arith []
    obtain ⟨s', es, l, lap', a2, b2, c2, hl, hlc, ha2, rfl⟩ := forL_pre (turn := fun x s => (asT (gAt P rp (n + 2)) (.slot 7) x s).bind fun _ s => exs (gAt P rp (n + 2)) [.asg (.slot 6) (.o2 .add (.slotB 6) (.call i_law_of [.e (.slotP 0), .e (.slot 3)]))] s) (dOf := fun i : Nat => .int i)
      (fun pre s => ∃ l lap' a2 b2 c2, l.length = pre.length ∧ (∀ c ∈ l, c ∈ lettersL) ∧ 0 ≤ a2 ∧ s = nS mz found t (.val (.int k)) (.val (.str (mkS l))) lap' at_ (U mz a2 b2 c2)) (List.range k) (by
        rintro pre i post _ e0 ⟨l, lap', a2, b2, c2, hl, hlc, ha2, rfl⟩
        obtain ⟨x, a3, b3, c3, hx, ha3, e3⟩ := of_letters (rp := rp) (mz := mz) (n := n) (b := b2) (c := c2) hp ha2
        refine ⟨nS mz found t (.val (.int k)) (.val (.str (mkS (l ++ [x])))) (.val (.int i)) at_ (U mz a3 b3 c3), ?_, l ++ [x], _, a3, b3, c3, by simp [hl], fun c hc => ?_, ha3, rfl⟩
        · have hpl : pre.length < k := by
            have := range_split e0; omega
          have hll : (mkS l).length + (mkS [x]).length ≤ LINE := by
            rw [mkS_len, mkS_len, hl]; exact le_line (by simp; omega)
          have hx' : (⟨#[x]⟩ : Str) = mkS [x] := rfl
          rw [hx'] at e3
          simp_arith [exs_cons, e3, hll, mkS_app]
        · rcases List.mem_append.mp hc with h | h
          · exact hlc c h
          · rw [List.mem_singleton.mp h]; exact hx) (List.range k) [] (nS mz found t (.val (.int k)) (.val (.str (mkS []))) lap at_ (U mz a1 b1 c1)) rfl ⟨[], lap, a1, b1, c1, rfl, (fun c h => by cases h), ha1, rfl⟩
    refine ⟨l, lap', a2, b2, c2, by rw [hl, List.length_range], hlc, ha2, ?_⟩
    rw [ex_forr, evI_range, he, Out.bind_ok, range_lit (by omega), lift_some, Out.bind_ok]
    exact es
  obtain ⟨l, lap', a2, b2, c2, hl, hlc, ha2, e2⟩ := h2
  -- the place
  obtain ⟨r, a3, b3, c3, hr, ha3, e3⟩ := take_ok (rp := rp) (mz := mz) (n := n + 1) (b := b2) (c := c2) (many := (k : Int) + 1) hp ha2 (by omega) (by omega)
  obtain ⟨rn, rfl⟩ : ∃ rn : Nat, r = (rn : Int) := ⟨r.toNat, by omega⟩
  have h3 : ex (gAt P rp (n + 2)) (.asg (.slot 8) (.call i_law_take [.e (.slotP 0), .e (.o2 .add (.slotB 5) (.const (.int (1))))])) (nS mz found t (.val (.int k)) (.val (.str (mkS l))) lap' at_ (U mz a2 b2 c2)) = .ok .nx (nS mz found t (.val (.int k)) (.val (.str (mkS l))) lap' (.val (.int rn)) (U mz a3 b3 c3)) := by
    simp_arith [e3]
  have hrl : rn ≤ l.length := by omega
  have hidx : op2 .idx (.str letters) (.int (t : Int)) = some (.d (.str (mkS [Lt t]))) := by
    have h26 : t < letters.cps.toList.length := by rw [letters_lit, mkS_toList]; simp; omega
    rw [idx_str (by rw [letters_len]; exact le_line (by omega)) h26]
    have : letters.cps.toList[t] = Lt t := by
      have e : letters.cps.toList = (List.range 26).map Lt := by rw [letters_lit]; rfl
      have : letters.cps.toList[t]? = some (Lt t) := by rw [e, List.getElem?_map, List.getElem?_range (by omega)]; rfl
      rw [List.getElem?_eq_getElem h26] at this
      exact Option.some.inj this
    rw [this]; rfl
  have s1 : sliceD (.str (mkS l)) .non (.int (rn : Int)) = some (.d (.str (mkS (l.take rn)))) := by
    have : (mkS l).length ≤ LINE := by rw [mkS_len]; exact le_line (by omega)
    simp only [sliceD, bound, this, if_true, mkS_toList, cut_to l hrl]
    rfl
  have s2 : sliceD (.str (mkS l)) (.int (rn : Int)) .non = some (.d (.str (mkS (l.drop rn)))) := by
    have : (mkS l).length ≤ LINE := by rw [mkS_len]; exact le_line (by omega)
    simp only [sliceD, bound, this, if_true, mkS_toList, cut_from l hrl]
    rfl
  have s3 : sliceD (.str (mkS [Qc])) .non (.int (k : Int)) = some (.d (.str (mkS ([Qc].take k)))) := by
    have : (mkS [Qc]).length ≤ LINE := by rw [mkS_len]; exact le_line (by simp)
    simp only [sliceD, bound, this, if_true, mkS_toList, cut_q]
    rfl
  have hnm : mkS (l.take rn) ++ mkS [Lt t] ++ mkS ([Qc].take k) ++ mkS (l.drop rn) = mkS (nameOf l rn t) := by
    rw [mkS_app, mkS_app, mkS_app]
    unfold nameOf
    rw [hl]
  have L1 : (mkS (l.take rn)).length + (mkS [Lt t]).length ≤ LINE := by
    rw [mkS_len, mkS_len]; exact le_line (by simp; omega)
  have L2 : (mkS (l.take rn) ++ mkS [Lt t]).length + (mkS ([Qc].take k)).length ≤ LINE := by
    rw [mkS_app, mkS_len, mkS_len]; exact le_line (by simp; omega)
  have L3 : (mkS (l.take rn) ++ mkS [Lt t] ++ mkS ([Qc].take k)).length + (mkS (l.drop rn)).length ≤ LINE := by
    rw [mkS_app, mkS_app, mkS_len, mkS_len]; exact le_line (by simp; omega)
  have h4 : ex (gAt P rp (n + 2)) (.asg (.slot 6) (.o2 .add (.o2 .add (.o2 .add (.slice (.slotB 6) (.const .non) (.slot 8)) (.o2 .idx (.slotB 3) (.slotB 4))) (.slice (.const (.str "q")) (.const .non) (.slot 5))) (.slice (.slotB 6) (.slot 8) (.const .non)))) (nS mz found t (.val (.int k)) (.val (.str (mkS l))) lap' (.val (.int rn)) (U mz a3 b3 c3)) =
      .ok .nx (nS mz found t (.val (.int k)) (.val (.str (mkS (nameOf l rn t)))) lap' (.val (.int rn)) (U mz a3 b3 c3)) := by
    rw [q_lit, ← hnm]
    simp only [nS, ex_asg, ev_o2, ev_slice, opd, isBor, ev_slot, ev_slotB, ev_const, rdF, rdB, getN, Out.bind_ok, lift_some, fin, view, Option.bind_some, partOk, isNon, FX.frz, s1, s2, s3, hidx, o_addS, L1, L2, L3, if_true, S.set, setN, Sl.of]
  have hin : inD (.str (mkS (nameOf l rn t))) (found.map fun x => .str (mkS x)) = some (decide (nameOf l rn t ∈ found)) := by
    have e := inD_str (mkS (nameOf l rn t)) (found.map mkS)
    rw [List.map_map] at e
    have e' : (found.map fun x => D.str (mkS x)) = found.map (D.str ∘ mkS) := rfl
    rw [e', e]
    by_cases h : nameOf l rn t ∈ found
    · have h2 : mkS (nameOf l rn t) ∈ found.map mkS := List.mem_map_of_mem h
      rw [decide_eq_true h, decide_eq_true h2]
    · have h2 : mkS (nameOf l rn t) ∉ found.map mkS := fun z => by
        obtain ⟨y, hy, ey⟩ := List.mem_map.mp z
        exact h (mkS_inj ey ▸ hy)
      rw [decide_eq_false h, decide_eq_false h2]
  have hmul : op2 .mul (.str (mkS [Lt t])) (.int 7) = some (.d (.str (mkS (rep7 t)))) := by
    have c : 0 < (mkS [Lt t]).length ∧ (mkS [Lt t]).length ≤ 16 ∧ (1 : Int) < 7 ∧ (7 : Int) ≤ 1048576 := ⟨by rw [mkS_len]; simp, by rw [mkS_len]; simp, by decide, by decide⟩
    rw [o_mulS, if_pos c, mkS_toList]
    have : (List.replicate (7 : Int).toNat [Lt t]).flatten = rep7 t := by
      unfold rep7
      rw [show (7 : Int).toNat = 7 from rfl, List.flatten_replicate_singleton]
    rw [this]
    rfl
  have L4 : (mkS (rep7 t)).length + (mkS [Qc]).length ≤ LINE := by
    rw [mkS_len, mkS_len]; exact le_line (by unfold rep7; simp)
  have hfb : mkS (rep7 t) ++ mkS [Qc] = mkS (fallback t) := by rw [mkS_app]; rfl
  have hfl : found.length + (0 + 1) ≤ LINE := le_line (by omega)
  have fin_ : ∀ x, ex (gAt P rp (n + 2)) (.app 2 (.ite (.o2 .notin (.slotB 6) (.slotB 2)) (.slot 6) (.o2 .add (.o2 .mul (.o2 .idx (.slotB 3) (.slotB 4)) (.const (.int (7)))) (.const (.str "q"))))) (nS mz found t (.val (.int k)) (.val (.str (mkS (nameOf l rn t)))) lap' (.val (.int rn)) (U mz a3 b3 c3)) = .ok .nx (nS mz (found ++ [x]) t (.val (.int k)) (.val (.str (mkS (nameOf l rn t)))) lap' (.val (.int rn)) (U mz a3 b3 c3)) →
      exs (gAt P rp (n + 2)) bTurn (nS mz found t size name lap at_ (U mz a b c)) = .ok .nx (nS mz (found ++ [x]) t (.val (.int k)) (.val (.str (mkS (nameOf l rn t)))) lap' (.val (.int rn)) (U mz a3 b3 c3)) := fun x hx => by
    unfold bTurn
    refine step_nx (K := fun o => o = Out.ok Fl.nx (nS mz (found ++ [x]) t (.val (.int k)) (.val (.str (mkS (nameOf l rn t)))) lap' (.val (.int rn)) (U mz a3 b3 c3))) h1 ?_
    refine step_nx (K := fun o => o = Out.ok Fl.nx (nS mz (found ++ [x]) t (.val (.int k)) (.val (.str (mkS (nameOf l rn t)))) lap' (.val (.int rn)) (U mz a3 b3 c3))) e2 ?_
    refine step_nx (K := fun o => o = Out.ok Fl.nx (nS mz (found ++ [x]) t (.val (.int k)) (.val (.str (mkS (nameOf l rn t)))) lap' (.val (.int rn)) (U mz a3 b3 c3))) h3 ?_
    refine step_nx (K := fun o => o = Out.ok Fl.nx (nS mz (found ++ [x]) t (.val (.int k)) (.val (.str (mkS (nameOf l rn t)))) lap' (.val (.int rn)) (U mz a3 b3 c3))) h4 ?_
    refine step_nx (K := fun o => o = Out.ok Fl.nx (nS mz (found ++ [x]) t (.val (.int k)) (.val (.str (mkS (nameOf l rn t)))) lap' (.val (.int rn)) (U mz a3 b3 c3))) hx ?_
    exact exs_nil
  by_cases h : nameOf l rn t ∈ found
  · refine ⟨fallback t, _, _, _, _, a3, b3, c3, ha3, fall_shp ht, fun hx => ?_, fin_ _ ?_⟩
    · obtain ⟨i, hi⟩ := List.mem_iff_getElem?.mp hx
      have hlt := (List.getElem?_eq_some_iff.mp hi).1
      exact fall_new ht (by omega) (hsh i _ hi) rfl
    · rw [q_lit]
      simp_arith [nS, hin, h, decide_true, hidx, hmul, L4, hfb, List.length_map, hfl, List.map_append]
  · refine ⟨nameOf l rn t, _, _, _, _, a3, b3, c3, ha3, name_shp ht (by omega) hlc, h, fin_ _ ?_⟩
    simp_arith [nS, hin, h, decide_false, List.length_map, hfl, List.map_append]
theorem names_ok {n : Nat} {a b c : Int} (ha : 0 ≤ a) : ∃ (ns : List (List Nat)) (a' b' c' : Int), 0 ≤ a' ∧ ns.length = 16 ∧ (∀ x ∈ ns, Nm (mkS x)) ∧ ns.Nodup ∧
    evFn P rp (n + 4) i_law_names [] [.d (.ref mz.length), .d (.int 16)] (U mz a b c) = .ok (.f (.lst (ns.map fun x => .str (mkS x)))) ⟨[], U mz a' b' c'⟩ := by
  have hb : fn_law_names.body = [.par [2, 3] [(.lst []), (.const (.str "abcdefghijklmnopqrstuvwxyz"))], .forr (.slot 4) (.range [(.slot 1)]) bTurn, .retS 2] := rfl
  have h1 : ex (gAt P rp (n + 2)) (.par [2, 3] [(.lst []), (.const (.str "abcdefghijklmnopqrstuvwxyz"))]) ⟨[.val (.ref mz.length), .val (.int 16), .no, .no, .no, .no, .no, .no, .no], U mz a b c⟩ = .ok .nx ⟨[.val (.ref mz.length), .val (.int 16), .own (.lst []), .val (.str letters), .no, .no, .no, .no, .no], U mz a b c⟩ := by
    simp_arith []
    rfl
  obtain ⟨s', es, found, t', sz, nm, lp, at_, a', b', c', hl, hsh, hnd, ha', rfl⟩ := forL_pre (turn := fun x s => (asT (gAt P rp (n + 2)) (.slot 4) x s).bind fun _ s => exs (gAt P rp (n + 2)) bTurn s) (dOf := fun i : Nat => .int i)
    (fun pre s => ∃ (found : List (List Nat)) (t' sz nm lp at_ : Sl) (a' b' c' : Int), found.length = pre.length ∧ (∀ (i : Nat) (x : List Nat), found[i]? = some x → Shp i x) ∧ found.Nodup ∧ 0 ≤ a' ∧ s = ⟨[.val (.ref mz.length), .val (.int 16), .own (.lst (found.map fun x => .str (mkS x))), .val (.str letters), t', sz, nm, lp, at_], U mz a' b' c'⟩) (List.range 16) (by
      rintro pre i post _ e0 ⟨found, t', sz, nm, lp, at_, a', b', c', hl, hsh, hnd, ha', rfl⟩
      obtain ⟨hi, hi16⟩ := range_split e0
      obtain ⟨x, sz2, nm2, lp2, at2, a2, b2, c2, ha2, hx, hxn, e⟩ := turn_ok (rp := rp) (mz := mz) (n := n) (b := b') (c := c') (found := found) (t := i) (size := sz) (name := nm) (lap := lp) (at_ := at_) hp ha' hi16 (by omega) hsh (by omega)
      refine ⟨nS mz (found ++ [x]) i sz2 nm2 lp2 at2 (U mz a2 b2 c2), ?_, found ++ [x], _, sz2, nm2, lp2, at2, a2, b2, c2, by simp [hl], fun j y hy => ?_, ?_, ha2, rfl⟩
      · rw [asT_slot, Out.bind_ok]
        exact e
      · by_cases hj : j < found.length
        · rw [List.getElem?_append_left hj] at hy
          exact hsh j y hy
        · rw [List.getElem?_append_right (by omega)] at hy
          have hj0 : j - found.length = 0 := by
            have := (List.getElem?_eq_some_iff.mp hy).1
            simp at this; omega
          rw [hj0] at hy
          have : y = x := by simpa using hy.symm
          rw [this, show j = i by omega]
          exact hx
      · rw [List.nodup_append]
        refine ⟨hnd, by simp, fun y hy z hz ee => ?_⟩
        rw [List.mem_singleton] at hz
        rw [ee, hz] at hy
        exact hxn hy) (List.range 16) [] ⟨[.val (.ref mz.length), .val (.int 16), .own (.lst []), .val (.str letters), .no, .no, .no, .no, .no], U mz a b c⟩ rfl ⟨[], .no, .no, .no, .no, .no, a, b, c, rfl, (fun i x h => by simp at h), List.nodup_nil, ha, rfl⟩
  refine ⟨found, a', b', c', ha', by rw [hl, List.length_range], fun x hx => ?_, hnd, ?_⟩
  · obtain ⟨i, hi⟩ := List.mem_iff_getElem?.mp hx
    exact (hsh i x hi).nm
  · rw [evFn_eq hp.f_law_names]
    refine run_ret rfl rfl rfl ?_
    rw [hb]
    refine step_nx (K := fun o => outR o = some (.f (.lst (found.map fun x => .str (mkS x))), U mz a' b' c')) (s1 := ⟨[.val (.ref mz.length), .val (.int 16), .own (.lst []), .val (.str letters), .no, .no, .no, .no, .no], U mz a b c⟩) h1 ?_
    refine step_nx (K := fun o => outR o = some (.f (.lst (found.map fun x => .str (mkS x))), U mz a' b' c')) (s1 := ⟨[.val (.ref mz.length), .val (.int 16), .own (.lst (found.map fun x => .str (mkS x))), .val (.str letters), t', sz, nm, lp, at_], U mz a' b' c'⟩) ?_ ?_
    · have he : evs (gAt P rp (n + 2)) [(.slot 1)] ⟨[.val (.ref mz.length), .val (.int 16), .own (.lst []), .val (.str letters), .no, .no, .no, .no, .no], U mz a b c⟩ = .ok [.int ((16 : Nat) : Int)] ⟨[.val (.ref mz.length), .val (.int 16), .own (.lst []), .val (.str letters), .no, .no, .no, .no, .no], U mz a b c⟩ := by
        simp_arith []
        rfl
      rw [ex_forr, evI_range, he, Out.bind_ok, range_lit (by omega), lift_some, Out.bind_ok]
      exact es
    · simp_arith [exs_cons]
end
end Pv
end

section
set_option Elab.async false
set_option linter.all false
set_option maxRecDepth 100000
/-! K10: drawn plans: payers. -/
namespace Pv
open PySem
section
variable {P : Prog} {rp : D → Option Str} {mz : List Ob}
variable (hp : Has P)
include hp
/-- a draw of a number -/
theorem take_ev {n : Nat} {e : E} {s0 : S} {ρ : List Sl} {a b c many : Int} (h0 : getN s0.ρ 0 = .val (.ref mz.length)) (he : ev (gAt P rp (n + 1)) e s0 = .ok (.d (.int many)) ⟨ρ, U mz a b c⟩) (ha : 0 ≤ a) (hm : 0 < many) (hm2 : many < 1073741824) :
    ∃ r a' b' c', (0 ≤ r ∧ r < many) ∧ 0 ≤ a' ∧ ev (gAt P rp (n + 1)) (.call i_law_take [.e (.slotP 0), .e e]) s0 = .ok (.d (.int r)) ⟨ρ, U mz a' b' c'⟩ := by
  obtain ⟨r, a', b', c', hr, ha', e1⟩ := take_ok (rp := rp) (mz := mz) (n := n) (b := b) (c := c) hp ha hm hm2
  refine ⟨r, a', b', c', hr, ha', ?_⟩
  rw [ev_call, evA_cons, evA1_e, ev_slotP]
  unfold rdP
  rw [h0]
  simp only [Out.bind_ok, FX.frz, evA_cons, evA_nil, evA1_e, he, callG, gAt_call, e1]
/-- a draw out of a list -/
theorem of_ev {n : Nat} {es : List E} {s0 : S} {ρ : List Sl} {a b c : Int} {xs : List D} (h0 : getN s0.ρ 0 = .val (.ref mz.length)) (he : evs (gAt P rp (n + 2)) es s0 = .ok xs ⟨ρ, U mz a b c⟩) (ha : 0 ≤ a) (hx : xs ≠ []) (hl : xs.length < 1000) :
    ∃ x a' b' c', x ∈ xs ∧ 0 ≤ a' ∧ ev (gAt P rp (n + 2)) (.call i_law_of [.e (.slotP 0), .e (.lst es)]) s0 = .ok (.d x) ⟨ρ, U mz a' b' c'⟩ := by
  obtain ⟨x, a', b', c', hxm, ha', e1⟩ := of_ok (rp := rp) (mz := mz) (n := n) (b := b) (c := c) hp ha hx hl
  refine ⟨x, a', b', c', hxm, ha', ?_⟩
  have L : xs.length ≤ LINE := le_line (by omega)
  rw [ev_call, evA_cons, evA1_e, ev_slotP]
  unfold rdP
  rw [h0]
  simp only [Out.bind_ok, FX.frz, Ob.frz, evA_cons, evA_nil, evA1_e, ev_lst, he, L, if_true, callG, gAt_call, e1]
/-- a draw out of a list that a name holds -/
theorem of_slot {n : Nat} {i : Nat} {s0 : S} {ρ : List Sl} {a b c : Int} {xs : List D} (h0 : getN s0.ρ 0 = .val (.ref mz.length)) (he : ev (gAt P rp (n + 2)) (.slot i) s0 = .ok (.d (.lst xs)) ⟨ρ, U mz a b c⟩) (ha : 0 ≤ a) (hx : xs ≠ []) (hl : xs.length < 1000) :
    ∃ x a' b' c', x ∈ xs ∧ 0 ≤ a' ∧ ev (gAt P rp (n + 2)) (.call i_law_of [.e (.slotP 0), .e (.slot i)]) s0 = .ok (.d x) ⟨ρ, U mz a' b' c'⟩ := by
  obtain ⟨x, a', b', c', hxm, ha', e1⟩ := of_ok (rp := rp) (mz := mz) (n := n) (b := b) (c := c) hp ha hx hl
  refine ⟨x, a', b', c', hxm, ha', ?_⟩
  rw [ev_call, evA_cons, evA1_e, ev_slotP]
  unfold rdP
  rw [h0]
  simp only [Out.bind_ok, FX.frz, evA_cons, evA_nil, evA1_e, he, callG, gAt_call, e1]
/-- the frame of a plan's drawing -/
abbrev pS (mz : List Ob) (sz top : D) (names payers calls outlays offices name due many days left day turn part whole payer most reserve : Sl) (m : List Ob) : S :=
  ⟨[.val (.ref mz.length), .val sz, .val top, names, payers, calls, outlays, offices, name, due, many, days, left, day, turn, part, whole, payer, most, reserve], m⟩
def bPayers : List Stm := [.asg (.slot 9) (.call i_law_of [.e (.slotP 0), .e (.lst [(.o2 .add (.const (.int (1))) (.call i_law_take [.e (.slotP 0), .e (.slot 2)])), (.o2 .add (.const (.int (1))) (.call i_law_take [.e (.slotP 0), .e (.slot 2)])), (.const (.int (7))), (.slot 2)])]), .app 4 (.tup [(.slot 8), (.call i_law_of [.e (.slotP 0), .e (.slot 7)]), (.slot 9)])]
theorem payer_ok {n : Nat} {a b c top : Int} {sz : D} {names calls outlays due many days left day turn part whole payer most reserve : Sl} {ps : List Pay} {os : List Str} {nm : Str} {off : Sl} (ha : 0 ≤ a) (ht : 1 ≤ top ∧ top ≤ 1000000) (ho : os ≠ []) (hol : os.length ≤ 16) (hpl : ps.length < 60)
    (hoff : off = .own (.lst (os.map .str)) ∨ off = .val (.lst (os.map .str))) :
    ∃ o d due' a' b' c', o ∈ os ∧ (1 ≤ d ∧ d ≤ 1000000) ∧ 0 ≤ a' ∧ exs (gAt P rp (n + 2)) bPayers (pS mz sz (.int top) names (.own (.lst (ps.map payD))) calls outlays off (.val (.str nm)) due many days left day turn part whole payer most reserve (U mz a b c)) =
      .ok .nx (pS mz sz (.int top) names (.own (.lst ((ps ++ [(nm, o, d)]).map payD))) calls outlays (.val (.lst (os.map .str))) (.val (.str nm)) due' many days left day turn part whole payer most reserve (U mz a' b' c')) := by
  obtain ⟨r1, a1, b1, c1, hr1, ha1, e1⟩ := take_ev (rp := rp) (mz := mz) (n := n + 1) (e := .slot 2) (s0 := pS mz sz (.int top) names (.own (.lst (ps.map payD))) calls outlays off (.val (.str nm)) due many days left day turn part whole payer most reserve (U mz a b c)) (many := top) hp rfl rfl ha (by omega) (by omega)
  obtain ⟨r2, a2, b2, c2, hr2, ha2, e2⟩ := take_ev (rp := rp) (mz := mz) (n := n + 1) (e := .slot 2) (s0 := pS mz sz (.int top) names (.own (.lst (ps.map payD))) calls outlays off (.val (.str nm)) due many days left day turn part whole payer most reserve (U mz a1 b1 c1)) (many := top) hp rfl rfl ha1 (by omega) (by omega)
  obtain ⟨x, a3, b3, c3, hx, ha3, e3⟩ := of_ev (rp := rp) (mz := mz) (n := n) (es := [(.o2 .add (.const (.int (1))) (.call i_law_take [.e (.slotP 0), .e (.slot 2)])), (.o2 .add (.const (.int (1))) (.call i_law_take [.e (.slotP 0), .e (.slot 2)])), (.const (.int (7))), (.slot 2)])
    (s0 := pS mz sz (.int top) names (.own (.lst (ps.map payD))) calls outlays off (.val (.str nm)) due many days left day turn part whole payer most reserve (U mz a b c)) (xs := [.int (1 + r1), .int (1 + r2), .int 7, .int top]) (a := a2) (b := b2) (c := c2)
    (ρ := (pS mz sz (.int top) names (.own (.lst (ps.map payD))) calls outlays off (.val (.str nm)) due many days left day turn part whole payer most reserve (U mz a b c)).ρ) hp rfl (by simp_arith! [e1, e2]) ha2 (by simp) (by simp)
  obtain ⟨d, hd, rfl⟩ : ∃ d : Int, (1 ≤ d ∧ d ≤ 1000000) ∧ x = .int d := by
    simp at hx
    rcases hx with rfl | rfl | rfl | rfl
    · exact ⟨_, by omega, rfl⟩
    · exact ⟨_, by omega, rfl⟩
    · exact ⟨_, by omega, rfl⟩
    · exact ⟨_, by omega, rfl⟩
  obtain ⟨y, a4, b4, c4, hy, ha4, e4⟩ := of_slot (rp := rp) (mz := mz) (n := n) (i := 7) (xs := os.map .str) (s0 := pS mz sz (.int top) names (.own (.lst (ps.map payD))) calls outlays off (.val (.str nm)) (.val (.int d)) many days left day turn part whole payer most reserve (U mz a3 b3 c3)) (a := a3) (b := b3) (c := c3)
    (ρ := (pS mz sz (.int top) names (.own (.lst (ps.map payD))) calls outlays (.val (.lst (os.map .str))) (.val (.str nm)) (.val (.int d)) many days left day turn part whole payer most reserve (U mz a3 b3 c3)).ρ) hp rfl (by rcases hoff with rfl | rfl <;> simp_arith! []) ha3 (by simpa using ho) (by simp; omega)
  obtain ⟨o, ho', rfl⟩ := List.mem_map.mp hy
  have hpl' : ps.length + (0 + 1) ≤ LINE := le_line (by omega)
  refine ⟨o, d, .val (.int d), a4, b4, c4, ho', hd, ha4, ?_⟩
  unfold bPayers
  refine step_nx (K := fun r => r = Out.ok Fl.nx (pS mz sz (.int top) names (.own (.lst ((ps ++ [(nm, o, d)]).map payD))) calls outlays (.val (.lst (os.map .str))) (.val (.str nm)) (.val (.int d)) many days left day turn part whole payer most reserve (U mz a4 b4 c4)))
    (s1 := pS mz sz (.int top) names (.own (.lst (ps.map payD))) calls outlays off (.val (.str nm)) (.val (.int d)) many days left day turn part whole payer most reserve (U mz a3 b3 c3)) (by simp_arith! [e3]) ?_
  simp_arith! [exs_cons, e4, List.length_map, hpl', List.map_append, payD, pS]
def bDays : List Stm := [.app 11 (.slot 13), .asg (.slot 13) (.o2 .add (.o2 .add (.slotB 13) (.const (.int (1)))) (.call i_law_of [.e (.slotP 0), .e (.lst [(.const (.int (0))), (.const (.int (1))), (.call i_law_take [.e (.slotP 0), .e (.const (.int (6)))])])]))]
theorem days_ok {n : Nat} {a b c day : Int} {sz top : D} {names payers calls outlays off name due many left turn part whole payer most reserve : Sl} {ds : List Int} (ha : 0 ≤ a) (hl : ds.length < 60) :
    ∃ d' a' b' c', (day < d' ∧ d' ≤ day + 6) ∧ 0 ≤ a' ∧ exs (gAt P rp (n + 2)) bDays (pS mz sz top names payers calls outlays off name due many (.own (.lst (ds.map .int))) left (.val (.int day)) turn part whole payer most reserve (U mz a b c)) =
      .ok .nx (pS mz sz top names payers calls outlays off name due many (.own (.lst ((ds ++ [day]).map .int))) left (.val (.int d')) turn part whole payer most reserve (U mz a' b' c')) := by
  obtain ⟨r1, a1, b1, c1, hr1, ha1, e1⟩ := take_ev (rp := rp) (mz := mz) (n := n + 1) (e := .const (.int (6))) (s0 := pS mz sz top names payers calls outlays off name due many (.own (.lst ((ds ++ [day]).map .int))) left (.val (.int day)) turn part whole payer most reserve (U mz a b c)) (many := 6) hp rfl rfl ha (by omega) (by omega)
  obtain ⟨x, a3, b3, c3, hx, ha3, e3⟩ := of_ev (rp := rp) (mz := mz) (n := n) (es := [(.const (.int (0))), (.const (.int (1))), (.call i_law_take [.e (.slotP 0), .e (.const (.int (6)))])])
    (s0 := pS mz sz top names payers calls outlays off name due many (.own (.lst ((ds ++ [day]).map .int))) left (.val (.int day)) turn part whole payer most reserve (U mz a b c)) (xs := [.int 0, .int 1, .int r1]) (a := a1) (b := b1) (c := c1)
    (ρ := (pS mz sz top names payers calls outlays off name due many (.own (.lst ((ds ++ [day]).map .int))) left (.val (.int day)) turn part whole payer most reserve (U mz a b c)).ρ) hp rfl (by simp_arith! [e1]) ha1 (by simp) (by simp)
  obtain ⟨v, hv, rfl⟩ : ∃ v : Int, (0 ≤ v ∧ v ≤ 5) ∧ x = .int v := by
    simp at hx
    rcases hx with rfl | rfl | rfl
    · exact ⟨_, by omega, rfl⟩
    · exact ⟨_, by omega, rfl⟩
    · exact ⟨_, by omega, rfl⟩
  have hl' : ds.length + (0 + 1) ≤ LINE := le_line (by omega)
  refine ⟨day + 1 + v, a3, b3, c3, by omega, ha3, ?_⟩
  unfold bDays
  refine step_nx (K := fun r => r = Out.ok Fl.nx (pS mz sz top names payers calls outlays off name due many (.own (.lst ((ds ++ [day]).map .int))) left (.val (.int (day + 1 + v))) turn part whole payer most reserve (U mz a3 b3 c3)))
    (s1 := pS mz sz top names payers calls outlays off name due many (.own (.lst ((ds ++ [day]).map .int))) left (.val (.int day)) turn part whole payer most reserve (U mz a b c)) (by simp_arith! [List.length_map, hl', List.map_append, pS]) ?_
  simp_arith! [exs_cons, e3]
def bParts : List Stm := [.asg (.slot 15) (.ite (.o2 .eq (.slotB 14) (.o2 .sub (.slotB 10) (.const (.int (1))))) (.slot 12) (.o2 .add (.const (.int (1))) (.call i_law_take [.e (.slotP 0), .e (.o2 .min (.o2 .sub (.slotB 12) (.o2 .sub (.slotB 10) (.slotB 14))) (.call i_law_of [.e (.slotP 0), .e (.lst [(.const (.int (60))), (.const (.int (400))), (.const (.int (900)))])]))]))), .app 5 (.tup [(.o2 .idx (.slotB 11) (.slotB 14)), (.slot 15)]), .asg (.slot 12) (.o2 .sub (.slotB 12) (.slotB 15))]
theorem parts_ok {n : Nat} {a b c left : Int} {sz top : D} {names payers outlays off name due day part whole payer most reserve : Sl} {ds : List Int} {cs : List (Int × Int)} {many t : Nat} (ha : 0 ≤ a) (hm : ds.length = many) (ht : t < many) (hm8 : many ≤ 8) (hc : cs.length = t) (hleft : (many : Int) - t + 1 ≤ left) (hl1 : left ≤ 1000) :
    ∃ pt left' part' a' b' c', (1 ≤ pt ∧ pt ≤ 1000) ∧ (t + 1 < many → (many : Int) - (t + 1) + 1 ≤ left') ∧ (t + 1 = many → left' = 0) ∧ left' + pt = left ∧ 0 ≤ a' ∧
      exs (gAt P rp (n + 2)) bParts (pS mz sz top names payers (.own (.lst (cs.map prD))) outlays off name due (.val (.int many)) (.own (.lst (ds.map .int))) (.val (.int left)) day (.val (.int t)) part whole payer most reserve (U mz a b c)) =
      .ok .nx (pS mz sz top names payers (.own (.lst ((cs ++ [((ds[t]?).getD 0, pt)]).map prD))) outlays off name due (.val (.int many)) (.own (.lst (ds.map .int))) (.val (.int left')) day (.val (.int t)) part' whole payer most reserve (U mz a' b' c')) := by
  have hdt : (ds.map D.int)[t]? = some (.int ((ds[t]?).getD 0)) := by
    rw [List.getElem?_map, List.getElem?_eq_getElem (by omega)]; rfl
  have hidx : op2 .idx (.lst (ds.map .int)) (.int (t : Int)) = some (.d (.int ((ds[t]?).getD 0))) := iAtL hdt
  have hcl : cs.length + (0 + 1) ≤ LINE := le_line (by omega)
  have fin_ : ∀ pt a' b' c', ex (gAt P rp (n + 2)) (.asg (.slot 15) (.ite (.o2 .eq (.slotB 14) (.o2 .sub (.slotB 10) (.const (.int (1))))) (.slot 12) (.o2 .add (.const (.int (1))) (.call i_law_take [.e (.slotP 0), .e (.o2 .min (.o2 .sub (.slotB 12) (.o2 .sub (.slotB 10) (.slotB 14))) (.call i_law_of [.e (.slotP 0), .e (.lst [(.const (.int (60))), (.const (.int (400))), (.const (.int (900)))])]))]))))
        (pS mz sz top names payers (.own (.lst (cs.map prD))) outlays off name due (.val (.int many)) (.own (.lst (ds.map .int))) (.val (.int left)) day (.val (.int t)) part whole payer most reserve (U mz a b c)) = .ok .nx (pS mz sz top names payers (.own (.lst (cs.map prD))) outlays off name due (.val (.int many)) (.own (.lst (ds.map .int))) (.val (.int left)) day (.val (.int t)) (.val (.int pt)) whole payer most reserve (U mz a' b' c')) →
      exs (gAt P rp (n + 2)) bParts (pS mz sz top names payers (.own (.lst (cs.map prD))) outlays off name due (.val (.int many)) (.own (.lst (ds.map .int))) (.val (.int left)) day (.val (.int t)) part whole payer most reserve (U mz a b c)) =
      .ok .nx (pS mz sz top names payers (.own (.lst ((cs ++ [((ds[t]?).getD 0, pt)]).map prD))) outlays off name due (.val (.int many)) (.own (.lst (ds.map .int))) (.val (.int (left - pt))) day (.val (.int t)) (.val (.int pt)) whole payer most reserve (U mz a' b' c')) := fun pt a' b' c' h => by
    unfold bParts
    refine step_nx (K := fun r => r = Out.ok Fl.nx (pS mz sz top names payers (.own (.lst ((cs ++ [((ds[t]?).getD 0, pt)]).map prD))) outlays off name due (.val (.int many)) (.own (.lst (ds.map .int))) (.val (.int (left - pt))) day (.val (.int t)) (.val (.int pt)) whole payer most reserve (U mz a' b' c'))) h ?_
    simp_arith! [exs_cons, hidx, List.length_map, hcl, List.map_append, prD, pS]
  by_cases hlast : t + 1 = many
  · have he : ((t : Int) == (many : Int) - 1) = true := by
      have : (t : Int) = (many : Int) - 1 := by omega
      simpa using this
    refine ⟨left, left - left, .val (.int left), a, b, c, ⟨by omega, hl1⟩, fun h => by omega, fun _ => by omega, by omega, ha, fin_ left a b c ?_⟩
    simp_arith! [he]
  · have he : ((t : Int) == (many : Int) - 1) = false := by
      have : (t : Int) ≠ (many : Int) - 1 := by omega
      simpa using this
    obtain ⟨x, a1, b1, c1, hx, ha1, e1⟩ := of_ev (rp := rp) (mz := mz) (n := n) (es := [(.const (.int (60))), (.const (.int (400))), (.const (.int (900)))])
      (s0 := pS mz sz top names payers (.own (.lst (cs.map prD))) outlays off name due (.val (.int many)) (.own (.lst (ds.map .int))) (.val (.int left)) day (.val (.int t)) part whole payer most reserve (U mz a b c)) (xs := [.int 60, .int 400, .int 900]) (a := a) (b := b) (c := c)
      (ρ := (pS mz sz top names payers (.own (.lst (cs.map prD))) outlays off name due (.val (.int many)) (.own (.lst (ds.map .int))) (.val (.int left)) day (.val (.int t)) part whole payer most reserve (U mz a b c)).ρ) hp rfl (by simp_arith! []) ha (by simp) (by simp)
    obtain ⟨v, hv, rfl⟩ : ∃ v : Int, (60 ≤ v ∧ v ≤ 900) ∧ x = .int v := by
      simp at hx
      rcases hx with rfl | rfl | rfl
      · exact ⟨_, by omega, rfl⟩
      · exact ⟨_, by omega, rfl⟩
      · exact ⟨_, by omega, rfl⟩
    have hmn : 0 < (if v < left - ((many : Int) - t) then v else left - ((many : Int) - t)) ∧ (if v < left - ((many : Int) - t) then v else left - ((many : Int) - t)) ≤ left - ((many : Int) - t) := by
      split <;> omega
    obtain ⟨r, a2, b2, c2, hr, ha2, e2⟩ := take_ev (rp := rp) (mz := mz) (n := n + 1) (e := .o2 .min (.o2 .sub (.slotB 12) (.o2 .sub (.slotB 10) (.slotB 14))) (.call i_law_of [.e (.slotP 0), .e (.lst [(.const (.int (60))), (.const (.int (400))), (.const (.int (900)))])]))
      (s0 := pS mz sz top names payers (.own (.lst (cs.map prD))) outlays off name due (.val (.int many)) (.own (.lst (ds.map .int))) (.val (.int left)) day (.val (.int t)) part whole payer most reserve (U mz a b c)) (many := if v < left - ((many : Int) - t) then v else left - ((many : Int) - t)) (a := a1) (b := b1) (c := c1)
      (ρ := (pS mz sz top names payers (.own (.lst (cs.map prD))) outlays off name due (.val (.int many)) (.own (.lst (ds.map .int))) (.val (.int left)) day (.val (.int t)) part whole payer most reserve (U mz a b c)).ρ) hp rfl (by simp_arith! [e1]) ha1 hmn.1 (by omega)
    refine ⟨1 + r, left - (1 + r), .val (.int (1 + r)), a2, b2, c2, by omega, fun h => by omega, fun h => by omega, by omega, ha2, fin_ (1 + r) a2 b2 c2 ?_⟩
    simp_arith! [he, e2]
def bOuts : List Stm := [.asg (.slot 13) (.o2 .min (.const (.int (90))) (.o2 .add (.slotB 13) (.call i_law_of [.e (.slotP 0), .e (.lst [(.const (.int (0))), (.const (.int (1))), (.const (.int (3))), (.call i_law_take [.e (.slotP 0), .e (.const (.int (12)))])])]))), .asg (.slot 18) (.call i_law_of [.e (.slotP 0), .e (.lst [(.o2 .fdiv (.slotB 16) (.const (.int (2)))), (.o2 .fdiv (.slotB 16) (.const (.int (5)))), (.const (.int (9))), (.slot 16)])]), .app 6 (.tup [(.slot 13), (.o2 .min (.o2 .pow (.const (.int (10))) (.const (.int (7)))) (.o2 .add (.const (.int (1))) (.call i_law_take [.e (.slotP 0), .e (.o2 .max (.const (.int (1))) (.slotB 18))])))])]
end
end Pv
end

section
set_option Elab.async false
set_option linter.all false
set_option maxRecDepth 100000
/-! K11: drawn plans: outlays. -/
namespace Pv
open PySem
theorem c10 : ((0 : Int) ≤ 7 ∧ (7 : Int) ≤ 1000 ∧ big 10 = true) = True := eq_true (by decide)
theorem p10 : (10 : Int) ^ Int.toNat 7 = 10000000 := by decide
section
variable {P : Prog} {rp : D → Option Str} {mz : List Ob}
variable (hp : Has P)
include hp
theorem outs_ok {n : Nat} {a b c day w : Int} {sz top : D} {names payers calls offices name due many days left turn part payer most reserve : Sl} {os : List (Int × Int)} (ha : 0 ≤ a) (hd : 0 ≤ day ∧ day ≤ 90) (hw : 1 ≤ w ∧ w ≤ 100000000) (hol : os.length < 60) :
    ∃ d' u most' a' b' c', (day ≤ d' ∧ d' ≤ 90) ∧ (1 ≤ u ∧ u ≤ 10000000) ∧ 0 ≤ a' ∧
      exs (gAt P rp (n + 2)) bOuts (pS mz sz top names payers calls (.own (.lst (os.map prD))) offices name due many days left (.val (.int day)) turn part (.val (.int w)) payer most reserve (U mz a b c)) =
      .ok .nx (pS mz sz top names payers calls (.own (.lst ((os ++ [(d', u)]).map prD))) offices name due many days left (.val (.int d')) turn part (.val (.int w)) payer most' reserve (U mz a' b' c')) := by
  obtain ⟨r1, a1, b1, c1, hr1, ha1, e1⟩ := take_ev (rp := rp) (mz := mz) (n := n + 1) (e := .const (.int (12))) (s0 := pS mz sz top names payers calls (.own (.lst (os.map prD))) offices name due many days left (.val (.int day)) turn part (.val (.int w)) payer most reserve (U mz a b c)) (many := 12) hp rfl rfl ha (by omega) (by omega)
  obtain ⟨x, a2, b2, c2, hx, ha2, e2⟩ := of_ev (rp := rp) (mz := mz) (n := n) (es := [(.const (.int (0))), (.const (.int (1))), (.const (.int (3))), (.call i_law_take [.e (.slotP 0), .e (.const (.int (12)))])])
    (s0 := pS mz sz top names payers calls (.own (.lst (os.map prD))) offices name due many days left (.val (.int day)) turn part (.val (.int w)) payer most reserve (U mz a b c)) (xs := [.int 0, .int 1, .int 3, .int r1]) (a := a1) (b := b1) (c := c1)
    (ρ := (pS mz sz top names payers calls (.own (.lst (os.map prD))) offices name due many days left (.val (.int day)) turn part (.val (.int w)) payer most reserve (U mz a b c)).ρ) hp rfl (by simp_arith! [e1]) ha1 (by simp) (by simp)
  obtain ⟨v, hv, rfl⟩ : ∃ v : Int, (0 ≤ v ∧ v ≤ 11) ∧ x = .int v := by
    simp at hx
    rcases hx with rfl | rfl | rfl | rfl
    · exact ⟨_, by omega, rfl⟩
    · exact ⟨_, by omega, rfl⟩
    · exact ⟨_, by omega, rfl⟩
    · exact ⟨_, by omega, rfl⟩
  generalize hd' : (if day + v < 90 then day + v else 90 : Int) = d'
  have hdd : day ≤ d' ∧ d' ≤ 90 := by rw [← hd']; split <;> omega
  obtain ⟨y, a3, b3, c3, hy, ha3, e3⟩ := of_ev (rp := rp) (mz := mz) (n := n) (es := [(.o2 .fdiv (.slotB 16) (.const (.int (2)))), (.o2 .fdiv (.slotB 16) (.const (.int (5)))), (.const (.int (9))), (.slot 16)])
    (s0 := pS mz sz top names payers calls (.own (.lst (os.map prD))) offices name due many days left (.val (.int d')) turn part (.val (.int w)) payer most reserve (U mz a2 b2 c2)) (xs := [.int (w.fdiv 2), .int (w.fdiv 5), .int 9, .int w]) (a := a2) (b := b2) (c := c2)
    (ρ := (pS mz sz top names payers calls (.own (.lst (os.map prD))) offices name due many days left (.val (.int d')) turn part (.val (.int w)) payer most reserve (U mz a2 b2 c2)).ρ) hp rfl (by simp_arith! [(eq_true (by decide) : ((2 : Int) ≠ 0 ∧ Int.natAbs 2 < 1073741824) = True), (eq_true (by decide) : ((5 : Int) ≠ 0 ∧ Int.natAbs 5 < 1073741824) = True)]) ha2 (by simp) (by simp)
  obtain ⟨v2, hv2, rfl⟩ : ∃ v : Int, (0 ≤ v ∧ v ≤ 100000000) ∧ y = .int v := by
    simp only [Int.fdiv_eq_ediv_of_nonneg w (show (0 : Int) ≤ 2 by decide), Int.fdiv_eq_ediv_of_nonneg w (show (0 : Int) ≤ 5 by decide), List.mem_cons, List.not_mem_nil, or_false] at hy
    rcases hy with rfl | rfl | rfl | rfl
    · exact ⟨_, by omega, rfl⟩
    · exact ⟨_, by omega, rfl⟩
    · exact ⟨_, by omega, rfl⟩
    · exact ⟨_, by omega, rfl⟩
  have hmx : 0 < (if v2 > 1 then v2 else 1 : Int) ∧ (if v2 > 1 then v2 else 1 : Int) < 1073741824 := by split <;> omega
  obtain ⟨r4, a4, b4, c4, hr4, ha4, e4⟩ := take_ev (rp := rp) (mz := mz) (n := n + 1) (b := b3) (c := c3) (e := .o2 .max (.const (.int (1))) (.slotB 18)) (s0 := pS mz sz top names payers calls (.own (.lst (os.map prD))) offices name due many days left (.val (.int d')) turn part (.val (.int w)) payer (.val (.int v2)) reserve (U mz a3 b3 c3))
    (ρ := (pS mz sz top names payers calls (.own (.lst (os.map prD))) offices name due many days left (.val (.int d')) turn part (.val (.int w)) payer (.val (.int v2)) reserve (U mz a3 b3 c3)).ρ) (many := (if v2 > 1 then v2 else 1)) hp rfl (by simp_arith! []) ha3 hmx.1 hmx.2
  generalize hu : (if 1 + r4 < 10000000 then 1 + r4 else 10000000 : Int) = u
  have huu : 1 ≤ u ∧ u ≤ 10000000 := by rw [← hu]; split <;> omega
  have hcl : os.length + (0 + 1) ≤ LINE := le_line (by omega)
  refine ⟨d', u, .val (.int v2), a4, b4, c4, hdd, huu, ha4, ?_⟩
  unfold bOuts
  refine step_nx (K := fun r => r = Out.ok Fl.nx (pS mz sz top names payers calls (.own (.lst ((os ++ [(d', u)]).map prD))) offices name due many days left (.val (.int d')) turn part (.val (.int w)) payer (.val (.int v2)) reserve (U mz a4 b4 c4)))
    (s1 := pS mz sz top names payers calls (.own (.lst (os.map prD))) offices name due many days left (.val (.int d')) turn part (.val (.int w)) payer most reserve (U mz a2 b2 c2)) (by simp_arith! [e2, hd']) ?_
  refine step_nx (K := fun r => r = Out.ok Fl.nx (pS mz sz top names payers calls (.own (.lst ((os ++ [(d', u)]).map prD))) offices name due many days left (.val (.int d')) turn part (.val (.int w)) payer (.val (.int v2)) reserve (U mz a4 b4 c4)))
    (s1 := pS mz sz top names payers calls (.own (.lst (os.map prD))) offices name due many days left (.val (.int d')) turn part (.val (.int w)) payer (.val (.int v2)) reserve (U mz a3 b3 c3)) (by simp_arith! [e3]) ?_
  simp_arith! [exs_cons, c10, p10, e4, hu, List.length_map, hcl, List.map_append, prD, pS]
end
end Pv
end

section
set_option Elab.async false
set_option linter.all false
set_option maxRecDepth 100000
/-! K12: drawn plans: names, offices, the payers' walk. -/
namespace Pv
open PySem
def szD (s0 s1 s2 : Int) : D := .tup [.int s0, .int s1, .int s2]
theorem cut_mid {α : Type} (xs : List α) {k : Nat} (h : 12 + k ≤ xs.length) : cut xs (some 12) (some ((12 : Int) + k)) = (xs.drop 12).take k := by
  unfold cut clip
  have h1 : ¬ ((12 : Int) < 0) := by decide
  have h2 : ¬ ((12 : Int) + k < 0) := by omega
  have h3 : ((12 : Int) + k).toNat = 12 + k := by omega
  have h4 : (12 : Int).toNat = 12 := rfl
  simp only [h1, h2, if_false, h3, h4]
  rw [Nat.min_eq_left h, Nat.min_eq_left (by omega), List.drop_take]
  congr 1
  omega
theorem cut_first {α : Type} (l : List α) {r : Nat} (h : r ≤ l.length) : cut l none (some (r : Int)) = l.take r := by
  unfold cut clip
  have : ¬ ((r : Int) < 0) := by omega
  simp only [this, if_false, Int.toNat_natCast, List.drop_zero]
  rw [Nat.min_eq_left h]
theorem intsOf_str {x : Str} {r : List D} : intsOf (.str x :: r) = none := rfl
theorem sorted_strs {rp : D → Option Str} {xs : List Str} (h : xs ≠ []) (hl : xs.length < 64) : op1 rp .sorted (.lst (xs.map .str)) = some (.f (.lst ((sortS xs).map .str))) := by
  rw [p_sortedL, strsOf_str]
  cases xs with
  | nil => exact (h rfl).elim
  | cons x r => rw [List.map_cons, intsOf_str]; simp only [hl, if_true]
section
variable {P : Prog} {rp : D → Option Str} {mz : List Ob}
variable (hp : Has P)
include hp
abbrev pStart (mz : List Ob) (sz : D) (top : Int) (m : List Ob) : S := pS mz sz (.int top) .no .no .no .no .no .no .no .no .no .no .no .no .no .no .no .no .no m
theorem pA_ok {n : Nat} {a b c top : Int} {sz : D} (ha : 0 ≤ a) :
    ∃ (ns : List Str) (a' b' c' : Int), 0 ≤ a' ∧ ns.length = 16 ∧ (∀ x ∈ ns, Nm x) ∧ ns.Nodup ∧
      ex (gAt P rp (n + 3)) (.par [3, 4, 5, 6] [(.call i_law_names [.e (.slotP 0), .e (.const (.int (16)))]), (.lst []), (.lst []), (.lst [])]) (pStart mz sz top (U mz a b c)) =
      .ok .nx (pS mz sz (.int top) (.own (.lst (ns.map .str))) (.own (.lst [])) (.own (.lst [])) (.own (.lst [])) .no .no .no .no .no .no .no .no .no .no .no .no .no (U mz a' b' c')) := by
  obtain ⟨ns, a', b', c', ha', hl, hnm, hnd, e⟩ := names_ok (rp := rp) (mz := mz) (n := n) (b := b) (c := c) hp ha
  refine ⟨ns.map mkS, a', b', c', ha', by simpa using hl, fun x hx => ?_, ?_, ?_⟩
  · obtain ⟨y, hy, rfl⟩ := List.mem_map.mp hx
    exact hnm y hy
  · exact List.Pairwise.map mkS (fun x y hxy h => hxy (mkS_inj h)) hnd
  · simp_arith [e, pS, pStart, List.map_map, Function.comp_def]
theorem pB_ok {n : Nat} {a b c top : Int} {sz : D} {ns : List Str} {payers calls outlays offices name due many days left day turn part whole payer most reserve : Sl} (ha : 0 ≤ a) (hl : ns.length = 16) :
    ∃ (k : Nat) (a' b' c' : Int), 0 ≤ a' ∧ 1 ≤ k ∧ k ≤ 4 ∧
      ex (gAt P rp (n + 3)) (.asg (.slot 7) (.slice (.slotB 3) (.const (.int (12))) (.o2 .add (.const (.int (12))) (.call i_law_of [.e (.slotP 0), .e (.lst [(.const (.int (1))), (.const (.int (2))), (.const (.int (4)))])])))) (pS mz sz (.int top) (.own (.lst (ns.map .str))) payers calls outlays offices name due many days left day turn part whole payer most reserve (U mz a b c)) =
      .ok .nx (pS mz sz (.int top) (.own (.lst (ns.map .str))) payers calls outlays (.own (.lst (((ns.drop 12).take k).map .str))) name due many days left day turn part whole payer most reserve (U mz a' b' c')) := by
  obtain ⟨x, a1, b1, c1, hx, ha1, e1⟩ := of_ev (rp := rp) (mz := mz) (n := n + 1) (es := [(.const (.int (1))), (.const (.int (2))), (.const (.int (4)))])
    (s0 := pS mz sz (.int top) (.own (.lst (ns.map .str))) payers calls outlays offices name due many days left day turn part whole payer most reserve (U mz a b c)) (xs := [.int 1, .int 2, .int 4]) (a := a) (b := b) (c := c)
    (ρ := (pS mz sz (.int top) (.own (.lst (ns.map .str))) payers calls outlays offices name due many days left day turn part whole payer most reserve (U mz a b c)).ρ) hp rfl (by simp_arith! []) ha (by simp) (by simp)
  obtain ⟨k, hk, rfl⟩ : ∃ k : Nat, (1 ≤ k ∧ k ≤ 4) ∧ x = .int (k : Int) := by
    simp at hx
    rcases hx with rfl | rfl | rfl
    · exact ⟨1, by omega, rfl⟩
    · exact ⟨2, by omega, rfl⟩
    · exact ⟨4, by omega, rfl⟩
  refine ⟨k, a1, b1, c1, ha1, hk.1, hk.2, ?_⟩
  simp_arith! [e1, cut_map, cut_mid ns (show 12 + k ≤ ns.length by omega), pS]
theorem pC_ok {n : Nat} {a b c top : Int} {s0 : Nat} {s1 s2 : Int} {ns os : List Str} {calls outlays name due many days left day turn part whole payer most reserve : Sl} (ha : 0 ≤ a) (ht : 1 ≤ top ∧ top ≤ 1000000) (hl : ns.length = 16) (hs : 1 ≤ s0 ∧ s0 ≤ 12) (ho : os ≠ []) (hol : os.length ≤ 16) :
    ∃ (k : Nat) (ps : List Pay) (name' due' offices' : Sl) (a' b' c' : Int), 0 ≤ a' ∧ 1 ≤ k ∧ k ≤ 12 ∧ ps.map (·.1) = sortS (ns.take k) ∧ (∀ q ∈ ps, q.2.1 ∈ os ∧ 1 ≤ q.2.2 ∧ q.2.2 ≤ 1000000) ∧
      ex (gAt P rp (n + 3)) (.forr (.slot 8) (.seq (.o1 .sorted (.slice (.slotB 3) (.const .non) (.o2 .max (.const (.int (1))) (.o2 .sub (.o2 .idx (.slotB 1) (.const (.int (0)))) (.call i_law_of [.e (.slotP 0), .e (.lst [(.const (.int (0))), (.const (.int (0))), (.const (.int (1))), (.call i_law_take [.e (.slotP 0), .e (.o2 .idx (.slotB 1) (.const (.int (0))))])])])))))) bPayers)
        (pS mz (szD s0 s1 s2) (.int top) (.own (.lst (ns.map .str))) (.own (.lst [])) calls outlays (.own (.lst (os.map .str))) name due many days left day turn part whole payer most reserve (U mz a b c)) =
      .ok .nx (pS mz (szD s0 s1 s2) (.int top) (.own (.lst (ns.map .str))) (.own (.lst (ps.map payD))) calls outlays offices' name' due' many days left day turn part whole payer most reserve (U mz a' b' c')) := by
  obtain ⟨r1, a1, b1, c1, hr1, ha1, e1⟩ := take_ev (rp := rp) (mz := mz) (n := n + 2) (b := b) (c := c) (e := (.o2 .idx (.slotB 1) (.const (.int (0))))) (s0 := pS mz (szD s0 s1 s2) (.int top) (.own (.lst (ns.map .str))) (.own (.lst [])) calls outlays (.own (.lst (os.map .str))) name due many days left day turn part whole payer most reserve (U mz a b c)) (many := s0)
    (ρ := (pS mz (szD s0 s1 s2) (.int top) (.own (.lst (ns.map .str))) (.own (.lst [])) calls outlays (.own (.lst (os.map .str))) name due many days left day turn part whole payer most reserve (U mz a b c)).ρ) hp rfl (by simp_arith! [szD]) ha (by omega) (by omega)
  obtain ⟨x, a2, b2, c2, hx, ha2, e2⟩ := of_ev (rp := rp) (mz := mz) (n := n + 1) (es := [(.const (.int (0))), (.const (.int (0))), (.const (.int (1))), (.call i_law_take [.e (.slotP 0), .e (.o2 .idx (.slotB 1) (.const (.int (0))))])])
    (s0 := pS mz (szD s0 s1 s2) (.int top) (.own (.lst (ns.map .str))) (.own (.lst [])) calls outlays (.own (.lst (os.map .str))) name due many days left day turn part whole payer most reserve (U mz a b c)) (xs := [.int 0, .int 0, .int 1, .int r1]) (a := a1) (b := b1) (c := c1)
    (ρ := (pS mz (szD s0 s1 s2) (.int top) (.own (.lst (ns.map .str))) (.own (.lst [])) calls outlays (.own (.lst (os.map .str))) name due many days left day turn part whole payer most reserve (U mz a b c)).ρ) hp rfl (by simp only [szD] at e1 ⊢; simp_arith! [e1]) ha1 (by simp) (by simp)
  obtain ⟨v, hv, rfl⟩ : ∃ v : Int, (0 ≤ v ∧ v ≤ s0) ∧ x = .int v := by
    simp at hx
    rcases hx with rfl | rfl | rfl
    · exact ⟨_, by omega, rfl⟩
    · exact ⟨_, by omega, rfl⟩
    · exact ⟨_, by omega, rfl⟩
  obtain ⟨k, hk, hkk⟩ : ∃ k : Nat, (1 ≤ k ∧ k ≤ 12) ∧ (if (s0 : Int) - v > 1 then (s0 : Int) - v else 1) = (k : Int) := by
    by_cases h : (s0 : Int) - v > 1
    · exact ⟨((s0 : Int) - v).toNat, by omega, by rw [if_pos h]; omega⟩
    · exact ⟨1, by omega, by rw [if_neg h]; rfl⟩
  have hne : ns.take k ≠ [] := by
    intro h
    have := congrArg List.length h
    rw [List.length_take, List.length_nil] at this; omega
  obtain ⟨s', es, ps, nm', du', of', a3, b3, c3, hps, hq, hoff, ha3, rfl⟩ := forL_pre (turn := fun x s => (asT (gAt P rp (n + 3)) (.slot 8) x s).bind fun _ s => exs (gAt P rp (n + 3)) bPayers s) (dOf := fun x : Str => .str x)
    (fun pre s => ∃ (ps : List Pay) (nm' du' of' : Sl) (a' b' c' : Int), ps.map (·.1) = pre ∧ (∀ q ∈ ps, q.2.1 ∈ os ∧ 1 ≤ q.2.2 ∧ q.2.2 ≤ 1000000) ∧ (of' = .own (.lst (os.map .str)) ∨ of' = .val (.lst (os.map .str))) ∧ 0 ≤ a' ∧
      s = pS mz (szD s0 s1 s2) (.int top) (.own (.lst (ns.map .str))) (.own (.lst (ps.map payD))) calls outlays of' nm' du' many days left day turn part whole payer most reserve (U mz a' b' c')) (sortS (ns.take k)) (by
      rintro pre x post _ e0 ⟨ps, nm', du', of', a', b', c', hps, hq, hoff, ha', rfl⟩
      have hlen : ps.length < 60 := by
        have h1 := congrArg List.length e0
        have h2 := congrArg List.length hps
        simp [sortS_len] at h1 h2
        omega
      obtain ⟨o, d, du2, a2, b2, c2, ho2, hd2, ha2, e⟩ := payer_ok (rp := rp) (mz := mz) (n := n + 1) (a := a') (b := b') (c := c') (top := top) (sz := szD s0 s1 s2) (names := .own (.lst (ns.map .str))) (calls := calls) (outlays := outlays) (due := du') (many := many) (days := days) (left := left) (day := day) (turn := turn) (part := part) (whole := whole) (payer := payer) (most := most) (reserve := reserve) (ps := ps) (os := os) (nm := x) (off := of') hp ha' ht ho hol hlen hoff
      refine ⟨pS mz (szD s0 s1 s2) (.int top) (.own (.lst (ns.map .str))) (.own (.lst ((ps ++ [(x, o, d)]).map payD))) calls outlays (.val (.lst (os.map .str))) (.val (.str x)) du2 many days left day turn part whole payer most reserve (U mz a2 b2 c2), ?_, ps ++ [(x, o, d)], .val (.str x), du2, .val (.lst (os.map .str)), a2, b2, c2, ?_, ?_, .inr rfl, ha2, rfl⟩
      · rw [asT_slot, Out.bind_ok]
        exact e
      · rw [List.map_append, hps]; rfl
      · intro q hq2
        rcases List.mem_append.mp hq2 with h | h
        · exact hq q h
        · rw [List.mem_singleton.mp h]; exact ⟨ho2, hd2⟩) (sortS (ns.take k)) [] (pS mz (szD s0 s1 s2) (.int top) (.own (.lst (ns.map .str))) (.own (.lst [])) calls outlays (.own (.lst (os.map .str))) name due many days left day turn part whole payer most reserve (U mz a2 b2 c2)) rfl ⟨[], _, _, _, _, _, _, rfl, (fun q h => by simp at h), .inl rfl, ha2, rfl⟩
  refine ⟨k, ps, nm', du', of', a3, b3, c3, ha3, hk.1, hk.2, hps, hq, ?_⟩
  have e3 : ev (gAt P rp (n + 3)) (.o1 .sorted (.slice (.slotB 3) (.const .non) (.o2 .max (.const (.int (1))) (.o2 .sub (.o2 .idx (.slotB 1) (.const (.int (0)))) (.call i_law_of [.e (.slotP 0), .e (.lst [(.const (.int (0))), (.const (.int (0))), (.const (.int (1))), (.call i_law_take [.e (.slotP 0), .e (.o2 .idx (.slotB 1) (.const (.int (0))))])])])))))
      (pS mz (szD s0 s1 s2) (.int top) (.own (.lst (ns.map .str))) (.own (.lst [])) calls outlays (.own (.lst (os.map .str))) name due many days left day turn part whole payer most reserve (U mz a b c)) = .ok (.f (.lst ((sortS (ns.take k)).map .str)))
      (pS mz (szD s0 s1 s2) (.int top) (.own (.lst (ns.map .str))) (.own (.lst [])) calls outlays (.own (.lst (os.map .str))) name due many days left day turn part whole payer most reserve (U mz a2 b2 c2)) := by
    simp only [szD] at e2 ⊢
    simp_arith! [e2, hkk, cut_map, cut_first ns (show k ≤ ns.length by omega), sorted_strs hne (show (ns.take k).length < 64 by rw [List.length_take]; omega)]
  rw [ex_forr, evI_seq, e3, Out.bind_ok]
  exact es
end
end Pv
end

section
set_option Elab.async false
set_option linter.all false
set_option maxRecDepth 100000
/-! K13: drawn plans: calls. -/
namespace Pv
open PySem
section
variable {P : Prog} {rp : D → Option Str} {mz : List Ob}
variable (hp : Has P)
include hp
theorem pD_ok {n : Nat} {a b c s0 s2 : Int} {s1 : Nat} {top : D} {names payers calls outlays offices name due many days left day turn part whole payer most reserve : Sl} (ha : 0 ≤ a) (hs : 1 ≤ s1 ∧ s1 ≤ 8) :
    ∃ (k : Nat) (a' b' c' : Int), 0 ≤ a' ∧ 1 ≤ k ∧ k ≤ 8 ∧
      ex (gAt P rp (n + 3)) (.par [10, 11, 12] [(.o2 .max (.const (.int (1))) (.o2 .sub (.o2 .idx (.slotB 1) (.const (.int (1)))) (.call i_law_of [.e (.slotP 0), .e (.lst [(.const (.int (0))), (.const (.int (0))), (.const (.int (1))), (.call i_law_take [.e (.slotP 0), .e (.o2 .idx (.slotB 1) (.const (.int (1))))])])]))), (.lst []), (.const (.int (1000)))])
        (pS mz (szD s0 s1 s2) top names payers calls outlays offices name due many days left day turn part whole payer most reserve (U mz a b c)) =
      .ok .nx (pS mz (szD s0 s1 s2) top names payers calls outlays offices name due (.val (.int k)) (.own (.lst [])) (.val (.int 1000)) day turn part whole payer most reserve (U mz a' b' c')) := by
  obtain ⟨r1, a1, b1, c1, hr1, ha1, e1⟩ := take_ev (rp := rp) (mz := mz) (n := n + 2) (b := b) (c := c) (e := (.o2 .idx (.slotB 1) (.const (.int (1))))) (s0 := pS mz (szD s0 s1 s2) top names payers calls outlays offices name due many days left day turn part whole payer most reserve (U mz a b c)) (many := s1)
    (ρ := (pS mz (szD s0 s1 s2) top names payers calls outlays offices name due many days left day turn part whole payer most reserve (U mz a b c)).ρ) hp rfl (by simp_arith! [szD]) ha (by omega) (by omega)
  obtain ⟨x, a2, b2, c2, hx, ha2, e2⟩ := of_ev (rp := rp) (mz := mz) (n := n + 1) (es := [(.const (.int (0))), (.const (.int (0))), (.const (.int (1))), (.call i_law_take [.e (.slotP 0), .e (.o2 .idx (.slotB 1) (.const (.int (1))))])])
    (s0 := pS mz (szD s0 s1 s2) top names payers calls outlays offices name due many days left day turn part whole payer most reserve (U mz a b c)) (xs := [.int 0, .int 0, .int 1, .int r1]) (a := a1) (b := b1) (c := c1)
    (ρ := (pS mz (szD s0 s1 s2) top names payers calls outlays offices name due many days left day turn part whole payer most reserve (U mz a b c)).ρ) hp rfl (by simp only [szD] at e1 ⊢; simp_arith! [e1]) ha1 (by simp) (by simp)
  obtain ⟨v, hv, rfl⟩ : ∃ v : Int, (0 ≤ v ∧ v ≤ s1) ∧ x = .int v := by
    simp at hx
    rcases hx with rfl | rfl | rfl
    · exact ⟨_, by omega, rfl⟩
    · exact ⟨_, by omega, rfl⟩
    · exact ⟨_, by omega, rfl⟩
  obtain ⟨k, hk, hkk⟩ : ∃ k : Nat, (1 ≤ k ∧ k ≤ 8) ∧ (if (s1 : Int) - v > 1 then (s1 : Int) - v else 1) = (k : Int) := by
    by_cases h : (s1 : Int) - v > 1
    · exact ⟨((s1 : Int) - v).toNat, by omega, by rw [if_pos h]; omega⟩
    · exact ⟨1, by omega, by rw [if_neg h]; rfl⟩
  refine ⟨k, a2, b2, c2, ha2, hk.1, hk.2, ?_⟩
  simp only [szD] at e2 ⊢
  simp_arith! [e2, hkk, pS]
theorem pE_ok {n : Nat} {a b c : Int} {sz top : D} {names payers calls outlays offices name due many days left day turn part whole payer most reserve : Sl} (ha : 0 ≤ a) :
    ∃ (d a' b' c' : Int), 0 ≤ a' ∧ 0 ≤ d ∧ d ≤ 17 ∧
      ex (gAt P rp (n + 3)) (.asg (.slot 13) (.call i_law_of [.e (.slotP 0), .e (.lst [(.const (.int (0))), (.const (.int (0))), (.call i_law_take [.e (.slotP 0), .e (.const (.int (18)))])])]))
        (pS mz sz top names payers calls outlays offices name due many days left day turn part whole payer most reserve (U mz a b c)) =
      .ok .nx (pS mz sz top names payers calls outlays offices name due many days left (.val (.int d)) turn part whole payer most reserve (U mz a' b' c')) := by
  obtain ⟨r1, a1, b1, c1, hr1, ha1, e1⟩ := take_ev (rp := rp) (mz := mz) (n := n + 2) (b := b) (c := c) (e := .const (.int 18)) (s0 := pS mz sz top names payers calls outlays offices name due many days left day turn part whole payer most reserve (U mz a b c)) (many := 18) hp rfl rfl ha (by omega) (by omega)
  obtain ⟨x, a2, b2, c2, hx, ha2, e2⟩ := of_ev (rp := rp) (mz := mz) (n := n + 1) (es := [(.const (.int (0))), (.const (.int (0))), (.call i_law_take [.e (.slotP 0), .e (.const (.int (18)))])])
    (s0 := pS mz sz top names payers calls outlays offices name due many days left day turn part whole payer most reserve (U mz a b c)) (xs := [.int 0, .int 0, .int r1]) (a := a1) (b := b1) (c := c1)
    (ρ := (pS mz sz top names payers calls outlays offices name due many days left day turn part whole payer most reserve (U mz a b c)).ρ) hp rfl (by simp_arith! [e1]) ha1 (by simp) (by simp)
  obtain ⟨v, hv, rfl⟩ : ∃ v : Int, (0 ≤ v ∧ v ≤ 17) ∧ x = .int v := by
    simp at hx
    rcases hx with rfl | rfl
    · exact ⟨_, by omega, rfl⟩
    · exact ⟨_, by omega, rfl⟩
  exact ⟨v, a2, b2, c2, ha2, hv.1, hv.2, by simp_arith! [e2, pS]⟩
theorem pF_ok {n : Nat} {a b c d0 : Int} {k : Nat} {sz top : D} {names payers calls outlays offices name due left turn part whole payer most reserve : Sl} (ha : 0 ≤ a) (hk : k ≤ 8) (hd : 0 ≤ d0 ∧ d0 ≤ 17) :
    ∃ (ds : List Int) (day' turn' : Sl) (a' b' c' : Int), 0 ≤ a' ∧ ds.length = k ∧ ds.Pairwise (· < ·) ∧ (∀ d ∈ ds, 0 ≤ d ∧ d ≤ 60) ∧
      ex (gAt P rp (n + 3)) (.forr (.slot 14) (.range [(.slot 10)]) bDays)
        (pS mz sz top names payers calls outlays offices name due (.val (.int k)) (.own (.lst [])) left (.val (.int d0)) turn part whole payer most reserve (U mz a b c)) =
      .ok .nx (pS mz sz top names payers calls outlays offices name due (.val (.int k)) (.own (.lst (ds.map .int))) left day' turn' part whole payer most reserve (U mz a' b' c')) := by
  obtain ⟨s', es, ds, dy, tn, a1, b1, c1, hl, hpw, hlt, h0, hup, hdu, ha1, rfl⟩ := forL_pre (turn := fun x s => (asT (gAt P rp (n + 3)) (.slot 14) x s).bind fun _ s => exs (gAt P rp (n + 3)) bDays s) (dOf := fun i : Nat => .int i)
    (fun pre s => ∃ (ds : List Int) (dy : Int) (tn : Sl) (a' b' c' : Int), ds.length = pre.length ∧ ds.Pairwise (· < ·) ∧ (∀ d ∈ ds, d < dy) ∧ (∀ d ∈ ds, 0 ≤ d ∧ d ≤ 60) ∧ 0 ≤ dy ∧ dy ≤ 17 + 6 * pre.length ∧ 0 ≤ a' ∧
      s = pS mz sz top names payers calls outlays offices name due (.val (.int k)) (.own (.lst (ds.map .int))) left (.val (.int dy)) tn part whole payer most reserve (U mz a' b' c')) (List.range k) (by
      rintro pre i post _ e0 ⟨ds, dy, tn, a', b', c', hl, hpw, hlt, h60, hd0, hdu, ha', rfl⟩
      obtain ⟨hi, hik⟩ := range_split e0
      obtain ⟨d2, a2, b2, c2, hd2, ha2, e⟩ := days_ok (rp := rp) (mz := mz) (n := n + 1) (a := a') (b := b') (c := c') (day := dy) (sz := sz) (top := top) (names := names) (payers := payers) (calls := calls) (outlays := outlays) (off := offices) (name := name) (due := due) (many := .val (.int k)) (left := left) (turn := .val (.int i)) (part := part) (whole := whole) (payer := payer) (most := most) (reserve := reserve) (ds := ds) hp ha' (by omega)
      refine ⟨pS mz sz top names payers calls outlays offices name due (.val (.int k)) (.own (.lst ((ds ++ [dy]).map .int))) left (.val (.int d2)) (.val (.int i)) part whole payer most reserve (U mz a2 b2 c2), ?_, ds ++ [dy], d2, .val (.int i), a2, b2, c2, by simp [hl], ?_, ?_, ?_, by omega, ?_, ha2, rfl⟩
      · rw [asT_slot, Out.bind_ok]
        exact e
      · rw [List.pairwise_append]
        exact ⟨hpw, List.pairwise_singleton _ _, fun x hx y hy => by rw [List.mem_singleton.mp hy]; exact hlt x hx⟩
      · intro x hx
        rcases List.mem_append.mp hx with h | h
        · have := hlt x h; omega
        · rw [List.mem_singleton.mp h]; omega
      · intro x hx
        rcases List.mem_append.mp hx with h | h
        · exact h60 x h
        · rw [List.mem_singleton.mp h]; omega
      · rw [List.length_append, List.length_singleton]; omega) (List.range k) [] (pS mz sz top names payers calls outlays offices name due (.val (.int k)) (.own (.lst [])) left (.val (.int d0)) turn part whole payer most reserve (U mz a b c)) rfl ⟨[], d0, turn, a, b, c, rfl, List.Pairwise.nil, (fun x h => by simp at h), (fun x h => by simp at h), hd.1, (by simp; omega), ha, rfl⟩
  refine ⟨ds, .val (.int dy), tn, a1, b1, c1, ha1, by rw [hl, List.length_range], hpw, h0, ?_⟩
  have he : evs (gAt P rp (n + 3)) [(.slot 10)] (pS mz sz top names payers calls outlays offices name due (.val (.int k)) (.own (.lst [])) left (.val (.int d0)) turn part whole payer most reserve (U mz a b c)) = .ok [.int (k : Int)] (pS mz sz top names payers calls outlays offices name due (.val (.int k)) (.own (.lst [])) left (.val (.int d0)) turn part whole payer most reserve (U mz a b c)) := by
    simp_arith! []
  rw [ex_forr, evI_range, he, Out.bind_ok, range_lit (by omega), lift_some, Out.bind_ok]
  exact es
theorem pG_ok {n : Nat} {a b c : Int} {k : Nat} {ds : List Int} {sz top : D} {names payers outlays offices name due day turn part whole payer most reserve : Sl} (ha : 0 ≤ a) (hk : 1 ≤ k ∧ k ≤ 8) (hds : ds.length = k) :
    ∃ (cs : List (Int × Int)) (left' turn' part' : Sl) (a' b' c' : Int), 0 ≤ a' ∧ cs.map (·.1) = ds ∧ (∀ c ∈ cs, 1 ≤ c.2 ∧ c.2 ≤ 1000) ∧ (cs.map (·.2)).sum = 1000 ∧
      ex (gAt P rp (n + 3)) (.forr (.slot 14) (.range [(.slot 10)]) bParts)
        (pS mz sz top names payers (.own (.lst [])) outlays offices name due (.val (.int k)) (.own (.lst (ds.map .int))) (.val (.int 1000)) day turn part whole payer most reserve (U mz a b c)) =
      .ok .nx (pS mz sz top names payers (.own (.lst (cs.map prD))) outlays offices name due (.val (.int k)) (.own (.lst (ds.map .int))) left' day turn' part' whole payer most reserve (U mz a' b' c')) := by
  obtain ⟨s', es, cs, lf, tn, pt, a1, b1, c1, hcs, hpt, hsum, hlf, hend, ha1, rfl⟩ := forL_pre (turn := fun x s => (asT (gAt P rp (n + 3)) (.slot 14) x s).bind fun _ s => exs (gAt P rp (n + 3)) bParts s) (dOf := fun i : Nat => .int i)
    (fun pre s => ∃ (cs : List (Int × Int)) (lf : Int) (tn pt : Sl) (a' b' c' : Int), cs.map (·.1) = ds.take pre.length ∧ (∀ c ∈ cs, 1 ≤ c.2 ∧ c.2 ≤ 1000) ∧ (cs.map (·.2)).sum + lf = 1000 ∧ (pre.length < k → (k : Int) - pre.length + 1 ≤ lf) ∧ (pre.length = k → lf = 0) ∧ 0 ≤ a' ∧
      s = pS mz sz top names payers (.own (.lst (cs.map prD))) outlays offices name due (.val (.int k)) (.own (.lst (ds.map .int))) (.val (.int lf)) day tn pt whole payer most reserve (U mz a' b' c')) (List.range k) (by
      rintro pre i post _ e0 ⟨cs, lf, tn, pt, a', b', c', hcs, hpt, hsum, hlf, hend, ha', rfl⟩
      obtain ⟨hi, hik⟩ := range_split e0
      subst hi
      have hcl : cs.length = pre.length := by
        have := congrArg List.length hcs
        rw [List.length_map, List.length_take] at this
        omega
      have hnn : 0 ≤ (cs.map (·.2)).sum := by
        clear hcs hsum e0 hlf hend hcl
        induction cs with
        | nil => simp
        | cons x xs ih =>
          rw [List.map_cons, List.sum_cons]
          have h1 := hpt x (by simp)
          have h2 := ih (fun y hy => hpt y (by simp [hy]))
          omega
      obtain ⟨p2, l2, pt2, a2, b2, c2, hp2, hn2, hz2, hs2, ha2, e⟩ := parts_ok (rp := rp) (mz := mz) (n := n + 1) (a := a') (b := b') (c := c') (left := lf) (sz := sz) (top := top) (names := names) (payers := payers) (outlays := outlays) (off := offices) (name := name) (due := due) (day := day) (part := pt) (whole := whole) (payer := payer) (most := most) (reserve := reserve) (ds := ds) (cs := cs) (many := k) (t := pre.length) hp ha' hds hik hk.2 hcl (by have := hlf hik; omega) (by omega)
      refine ⟨pS mz sz top names payers (.own (.lst ((cs ++ [((ds[pre.length]?).getD 0, p2)]).map prD))) outlays offices name due (.val (.int k)) (.own (.lst (ds.map .int))) (.val (.int l2)) day (.val (.int (pre.length : Nat))) pt2 whole payer most reserve (U mz a2 b2 c2), ?_, cs ++ [((ds[pre.length]?).getD 0, p2)], l2, .val (.int (pre.length : Nat)), pt2, a2, b2, c2, ?_, ?_, ?_, ?_, ?_, ha2, rfl⟩
      · rw [asT_slot, Out.bind_ok]
        exact e
      · rw [List.map_append, hcs, List.length_append, List.length_singleton, List.take_add_one, List.getElem?_eq_getElem (show pre.length < ds.length by omega)]
        rfl
      · intro x hx
        rcases List.mem_append.mp hx with h | h
        · exact hpt x h
        · rw [List.mem_singleton.mp h]; exact hp2
      · rw [List.map_append, List.sum_append]
        simp only [List.map_cons, List.map_nil, List.sum_cons, List.sum_nil]
        omega
      · rw [List.length_append, List.length_singleton]; intro h; have := hn2 h; omega
      · rw [List.length_append, List.length_singleton]; exact hz2) (List.range k) [] (pS mz sz top names payers (.own (.lst [])) outlays offices name due (.val (.int k)) (.own (.lst (ds.map .int))) (.val (.int 1000)) day turn part whole payer most reserve (U mz a b c)) rfl ⟨[], 1000, turn, part, a, b, c, rfl, (fun x h => by simp at h), rfl, (by intro _; simp; omega), (by simp; omega), ha, rfl⟩
  refine ⟨cs, .val (.int lf), tn, pt, a1, b1, c1, ha1, by rw [hcs, List.length_range, ← hds, List.take_length], hpt, by have := hend List.length_range; omega, ?_⟩
  have he : evs (gAt P rp (n + 3)) [(.slot 10)] (pS mz sz top names payers (.own (.lst [])) outlays offices name due (.val (.int k)) (.own (.lst (ds.map .int))) (.val (.int 1000)) day turn part whole payer most reserve (U mz a b c)) = .ok [.int (k : Int)] (pS mz sz top names payers (.own (.lst [])) outlays offices name due (.val (.int k)) (.own (.lst (ds.map .int))) (.val (.int 1000)) day turn part whole payer most reserve (U mz a b c)) := by
    simp_arith! []
  rw [ex_forr, evI_range, he, Out.bind_ok, range_lit (by omega), lift_some, Out.bind_ok]
  exact es
end
end Pv
end

section
set_option Elab.async false
set_option linter.all false
set_option maxRecDepth 100000
/-! K14: drawn plans: outlays' walk, the whole, the end. -/
namespace Pv
open PySem
section
variable {P : Prog} {rp : D → Option Str} {mz : List Ob}
variable (hp : Has P)
include hp
omit hp in
theorem dues_sum {ps : List Pay} (h : ∀ q ∈ ps, 1 ≤ q.2.2 ∧ q.2.2 ≤ 1000000) : (ps.length : Int) ≤ (ps.map (·.2.2)).sum ∧ (ps.map (·.2.2)).sum ≤ 1000000 * ps.length := by
  induction ps with
  | nil => simp
  | cons x xs ih =>
    rw [List.map_cons, List.sum_cons, List.length_cons]
    have h1 := h x (by simp)
    have h2 := ih (fun y hy => h y (by simp [hy]))
    omega
theorem pH_ok {n : Nat} {sz top : D} {ps : List Pay} {names calls outlays offices name due many days left day turn part whole payer most reserve : Sl} {m : List Ob} (hps : ps.length ≤ 12) (hpl : plainSl payer = true) :
    ∃ payer', ex (gAt P rp (n + 3)) (.par [13, 16] [(.const (.int (0))), (.o1 .sum (.comp [17] (.slot 17) (.seq (.slot 4)) [] (.o2 .idx (.slotB 17) (.const (.int (2))))))])
        (pS mz sz top names (.own (.lst (ps.map payD))) calls outlays offices name due many days left day turn part whole payer most reserve m) =
      .ok .nx (pS mz sz top names (.val (.lst (ps.map payD))) calls outlays offices name due many days left (.val (.int 0)) turn part (.val (.int ((ps.map (·.2.2)).sum))) payer' most reserve m) := by
  have hL := LINE_big
  refine ⟨payer, ?_⟩
  have e1 : ev (gAt P rp (n + 3)) (.comp [17] (.slot 17) (.seq (.slot 4)) [] (.o2 .idx (.slotB 17) (.const (.int (2))))) (pS mz sz top names (.own (.lst (ps.map payD))) calls outlays offices name due many days left day turn part whole payer most reserve m) = .ok (.f (.lst (ps.map fun q => .int q.2.2))) (pS mz sz top names (.val (.lst (ps.map payD))) calls outlays offices name due many days left day turn part whole payer most reserve m) := by
    rw [comp_valS (xs := ps) (dOf := payD) (fm := fun q => some (.int q.2.2)) (s := pS mz sz top names (.val (.lst (ps.map payD))) calls outlays offices name due many days left day turn part whole payer most reserve m) (by simp_arith! []) (by simp [pS, getN, hpl]) (fun a _ => ⟨[.val (.ref mz.length), .val sz, .val top, names, .val (.lst (ps.map payD)), calls, outlays, offices, name, due, many, days, left, day, turn, part, whole, .val (payD a), most, reserve], by ac_rfl, by simp_arith! [payD]⟩) (by omega), fm_map]
  simp_arith! [e1, intsOf_map, pS]
theorem pI_ok {n : Nat} {a b c w s0 s1 : Int} {s2 : Nat} {top : D} {names payers calls offices name due many days left turn part payer most reserve : Sl} (ha : 0 ≤ a) (hs : 1 ≤ s2 ∧ s2 ≤ 8) (hw : 1 ≤ w ∧ w ≤ 100000000) :
    ∃ (os : List (Int × Int)) (day' turn' most' : Sl) (a' b' c' : Int), 0 ≤ a' ∧ os.length ≤ 8 ∧ (os.map (·.1)).Pairwise (· ≤ ·) ∧ (∀ d ∈ os, 0 ≤ d.1 ∧ d.1 ≤ 90 ∧ 1 ≤ d.2 ∧ d.2 ≤ 10000000) ∧
      ex (gAt P rp (n + 3)) (.forr (.slot 14) (.range [(.o2 .sub (.o2 .idx (.slotB 1) (.const (.int (2)))) (.call i_law_of [.e (.slotP 0), .e (.lst [(.const (.int (0))), (.const (.int (1))), (.call i_law_take [.e (.slotP 0), .e (.o2 .add (.o2 .idx (.slotB 1) (.const (.int (2)))) (.const (.int (1))))])])]))]) bOuts)
        (pS mz (szD s0 s1 s2) top names payers calls (.own (.lst [])) offices name due many days left (.val (.int 0)) turn part (.val (.int w)) payer most reserve (U mz a b c)) =
      .ok .nx (pS mz (szD s0 s1 s2) top names payers calls (.own (.lst (os.map prD))) offices name due many days left day' turn' part (.val (.int w)) payer most' reserve (U mz a' b' c')) := by
  obtain ⟨r1, a1, b1, c1, hr1, ha1, e1⟩ := take_ev (rp := rp) (mz := mz) (n := n + 2) (b := b) (c := c) (e := (.o2 .add (.o2 .idx (.slotB 1) (.const (.int (2)))) (.const (.int (1))))) (s0 := pS mz (szD s0 s1 s2) top names payers calls (.own (.lst [])) offices name due many days left (.val (.int 0)) turn part (.val (.int w)) payer most reserve (U mz a b c)) (many := s2 + 1)
    (ρ := (pS mz (szD s0 s1 s2) top names payers calls (.own (.lst [])) offices name due many days left (.val (.int 0)) turn part (.val (.int w)) payer most reserve (U mz a b c)).ρ) hp rfl (by simp_arith! [szD]) ha (by omega) (by omega)
  obtain ⟨x, a2, b2, c2, hx, ha2, e2⟩ := of_ev (rp := rp) (mz := mz) (n := n + 1) (es := [(.const (.int (0))), (.const (.int (1))), (.call i_law_take [.e (.slotP 0), .e (.o2 .add (.o2 .idx (.slotB 1) (.const (.int (2)))) (.const (.int (1))))])])
    (s0 := pS mz (szD s0 s1 s2) top names payers calls (.own (.lst [])) offices name due many days left (.val (.int 0)) turn part (.val (.int w)) payer most reserve (U mz a b c)) (xs := [.int 0, .int 1, .int r1]) (a := a1) (b := b1) (c := c1)
    (ρ := (pS mz (szD s0 s1 s2) top names payers calls (.own (.lst [])) offices name due many days left (.val (.int 0)) turn part (.val (.int w)) payer most reserve (U mz a b c)).ρ) hp rfl (by simp only [szD] at e1 ⊢; simp_arith! [e1]) ha1 (by simp) (by simp)
  obtain ⟨v, hv, rfl⟩ : ∃ v : Int, (0 ≤ v ∧ v ≤ s2) ∧ x = .int v := by
    simp at hx
    rcases hx with rfl | rfl | rfl
    · exact ⟨_, by omega, rfl⟩
    · exact ⟨_, by omega, rfl⟩
    · exact ⟨_, by omega, rfl⟩
  obtain ⟨k, hk, hkk⟩ : ∃ k : Nat, k ≤ 8 ∧ (s2 : Int) - v = (k : Int) := ⟨((s2 : Int) - v).toNat, by omega, by omega⟩
  obtain ⟨s', es, os, dy, tn, ms, a3, b3, c3, hl, hpw, hlt, hok, hdy, ha3, rfl⟩ := forL_pre (turn := fun x s => (asT (gAt P rp (n + 3)) (.slot 14) x s).bind fun _ s => exs (gAt P rp (n + 3)) bOuts s) (dOf := fun i : Nat => .int i)
    (fun pre s => ∃ (os : List (Int × Int)) (dy : Int) (tn ms : Sl) (a' b' c' : Int), os.length = pre.length ∧ (os.map (·.1)).Pairwise (· ≤ ·) ∧ (∀ d ∈ os, d.1 ≤ dy) ∧ (∀ d ∈ os, 0 ≤ d.1 ∧ d.1 ≤ 90 ∧ 1 ≤ d.2 ∧ d.2 ≤ 10000000) ∧ (0 ≤ dy ∧ dy ≤ 90) ∧ 0 ≤ a' ∧
      s = pS mz (szD s0 s1 s2) top names payers calls (.own (.lst (os.map prD))) offices name due many days left (.val (.int dy)) tn part (.val (.int w)) payer ms reserve (U mz a' b' c')) (List.range k) (by
      rintro pre i post _ e0 ⟨os, dy, tn, ms, a', b', c', hl, hpw, hlt, hok, hdy, ha', rfl⟩
      obtain ⟨hi, hik⟩ := range_split e0
      obtain ⟨d2, u, m2, a2, b2, c2, hd2, hu, ha2, e⟩ := outs_ok (rp := rp) (mz := mz) (n := n + 1) (a := a') (b := b') (c := c') (day := dy) (w := w) (sz := szD s0 s1 s2) (top := top) (names := names) (payers := payers) (calls := calls) (offices := offices) (name := name) (due := due) (many := many) (days := days) (left := left) (turn := .val (.int i)) (part := part) (payer := payer) (most := ms) (reserve := reserve) (os := os) hp ha' hdy hw (by omega)
      refine ⟨pS mz (szD s0 s1 s2) top names payers calls (.own (.lst ((os ++ [(d2, u)]).map prD))) offices name due many days left (.val (.int d2)) (.val (.int i)) part (.val (.int w)) payer m2 reserve (U mz a2 b2 c2), ?_, os ++ [(d2, u)], d2, .val (.int i), m2, a2, b2, c2, by simp [hl], ?_, ?_, ?_, by omega, ha2, rfl⟩
      · rw [asT_slot, Out.bind_ok]
        exact e
      · rw [List.map_append, List.pairwise_append]
        refine ⟨hpw, List.pairwise_singleton _ _, fun x hx y hy => ?_⟩
        obtain ⟨z, hz, rfl⟩ := List.mem_map.mp hx
        rw [List.mem_singleton.mp hy]
        have := hlt z hz
        show z.1 ≤ d2
        omega
      · intro x hx
        rcases List.mem_append.mp hx with h | h
        · have := hlt x h; omega
        · rw [List.mem_singleton.mp h]; exact Int.le_refl _
      · intro x hx
        rcases List.mem_append.mp hx with h | h
        · exact hok x h
        · rw [List.mem_singleton.mp h]; exact ⟨by omega, by omega, hu.1, hu.2⟩) (List.range k) [] (pS mz (szD s0 s1 s2) top names payers calls (.own (.lst [])) offices name due many days left (.val (.int 0)) turn part (.val (.int w)) payer most reserve (U mz a2 b2 c2)) rfl ⟨[], 0, turn, most, a2, b2, c2, rfl, List.Pairwise.nil, (fun x h => by simp at h), (fun x h => by simp at h), by omega, ha2, rfl⟩
  refine ⟨os, .val (.int dy), tn, ms, a3, b3, c3, ha3, by rw [hl, List.length_range]; exact hk, hpw, hok, ?_⟩
  have he : evs (gAt P rp (n + 3)) [(.o2 .sub (.o2 .idx (.slotB 1) (.const (.int (2)))) (.call i_law_of [.e (.slotP 0), .e (.lst [(.const (.int (0))), (.const (.int (1))), (.call i_law_take [.e (.slotP 0), .e (.o2 .add (.o2 .idx (.slotB 1) (.const (.int (2)))) (.const (.int (1))))])])]))]
      (pS mz (szD s0 s1 s2) top names payers calls (.own (.lst [])) offices name due many days left (.val (.int 0)) turn part (.val (.int w)) payer most reserve (U mz a b c)) = .ok [.int (k : Int)] (pS mz (szD s0 s1 s2) top names payers calls (.own (.lst [])) offices name due many days left (.val (.int 0)) turn part (.val (.int w)) payer most reserve (U mz a2 b2 c2)) := by
    simp only [szD] at e2 ⊢
    simp_arith! [e2, hkk]
  rw [ex_forr, evI_range, he, Out.bind_ok, range_lit (by omega), lift_some, Out.bind_ok]
  exact es
theorem pJ_ok {n : Nat} {a b c w : Int} {sz top : D} {names payers calls outlays offices name due many days left day turn part payer most reserve : Sl} (ha : 0 ≤ a) (hw : 1 ≤ w ∧ w ≤ 100000000) :
    ∃ (r a' b' c' : Int), 0 ≤ a' ∧ 0 ≤ r ∧ r ≤ 100000000 ∧
      ex (gAt P rp (n + 3)) (.asg (.slot 19) (.call i_law_of [.e (.slotP 0), .e (.lst [(.const (.int (0))), (.call i_law_take [.e (.slotP 0), .e (.o2 .add (.slotB 16) (.const (.int (1))))]), (.call i_law_take [.e (.slotP 0), .e (.o2 .add (.o2 .fdiv (.slotB 16) (.const (.int (2)))) (.const (.int (1))))]), (.call i_law_take [.e (.slotP 0), .e (.const (.int (9)))])])]))
        (pS mz sz top names payers calls outlays offices name due many days left day turn part (.val (.int w)) payer most reserve (U mz a b c)) =
      .ok .nx (pS mz sz top names payers calls outlays offices name due many days left day turn part (.val (.int w)) payer most (.val (.int r)) (U mz a' b' c')) := by
  have hf : 0 ≤ w.fdiv 2 ∧ w.fdiv 2 ≤ w := by rw [Int.fdiv_eq_ediv_of_nonneg w (by decide)]; omega
  obtain ⟨r1, a1, b1, c1, hr1, ha1, e1⟩ := take_ev (rp := rp) (mz := mz) (n := n + 2) (b := b) (c := c) (e := (.o2 .add (.slotB 16) (.const (.int (1))))) (s0 := pS mz sz top names payers calls outlays offices name due many days left day turn part (.val (.int w)) payer most reserve (U mz a b c)) (many := w + 1)
    (ρ := (pS mz sz top names payers calls outlays offices name due many days left day turn part (.val (.int w)) payer most reserve (U mz a b c)).ρ) hp rfl (by simp_arith! []) ha (by omega) (by omega)
  obtain ⟨r2, a2, b2, c2, hr2, ha2, e2⟩ := take_ev (rp := rp) (mz := mz) (n := n + 2) (b := b1) (c := c1) (e := (.o2 .add (.o2 .fdiv (.slotB 16) (.const (.int (2)))) (.const (.int (1))))) (s0 := pS mz sz top names payers calls outlays offices name due many days left day turn part (.val (.int w)) payer most reserve (U mz a1 b1 c1)) (many := w.fdiv 2 + 1)
    (ρ := (pS mz sz top names payers calls outlays offices name due many days left day turn part (.val (.int w)) payer most reserve (U mz a b c)).ρ) hp rfl (by simp_arith! [(eq_true (by decide) : ((2 : Int) ≠ 0 ∧ Int.natAbs 2 < 1073741824) = True)]) ha1 (by omega) (by omega)
  obtain ⟨r3, a3, b3, c3, hr3, ha3, e3⟩ := take_ev (rp := rp) (mz := mz) (n := n + 2) (b := b2) (c := c2) (e := .const (.int 9)) (s0 := pS mz sz top names payers calls outlays offices name due many days left day turn part (.val (.int w)) payer most reserve (U mz a2 b2 c2)) (many := 9) hp rfl rfl ha2 (by omega) (by omega)
  obtain ⟨x, a4, b4, c4, hx, ha4, e4⟩ := of_ev (rp := rp) (mz := mz) (n := n + 1) (es := [(.const (.int (0))), (.call i_law_take [.e (.slotP 0), .e (.o2 .add (.slotB 16) (.const (.int (1))))]), (.call i_law_take [.e (.slotP 0), .e (.o2 .add (.o2 .fdiv (.slotB 16) (.const (.int (2)))) (.const (.int (1))))]), (.call i_law_take [.e (.slotP 0), .e (.const (.int (9)))])])
    (s0 := pS mz sz top names payers calls outlays offices name due many days left day turn part (.val (.int w)) payer most reserve (U mz a b c)) (xs := [.int 0, .int r1, .int r2, .int r3]) (a := a3) (b := b3) (c := c3)
    (ρ := (pS mz sz top names payers calls outlays offices name due many days left day turn part (.val (.int w)) payer most reserve (U mz a b c)).ρ) hp rfl (by simp_arith! [e1, e2, e3]) ha3 (by simp) (by simp)
  obtain ⟨v, hv, rfl⟩ : ∃ v : Int, (0 ≤ v ∧ v ≤ 100000000) ∧ x = .int v := by
    simp at hx
    rcases hx with rfl | rfl | rfl | rfl
    · exact ⟨_, by omega, rfl⟩
    · exact ⟨_, by omega, rfl⟩
    · exact ⟨_, by omega, rfl⟩
    · exact ⟨_, by omega, rfl⟩
  exact ⟨v, a4, b4, c4, ha4, hv.1, hv.2, by simp_arith! [e4, pS]⟩
end
end Pv
end

section
set_option Elab.async false
set_option linter.all false
set_option maxRecDepth 100000
/-! K15: drawn plans: the whole. -/
namespace Pv
open PySem
theorem firsts_nodup : ∀ (xs acc : List Str), acc.Nodup → (firsts acc xs).Nodup
  | [], acc, h => h
  | x :: r, acc, h => by
    unfold firsts
    apply firsts_nodup r
    split
    · exact h
    · rename_i hx
      rw [List.nodup_append]
      refine ⟨h, by simp, fun y hy z hz e => ?_⟩
      rw [List.mem_singleton] at hz
      rw [e, hz] at hy
      exact hx hy
theorem firsts_mem : ∀ (xs acc : List Str) (x : Str), x ∈ firsts acc xs ↔ x ∈ acc ∨ x ∈ xs
  | [], acc, x => by simp [firsts]
  | y :: r, acc, x => by
    unfold firsts
    rw [firsts_mem r]
    split
    · rename_i hy
      constructor
      · rintro (h | h)
        · exact .inl h
        · exact .inr (by simp [h])
      · rintro (h | h)
        · exact .inl h
        · rcases List.mem_cons.mp h with rfl | h
          · exact .inl hy
          · exact .inr h
    · simp only [List.mem_append, List.mem_cons, List.not_mem_nil, or_false]
      constructor
      · rintro ((h | h) | h)
        · exact .inl h
        · exact .inr (.inl h)
        · exact .inr (.inr h)
      · rintro (h | h | h)
        · exact .inl (.inl h)
        · exact .inl (.inr h)
        · exact .inr h
theorem nodup_len {α : Type} [DecidableEq α] : ∀ (xs ys : List α), xs.Nodup → (∀ x ∈ xs, x ∈ ys) → xs.length ≤ ys.length
  | [], ys, _, _ => by simp
  | x :: r, ys, h, hs => by
    obtain ⟨h1, h2⟩ := List.nodup_cons.mp h
    have hx := hs x (by simp)
    have := nodup_len r (ys.erase x) h2 (fun y hy => by
      have hne : y ≠ x := fun e => h1 (e ▸ hy)
      exact (List.mem_erase_of_ne hne).mpr (hs y (by simp [hy])))
    rw [List.length_erase_of_mem hx] at this
    have hp := List.length_pos_of_mem hx
    rw [List.length_cons]
    omega
theorem pw_step {α : Type} {R : α → α → Prop} {xs : List α} (h : xs.Pairwise R) : ∀ pre a b post, xs = pre ++ a :: b :: post → R a b := by
  rintro pre a b post rfl
  have := (List.pairwise_append.mp h).2.1
  exact (List.pairwise_cons.mp this).1 b (by simp)
section
variable {P : Prog} {rp : D → Option Str} {mz : List Ob}
variable (hp : Has P)
include hp
theorem plan_ok {n : Nat} {a b c top : Int} {s0 s1 s2 : Nat} (ha : 0 ≤ a) (ht : 1 ≤ top ∧ top ≤ 1000000) (h0 : 1 ≤ s0 ∧ s0 ≤ 12) (h1 : 1 ≤ s1 ∧ s1 ≤ 8) (h2 : 1 ≤ s2 ∧ s2 ≤ 8) :
    ∃ (p : Pl) (a' b' c' : Int), 0 ≤ a' ∧ p.Ok ∧ (p.fl = 0 ∧ p.lt = 0 ∧ p.sl = 0 ∧ p.wt = 0) ∧
      evFn P rp (n + 5) i_law_plan [] [.d (.ref mz.length), .d (szD s0 s1 s2), .d (.int top)] (U mz a b c) = .ok (.d p.parts) ⟨[], U mz a' b' c'⟩ := by
  obtain ⟨ns, a1, b1, c1, ha1, hns, hnm, hnd, e1⟩ := pA_ok (rp := rp) (mz := mz) (n := n) (b := b) (c := c) (top := top) (sz := szD s0 s1 s2) hp ha
  obtain ⟨kk, a2, b2, c2, ha2, hkk1, hkk4, e2⟩ := pB_ok (rp := rp) (mz := mz) (n := n) (b := b1) (c := c1) (top := top) (sz := szD s0 s1 s2) (payers := .own (.lst [])) (calls := .own (.lst [])) (outlays := .own (.lst [])) (offices := .no) (name := .no) (due := .no) (many := .no) (days := .no) (left := .no) (day := .no) (turn := .no) (part := .no) (whole := .no) (payer := .no) (most := .no) (reserve := .no) hp ha1 hns
  have hol : ((ns.drop 12).take kk).length ≤ 4 := by rw [List.length_take]; omega
  have hon : (ns.drop 12).take kk ≠ [] := by
    intro h
    have := congrArg List.length h
    rw [List.length_take, List.length_drop, List.length_nil] at this
    omega
  generalize hos : (ns.drop 12).take kk = os at hol hon e2
  obtain ⟨k, ps, nm', du', of', a3, b3, c3, ha3, hk1, hk12, hps, hq, e3⟩ := pC_ok (rp := rp) (mz := mz) (n := n) (b := b2) (c := c2) (top := top) (s0 := s0) (s1 := s1) (s2 := s2) (ns := ns) (os := os) (calls := .own (.lst [])) (outlays := .own (.lst [])) (name := .no) (due := .no) (many := .no) (days := .no) (left := .no) (day := .no) (turn := .no) (part := .no) (whole := .no) (payer := .no) (most := .no) (reserve := .no) hp ha2 ht hns h0 hon (by omega)
  obtain ⟨mk, a4, b4, c4, ha4, hm1, hm8, e4⟩ := pD_ok (rp := rp) (mz := mz) (n := n) (b := b3) (c := c3) (s0 := s0) (s1 := s1) (s2 := s2) (top := .int top) (names := .own (.lst (ns.map .str))) (payers := .own (.lst (ps.map payD))) (calls := .own (.lst [])) (outlays := .own (.lst [])) (offices := of') (name := nm') (due := du') (many := .no) (days := .no) (left := .no) (day := .no) (turn := .no) (part := .no) (whole := .no) (payer := .no) (most := .no) (reserve := .no) hp ha3 h1
  obtain ⟨d0, a5, b5, c5, ha5, hd0, hd17, e5⟩ := pE_ok (rp := rp) (mz := mz) (n := n) (b := b4) (c := c4) (sz := szD s0 s1 s2) (top := .int top) (names := .own (.lst (ns.map .str))) (payers := .own (.lst (ps.map payD))) (calls := .own (.lst [])) (outlays := .own (.lst [])) (offices := of') (name := nm') (due := du') (many := .val (.int mk)) (days := .own (.lst [])) (left := .val (.int 1000)) (day := .no) (turn := .no) (part := .no) (whole := .no) (payer := .no) (most := .no) (reserve := .no) hp ha4
  obtain ⟨ds, dy, tn, a6, b6, c6, ha6, hdl, hdpw, hd60, e6⟩ := pF_ok (rp := rp) (mz := mz) (n := n) (b := b5) (c := c5) (k := mk) (d0 := d0) (sz := szD s0 s1 s2) (top := .int top) (names := .own (.lst (ns.map .str))) (payers := .own (.lst (ps.map payD))) (calls := .own (.lst [])) (outlays := .own (.lst [])) (offices := of') (name := nm') (due := du') (left := .val (.int 1000)) (turn := .no) (part := .no) (whole := .no) (payer := .no) (most := .no) (reserve := .no) hp ha5 hm8 ⟨hd0, hd17⟩
  obtain ⟨cs, lf, tn2, pt, a7, b7, c7, ha7, hcs, hcp, hcsum, e7⟩ := pG_ok (rp := rp) (mz := mz) (n := n) (b := b6) (c := c6) (k := mk) (ds := ds) (sz := szD s0 s1 s2) (top := .int top) (names := .own (.lst (ns.map .str))) (payers := .own (.lst (ps.map payD))) (outlays := .own (.lst [])) (offices := of') (name := nm') (due := du') (day := dy) (turn := tn) (part := .no) (whole := .no) (payer := .no) (most := .no) (reserve := .no) hp ha6 ⟨hm1, hm8⟩ hdl
  have hpl12 : ps.length ≤ 12 := by
    have := congrArg List.length hps
    rw [List.length_map, sortS_len, List.length_take] at this
    omega
  have hpl1 : 1 ≤ ps.length := by
    have := congrArg List.length hps
    rw [List.length_map, sortS_len, List.length_take] at this
    omega
  have hdues := dues_sum (fun q hq' => (hq q hq').2)
  obtain ⟨py, e8⟩ := pH_ok (rp := rp) (mz := mz) (n := n) (sz := szD s0 s1 s2) (top := .int top) (ps := ps) (names := .own (.lst (ns.map .str))) (calls := .own (.lst (cs.map prD))) (outlays := .own (.lst [])) (offices := of') (name := nm') (due := du') (many := .val (.int mk)) (days := .own (.lst (ds.map .int))) (left := lf) (day := dy) (turn := tn2) (part := pt) (whole := .no) (payer := .no) (most := .no) (reserve := .no) (m := U mz a7 b7 c7) hp hpl12 rfl
  generalize hw : (ps.map (·.2.2)).sum = w at hdues e8
  have hw1 : 1 ≤ w ∧ w ≤ 100000000 := by omega
  obtain ⟨os2, dy2, tn3, ms, a8, b8, c8, ha8, hol8, hopw, hook, e9⟩ := pI_ok (rp := rp) (mz := mz) (n := n) (b := b7) (c := c7) (w := w) (s0 := s0) (s1 := s1) (s2 := s2) (top := .int top) (names := .own (.lst (ns.map .str))) (payers := .val (.lst (ps.map payD))) (calls := .own (.lst (cs.map prD))) (offices := of') (name := nm') (due := du') (many := .val (.int mk)) (days := .own (.lst (ds.map .int))) (left := lf) (turn := tn2) (part := pt) (payer := py) (most := .no) (reserve := .no) hp ha7 h2 hw1
  obtain ⟨rs, a9, b9, c9, ha9, hr0, hr1, e10⟩ := pJ_ok (rp := rp) (mz := mz) (n := n) (b := b8) (c := c8) (w := w) (sz := szD s0 s1 s2) (top := .int top) (names := .own (.lst (ns.map .str))) (payers := .val (.lst (ps.map payD))) (calls := .own (.lst (cs.map prD))) (outlays := .own (.lst (os2.map prD))) (offices := of') (name := nm') (due := du') (many := .val (.int mk)) (days := .own (.lst (ds.map .int))) (left := lf) (day := dy2) (turn := tn3) (part := pt) (payer := py) (most := ms) (reserve := .no) hp ha8 hw1
  refine ⟨⟨ps, cs, os2, if rs < 10000000 then rs else 10000000, 0, 0, 0, 0⟩, a9, b9, c9, ha9, ?_, ⟨rfl, rfl, rfl, rfl⟩, ?_⟩
  · have hsub : ∀ q ∈ ps, q.1 ∈ ns.take k := fun q hq' => by
      have : q.1 ∈ sortS (ns.take k) := by rw [← hps]; exact List.mem_map.mpr ⟨q, hq', rfl⟩
      exact (sortS_perm _).mem_iff.mp this
    have hosub : ∀ o ∈ os, o ∈ ns.drop 12 := fun o ho => by rw [← hos] at ho; exact List.mem_of_mem_take ho
    have hspl : ∀ x ∈ ns.take 12, ∀ y ∈ ns.drop 12, x ≠ y := by
      have h := hnd
      rw [← List.take_append_drop 12 ns, List.nodup_append] at h
      exact h.2.2
    refine ⟨?_, hpl12, fun q hq' => ⟨hnm _ (List.mem_of_mem_take (hsub q hq')), hnm _ (List.mem_of_mem_drop (hosub _ (hq q hq').1))⟩, fun q hq' => (hq q hq').2, ?_, ?_, fun j => ?_, ?_, ?_, ?_, ?_, hol8, hook, ?_, ?_, ⟨⟨Int.le_refl 0, (by decide : (0 : Int) ≤ 6)⟩, ⟨Int.le_refl 0, (by decide : (0 : Int) ≤ 9)⟩, ⟨Int.le_refl 0, (by decide : (0 : Int) ≤ 3)⟩, ⟨Int.le_refl 0, (by decide : (0 : Int) ≤ 9)⟩⟩, hcsum⟩
    · intro h
      have h' : ps = [] := h
      rw [h'] at hpl1; simp at hpl1
    · intro pre x y post e
      have hs : (ps.map (·.1)).Pairwise leS := by rw [hps]; exact sortS_pw _
      have hn : (ps.map (·.1)).Nodup := by rw [hps]; exact (sortS_perm _).nodup_iff.mpr ((List.take_sublist k ns).nodup hnd)
      have em : ps.map (·.1) = pre.map (·.1) ++ x.1 :: y.1 :: post.map (·.1) := by
        rw [show ps = pre ++ x :: y :: post from e]; simp
      have s1 := pw_step hs _ _ _ _ em
      have n1 := pw_step hn _ _ _ _ em
      cases hlt : ltS x.1 y.1 with
      | true => rfl
      | false => exact (n1 (leS_antisymm _ _ s1 hlt)).elim
    · intro q hq' r hr'
      have h12 : q.1 ∈ ns.take 12 := by
        have := hsub q hq'
        exact (List.take_subset_take_left ns (show k ≤ 12 from hk12)) this
      exact hspl _ h12 _ (hosub _ (hq r hr').1)
    · refine Nat.le_trans (nodup_len _ os (firsts_nodup _ _ List.nodup_nil) (fun x hx => ?_)) hol
      rcases (firsts_mem _ _ _).mp hx with h | h
      · simp at h
      · obtain ⟨q, hq', rfl⟩ := List.mem_map.mp h
        exact (hq q (List.mem_of_mem_take hq')).1
    · intro h
      have h' : cs = [] := h
      rw [h'] at hcs
      rw [← hcs] at hdl
      simp at hdl; omega
    · have := congrArg List.length hcs
      rw [List.length_map] at this
      show cs.length ≤ 8
      omega
    · intro q hq'
      have h1 := hd60 q.1 (by rw [← hcs]; exact List.mem_map.mpr ⟨q, hq', rfl⟩)
      have h2 := hcp q hq'
      exact ⟨h1.1, h1.2, h2.1, h2.2⟩
    · intro pre x y post e
      have em : ds = pre.map (·.1) ++ x.1 :: y.1 :: post.map (·.1) := by
        rw [← hcs, show cs = pre ++ x :: y :: post from e]; simp
      exact pw_step hdpw _ _ _ _ em
    · intro pre x y post e
      have em : os2.map (·.1) = pre.map (·.1) ++ x.1 :: y.1 :: post.map (·.1) := by
        rw [show os2 = pre ++ x :: y :: post from e]; simp
      exact pw_step hopw _ _ _ _ em
    · show 0 ≤ (if rs < 10000000 then rs else 10000000) ∧ (if rs < 10000000 then rs else 10000000) ≤ 10000000
      split <;> omega
  · rw [evFn_eq hp.f_law_plan]
    have hL := LINE_big
    refine run_ret rfl rfl rfl ?_
    let p : Pl := ⟨ps, cs, os2, if rs < 10000000 then rs else 10000000, 0, 0, 0, 0⟩
    refine step_nx (K := fun o => outR o = some (.d p.parts, U mz a9 b9 c9)) e1 ?_
    refine step_nx (K := fun o => outR o = some (.d p.parts, U mz a9 b9 c9)) e2 ?_
    refine step_nx (K := fun o => outR o = some (.d p.parts, U mz a9 b9 c9)) e3 ?_
    refine step_nx (K := fun o => outR o = some (.d p.parts, U mz a9 b9 c9)) e4 ?_
    refine step_nx (K := fun o => outR o = some (.d p.parts, U mz a9 b9 c9)) e5 ?_
    refine step_nx (K := fun o => outR o = some (.d p.parts, U mz a9 b9 c9)) e6 ?_
    refine step_nx (K := fun o => outR o = some (.d p.parts, U mz a9 b9 c9)) e7 ?_
    refine step_nx (K := fun o => outR o = some (.d p.parts, U mz a9 b9 c9)) e8 ?_
    refine step_nx (K := fun o => outR o = some (.d p.parts, U mz a9 b9 c9)) e9 ?_
    refine step_nx (K := fun o => outR o = some (.d p.parts, U mz a9 b9 c9)) e10 ?_
    simp_arith! [exs_cons, c10, p10, pS, p]
end
end Pv
end

section
set_option Elab.async false
set_option linter.all false
set_option maxRecDepth 100000
/-! K16: drawn bounds, the urn. -/
namespace Pv
open PySem
section
variable {P : Prog} {rp : D → Option Str} {mz : List Ob}
variable (hp : Has P)
include hp
abbrev bS (mz : List Ob) (t sz : D) (found : List Int) (x : Sl) (m : List Ob) : S := ⟨[.val (.ref mz.length), .val t, .val sz, .own (.lst (found.map .int)), x], m⟩
theorem bturn_ok {n : Nat} {a b c v : Int} {t sz : D} {found : List Int} {x : Sl} (ha : 0 ≤ a) (hv : 0 ≤ v ∧ v < 100) (hl : found.length < 60) :
    ∃ r a' b' c', (0 ≤ r ∧ r ≤ v) ∧ 0 ≤ a' ∧ (asT (gAt P rp (n + 1)) (.slot 4) (.int v) (bS mz t sz found x (U mz a b c))).bind (fun _ s => exs (gAt P rp (n + 1)) [.app 3 (.call i_law_take [.e (.slotP 0), .e (.o2 .add (.slotB 4) (.const (.int (1))))])] s) = .ok .nx (bS mz t sz (found ++ [r]) (.val (.int v)) (U mz a' b' c')) := by
  obtain ⟨r1, a1, b1, c1, hr1, ha1, e1⟩ := take_ev (rp := rp) (mz := mz) (n := n) (b := b) (c := c) (e := .o2 .add (.slotB 4) (.const (.int (1)))) (s0 := bS mz t sz found (.val (.int v)) (U mz a b c)) (many := v + 1) (ρ := (bS mz t sz found (.val (.int v)) (U mz a b c)).ρ) hp rfl (by simp_arith! []) ha (by omega) (by omega)
  have hl' : found.length + (0 + 1) ≤ LINE := le_line (by omega)
  refine ⟨r1, a1, b1, c1, by omega, ha1, ?_⟩
  simp_arith! [asT_slot, exs_cons, e1, List.length_map, hl', List.map_append, bS]
def bdD (w x y z : Int) : D := .tup [.int w, .int x, .int y, .int z]
theorem bounds_ok {n : Nat} {p : Pl} {a b c v0 v1 v2 v3 : Int} (ha : 0 ≤ a) (o : p.Ok) (h0 : 0 ≤ v0 ∧ v0 ≤ 6) (h1 : 0 ≤ v1 ∧ v1 ≤ 9) (h2 : 0 ≤ v2 ∧ v2 ≤ 3) (h3 : 0 ≤ v3 ∧ v3 ≤ 9) :
    ∃ (f l s w a' b' c' : Int), 0 ≤ a' ∧ Pl.Ok { p with fl := f, lt := l, sl := s, wt := w } ∧
      evFn P rp (n + 3) i_law_bounds [] [.d (.ref mz.length), .d p.parts, .d (bdD v0 v1 v2 v3)] (U mz a b c) = .ok (.d (Pl.parts { p with fl := f, lt := l, sl := s, wt := w })) ⟨[], U mz a' b' c'⟩ := by
  obtain ⟨f, a1, b1, c1, hf, ha1, e1⟩ := bturn_ok (rp := rp) (mz := mz) (n := n) (b := b) (c := c) (v := v0) (t := p.parts) (sz := bdD v0 v1 v2 v3) (found := []) (x := .no) hp ha (by omega) (by simp)
  obtain ⟨l, a2, b2, c2, hl, ha2, e2⟩ := bturn_ok (rp := rp) (mz := mz) (n := n) (b := b1) (c := c1) (v := v1) (t := p.parts) (sz := bdD v0 v1 v2 v3) (found := [f]) (x := .val (.int v0)) hp ha1 (by omega) (by simp)
  obtain ⟨s, a3, b3, c3, hs, ha3, e3⟩ := bturn_ok (rp := rp) (mz := mz) (n := n) (b := b2) (c := c2) (v := v2) (t := p.parts) (sz := bdD v0 v1 v2 v3) (found := [f, l]) (x := .val (.int v1)) hp ha2 (by omega) (by simp)
  obtain ⟨w, a4, b4, c4, hw, ha4, e4⟩ := bturn_ok (rp := rp) (mz := mz) (n := n) (b := b3) (c := c3) (v := v3) (t := p.parts) (sz := bdD v0 v1 v2 v3) (found := [f, l, s]) (x := .val (.int v2)) hp ha3 (by omega) (by simp)
  refine ⟨f, l, s, w, a4, b4, c4, ha4, ?_, ?_⟩
  · obtain ⟨q0, q1, q2, q3, q4, q5, q6, q7, q8, q9, q10, q11, q12, q13, q14, q15, q16⟩ := o
    exact ⟨q0, q1, q2, q3, q4, q5, q6, q7, q8, q9, q10, q11, q12, q13, q14, ⟨⟨hf.1, Int.le_trans hf.2 h0.2⟩, ⟨hl.1, Int.le_trans hl.2 h1.2⟩, ⟨hs.1, Int.le_trans hs.2 h2.2⟩, ⟨hw.1, Int.le_trans hw.2 h3.2⟩⟩, q16⟩
  · rw [evFn_eq hp.f_law_bounds]
    refine run_ret rfl rfl rfl ?_
    simp only [fn_law_bounds, b_law_bounds]
    let q : Pl := { p with fl := f, lt := l, sl := s, wt := w }
    have hL := LINE_big
    have L5 : (0 + 1 + 1 + 1 + 1 + 1 : Nat) ≤ LINE := le_line (by decide)
    have hcut : cut [D.tup (p.pays.map payD), prsD p.calls, prsD p.outl, .int p.res, bndD p.fl p.lt p.sl p.wt] none (some 4) = [D.tup (p.pays.map payD), prsD p.calls, prsD p.outl, .int p.res] := by simp [cut, clip]
    refine step_nx (K := fun o => outR o = some (.d q.parts, U mz a4 b4 c4)) (s1 := bS mz p.parts (bdD v0 v1 v2 v3) [] .no (U mz a b c)) (by simp_arith! [bS]) ?_
    refine step_nx (K := fun o => outR o = some (.d q.parts, U mz a4 b4 c4)) (s1 := bS mz p.parts (bdD v0 v1 v2 v3) [f, l, s, w] (.val (.int v3)) (U mz a4 b4 c4)) ?_ ?_
    · have hi : evI (gAt P rp (n + 1)) (.seq (.slot 2)) (bS mz p.parts (bdD v0 v1 v2 v3) [] .no (U mz a b c)) = .ok [.int v0, .int v1, .int v2, .int v3] (bS mz p.parts (bdD v0 v1 v2 v3) [] .no (U mz a b c)) := by simp_arith! [bdD]
      rw [ex_forr, hi, Out.bind_ok, forL, e1, Out.bind_ok]
      show forL _ _ (bS mz p.parts (bdD v0 v1 v2 v3) [f] _ _) = _
      rw [forL, e2, Out.bind_ok]
      show forL _ _ (bS mz p.parts (bdD v0 v1 v2 v3) [f, l] _ _) = _
      rw [forL, e3, Out.bind_ok]
      show forL _ _ (bS mz p.parts (bdD v0 v1 v2 v3) [f, l, s] _ _) = _
      rw [forL, e4, Out.bind_ok]
      rfl
    · simp_arith! [exs_cons, hcut, L5, q]
/-! ### the urn -/
omit hp in
theorem big_fmodu (x : Int) : big (x.fmod 2147483629) = true := big_fmod x
omit hp in
theorem m1 : ((2147483629 : Int) ≠ 0) = True := eq_true (by decide)
omit hp in
theorem m2 : ((2147483477 : Int) ≠ 0) = True := eq_true (by decide)
omit hp in
theorem bigs : big 50021 = true ∧ big 13 = true ∧ big 59 = true ∧ big 30029 = true ∧ big 8111 = true := by
  refine ⟨?_, ?_, ?_, ?_, ?_⟩ <;> (unfold big; rw [decide_eq_true_eq]; omega)
abbrev uS (ns : List Int) (lap : Int) (st x v : Sl) (m : List Ob) : S := ⟨[.val (.scr (ns.map .int)), .val (.int lap), st, x, v], m⟩
omit hp in
theorem uturn_ok {g : G} {ns : List Int} {lap st v : Int} {x y : Sl} {m : List Ob} :
    ∃ st', (asT g (.slot 3) (.int v) (uS ns lap (.val (.int st)) x y m)).bind (fun _ s => exs g [.asg (.slot 2) (.o2 .mod (.o1 .int (.o2 .add (.o2 .add (.o2 .mul (.slotB 2) (.const (.int (50021)))) (.o2 .mul (.o2 .mod (.o1 .int (.slotB 3)) (.const (.int (2147483477)))) (.const (.int (13))))) (.const (.int (41))))) (.const (.int (2147483629))))] s) = .ok .nx (uS ns lap (.val (.int st')) (.val (.int v)) y m) := by
  refine ⟨(st * 50021 + v.fmod 2147483477 * 13 + 41).fmod 2147483629, ?_⟩
  simp_arith! [asT_slot, exs_cons, bigs.1, bigs.2.1, Bool.or_true, m1, m2, uS]
theorem urn_ok {n : Nat} {ns : List Int} {lap : Nat} {m : List Ob} :
    ∃ a b : Int, 0 ≤ a ∧ evFn P rp (n + 2) i_law_urn [] [.d (.scr (ns.map .int)), .d (.int lap)] m = .ok (.f (urnD a b 0)) ⟨[], m⟩ := by
  obtain ⟨s', es, st, x, rfl⟩ := forL_pre (turn := fun x s => (asT (gAt P rp n) (.slot 3) x s).bind fun _ s => exs (gAt P rp n) [.asg (.slot 2) (.o2 .mod (.o1 .int (.o2 .add (.o2 .add (.o2 .mul (.slotB 2) (.const (.int (50021)))) (.o2 .mul (.o2 .mod (.o1 .int (.slotB 3)) (.const (.int (2147483477)))) (.const (.int (13))))) (.const (.int (41))))) (.const (.int (2147483629))))] s) (dOf := D.int)
    (fun (_ : List Int) s => ∃ (st : Int) (x : Sl), s = uS ns lap (.val (.int st)) x .no m) (cut ns none (some 9)) (by
      rintro pre v post _ e0 ⟨st, x, rfl⟩
      obtain ⟨st', e⟩ := uturn_ok (g := gAt P rp n) (ns := ns) (lap := lap) (st := st) (v := v) (x := x) (y := .no) (m := m)
      exact ⟨_, e, st', _, rfl⟩) (cut ns none (some 9)) [] (uS ns lap (.val (.int (691111 + 8111 * lap))) .no .no m) rfl ⟨_, _, rfl⟩
  obtain ⟨v, hv⟩ : ∃ v : Int, ex (gAt P rp n) (.asg (.slot 4) (.ite (.o2 .lt (.slotB 1) (.o1 .len (.slotB 0))) (.o1 .int (.o2 .idx (.slotB 0) (.slotB 1))) (.const (.int (0))))) (uS ns lap (.val (.int st)) x .no m) = .ok .nx (uS ns lap (.val (.int st)) x (.val (.int v)) m) := by
    by_cases hlt : lap < ns.length
    · have h1 : ((lap : Int) < (ns.length : Int)) := by omega
      have hidx : op2 .idx (.scr (ns.map .int)) (.int (lap : Int)) = some (.d (.int ns[lap])) := by
        have hpl : place (ns.map D.int).length (lap : Int) = some lap := by
          unfold place
          rw [List.length_map]
          have h2 : ¬ ((lap : Int) < 0) := by omega
          simp [h2, h1]
        show ((place (ns.map D.int).length (lap : Int)).bind fun k => (ns.map D.int)[k]?).map FX.d = _
        rw [hpl, Option.bind_some, List.getElem?_map, List.getElem?_eq_getElem hlt]
        rfl
      exact ⟨ns[lap], by simp_arith! [List.length_map, h1, decide_true, hidx]⟩
    · have h1 : ¬ ((lap : Int) < (ns.length : Int)) := by omega
      exact ⟨0, by simp_arith! [List.length_map, h1, decide_false]⟩
  have c15 : ((0 : Int) ≤ 15 ∧ (15 : Int) ≤ 1000 ∧ big 10 = true) = True := eq_true (by decide)
  have p15 : (10 : Int) ^ Int.toNat 15 = 1000000000000000 := by decide
  obtain ⟨st2, hst2⟩ : ∃ st2 : Int, ex (gAt P rp n) (.asg (.slot 2) (.o2 .mod (.o1 .int (.o2 .add (.o2 .add (.o2 .mul (.slotB 2) (.const (.int (59)))) (.o2 .mul (.o2 .mod (.o1 .int (.slotB 4)) (.const (.int (2147483477)))) (.const (.int (30029))))) (.const (.int (5))))) (.const (.int (2147483629))))) (uS ns lap (.val (.int st)) x (.val (.int v)) m) = .ok .nx (uS ns lap (.val (.int st2)) x (.val (.int v)) m) :=
    ⟨(st * 59 + v.fmod 2147483477 * 30029 + 5).fmod 2147483629, by simp_arith! [bigs.2.2.1, bigs.2.2.2.1, Bool.or_true, m1, m2, uS]⟩
  have L3 : (0 + 1 + 1 + 1 : Nat) ≤ LINE := le_line (by decide)
  refine ⟨if v < 0 ∨ 1000000000000000 ≤ v then (if v < 0 then -v else v) else 0, st2, by split <;> (try split) <;> omega, ?_⟩
  rw [evFn_eq hp.f_law_urn]
  refine run_ret rfl rfl rfl ?_
  simp only [fn_law_urn, b_law_urn]
  generalize hr : (if v < 0 ∨ 1000000000000000 ≤ v then (if v < 0 then -v else v) else 0) = r
  refine step_nx (K := fun o => outR o = some (.f (urnD r st2 0), m)) (s1 := uS ns lap (.val (.int (691111 + 8111 * lap))) .no .no m) (by simp_arith! [bigs.2.2.2.2, Bool.true_or]) ?_
  refine step_nx (K := fun o => outR o = some (.f (urnD r st2 0), m)) (s1 := uS ns lap (.val (.int st)) x .no m) ?_ ?_
  · have hi : evI (gAt P rp n) (.seq (.slice (.slotB 0) (.const .non) (.const (.int (9))))) (uS ns lap (.val (.int (691111 + 8111 * lap))) .no .no m) = .ok ((cut ns none (some 9)).map .int) (uS ns lap (.val (.int (691111 + 8111 * lap))) .no .no m) := by simp_arith! [cut_map]
    rw [ex_forr, hi, Out.bind_ok]
    exact es
  refine step_nx (K := fun o => outR o = some (.f (urnD r st2 0), m)) hv ?_
  refine step_nx (K := fun o => outR o = some (.f (urnD r st2 0), m)) hst2 ?_
  by_cases h1 : v < 0
  · have hr' : r = -v := by rw [← hr]; simp [h1]
    simp_arith! [exs_cons, h1, decide_true, L3, hr', if_true]
  · by_cases h2 : (1000000000000000 : Int) ≤ v
    · have hr' : r = v := by rw [← hr]; simp [h1, h2]
      simp_arith! [exs_cons, h1, h2, c15, p15, decide_true, decide_false, L3, hr', if_true, if_false]
    · have hr' : r = 0 := by rw [← hr]; simp [h1, h2]
      simp_arith! [exs_cons, h1, h2, c15, p15, decide_true, decide_false, L3, hr', if_true, if_false]
end
end Pv
end

section
set_option Elab.async false
set_option linter.all false
set_option maxRecDepth 100000
/-! K17: the law's own sums are the program's. -/
namespace Pv
open PySem
/-! ### least of some -/
theorem bst_spec {β : Type} (f : β → Int) : ∀ (xs : List β) (c : Int) (y : β), c = f y → ∃ y', xs.foldl (bst f) (some (c, y)) = some (f y', y') ∧ f y' ≤ c ∧ (∀ x ∈ xs, f y' ≤ f x) ∧ (y' = y ∨ y' ∈ xs)
  | [], c, y, h => ⟨y, by rw [h]; rfl, by omega, (fun x hx => by cases hx), .inl rfl⟩
  | x :: xs, c, y, h => by
    rw [List.foldl_cons]
    by_cases hl : f x < c
    · obtain ⟨y', e, h1, h2, h3⟩ := bst_spec f xs (f x) x rfl
      refine ⟨y', ?_, by omega, fun z hz => ?_, ?_⟩
      · rw [show bst f (some (c, y)) x = some (f x, x) by unfold bst; simp only [hl, if_true]]; exact e
      · rcases List.mem_cons.mp hz with rfl | hz
        · exact h1
        · exact h2 z hz
      · rcases h3 with rfl | h3
        · exact .inr (.head _)
        · exact .inr (.tail _ h3)
    · obtain ⟨y', e, h1, h2, h3⟩ := bst_spec f xs c y h
      refine ⟨y', ?_, h1, fun z hz => ?_, ?_⟩
      · rw [show bst f (some (c, y)) x = some (c, y) by unfold bst; simp only [hl, if_false]]; exact e
      · rcases List.mem_cons.mp hz with rfl | hz
        · omega
        · exact h2 z hz
      · rcases h3 with h3 | h3
        · exact .inl h3
        · exact .inr (.tail _ h3)
theorem best_spec {β : Type} (f : β → Int) {xs : List β} (d : Int × β) (h : xs ≠ []) : ∃ y ∈ xs, ((bestOf f xs).getD d).1 = f y ∧ ∀ x ∈ xs, f y ≤ f x := by
  cases xs with
  | nil => exact (h rfl).elim
  | cons x xs =>
    obtain ⟨y, e, h1, h2, h3⟩ := bst_spec f xs (f x) x rfl
    have e' : bestOf f (x :: xs) = some (f y, y) := e
    refine ⟨y, ?_, by rw [e']; rfl, fun z hz => ?_⟩
    · rcases h3 with rfl | h3
      · exact .head _
      · exact .tail _ h3
    · rcases List.mem_cons.mp hz with rfl | hz
      · exact h1
      · exact h2 z hz
/-! ### offices, sets -/
theorem offs_eq (ps : List Pay) : lawOffs ps = offs ps := by
  unfold lawOffs offs
  apply sortS_uniq
  · refine (sortS_perm _).trans ((List.perm_ext_iff_of_nodup (dedup_nd _) (firsts_nodup _ _ List.nodup_nil)).mpr fun x => ?_)
    rw [dedup_mem, firsts_mem]
    simp
  · exact sortS_pw _
theorem sets0 (sl : Int) (h : sl = 0 ∨ sl = 1 ∨ sl = 2 ∨ sl = 3) : lawSets [] sl = ([] : List Str).foldl (grow sl) [[]] := by
  rcases h with rfl | rfl | rfl | rfl <;> simp [lawSets, lawOk, lawRow, grow, List.range_succ, List.filter, List.filterMap]
theorem sets1 (a : Str) (sl : Int) (h : sl = 0 ∨ sl = 1 ∨ sl = 2 ∨ sl = 3) : lawSets [a] sl = [a].foldl (grow sl) [[]] := by
  rcases h with rfl | rfl | rfl | rfl <;> simp [lawSets, lawOk, lawRow, grow, List.range_succ, List.filter, List.filterMap]
theorem sets2 (a b : Str) (sl : Int) (h : sl = 0 ∨ sl = 1 ∨ sl = 2 ∨ sl = 3) : lawSets [a, b] sl = [a, b].foldl (grow sl) [[]] := by
  rcases h with rfl | rfl | rfl | rfl <;> simp [lawSets, lawOk, lawRow, grow, List.range_succ, List.filter, List.filterMap]
theorem sets3 (a b c : Str) (sl : Int) (h : sl = 0 ∨ sl = 1 ∨ sl = 2 ∨ sl = 3) : lawSets [a, b, c] sl = [a, b, c].foldl (grow sl) [[]] := by
  rcases h with rfl | rfl | rfl | rfl <;> simp [lawSets, lawOk, lawRow, grow, List.range_succ, List.filter, List.filterMap]
theorem sets4 (a b c d : Str) (sl : Int) (h : sl = 0 ∨ sl = 1 ∨ sl = 2 ∨ sl = 3) : lawSets [a, b, c, d] sl = [a, b, c, d].foldl (grow sl) [[]] := by
  rcases h with rfl | rfl | rfl | rfl <;> simp [lawSets, lawOk, lawRow, grow, List.range_succ, List.filter, List.filterMap]
theorem sets_eq {os : List Str} {sl : Int} (h : os.length ≤ 4) (h1 : 0 ≤ sl ∧ sl ≤ 3) : lawSets os sl = os.foldl (grow sl) [[]] := by
  have hc : sl = 0 ∨ sl = 1 ∨ sl = 2 ∨ sl = 3 := by omega
  rcases os with _ | ⟨a, _ | ⟨b, _ | ⟨c, _ | ⟨d, _ | ⟨e, r⟩⟩⟩⟩⟩
  · exact sets0 sl hc
  · exact sets1 a sl hc
  · exact sets2 a b sl hc
  · exact sets3 a b c sl hc
  · exact sets4 a b c d sl hc
  · simp at h
/-! ### what has come -/
theorem lawOwed_eq (due : Int) (cs : List (Int × Int)) (u : Int) : ∀ (n : Nat) (pre : List (Int × Int)), pre.length = n → pre.Pairwise (fun a b => a.1 < b.1) → lawOwed due cs u pre = owed due cs (lastBy pre u) := by
  intro n
  induction n with
  | zero =>
    intro pre hn hpw
    rw [List.length_eq_zero_iff.mp hn]
    show (0 : Int) = owed due cs (-1)
    unfold owed partUp
    have : cut cs none (some ((-1 : Int) + 1)) = [] := by simp [cut, clip]
    rw [this]
    simp
  | succ n ih =>
    intro pre hn hpw
    rcases List.eq_nil_or_concat pre with rfl | ⟨r, a, rfl⟩
    · simp at hn
    rw [List.concat_eq_append] at hn hpw ⊢
    have hr : r.length = n := by simpa using hn
    obtain ⟨h1, _, h3⟩ := List.pairwise_append.mp hpw
    rw [lawOwed_snoc]
    by_cases ha : a.1 ≤ u
    · rw [if_pos ha]
      have hall : (r ++ [a]).filter (fun c => decide (c.1 ≤ u)) = r ++ [a] := by
        rw [List.filter_eq_self]
        intro x hx
        rw [decide_eq_true_eq]
        rcases List.mem_append.mp hx with h | h
        · have := h3 x h a (by simp); omega
        · rw [List.mem_singleton.mp h]; exact ha
      unfold lastBy
      rw [hall, List.length_append, List.length_singleton]
      congr 1
      omega
    · rw [if_neg ha, ih r hr h1]
      unfold lastBy
      rw [List.filter_append]
      simp [ha]
theorem pw_of_step {α : Type} {R : α → α → Prop} (tr : ∀ a b c, R a b → R b c → R a c) : ∀ xs : List α, (∀ pre a b post, xs = pre ++ a :: b :: post → R a b) → xs.Pairwise R
  | [], _ => .nil
  | [a], _ => List.pairwise_singleton _ _
  | a :: b :: r, h => by
    have h1 := pw_of_step tr (b :: r) (fun pre x y post e => h (a :: pre) x y post (by rw [e]; rfl))
    have hab := h [] a b r rfl
    refine List.pairwise_cons.mpr ⟨fun z hz => ?_, h1⟩
    rcases List.mem_cons.mp hz with rfl | hz
    · exact hab
    · exact tr _ _ _ hab ((List.pairwise_cons.mp h1).1 z hz)
theorem lawCome_eq {p : Pl} (o : p.Ok) (day : Int) (s : List Str) : lawCome p day s = come p day s := by
  unfold lawCome come
  apply List.map_congr_left
  intro q _
  have hpw : p.calls.Pairwise (fun a b => a.1 < b.1) := by
    exact pw_of_step (R := fun a b : Int × Int => a.1 < b.1) (fun a b c h1 h2 => Int.lt_trans h1 h2) _ o.casc
  rw [lawOwed_eq _ _ _ p.calls.length p.calls rfl hpw]
  unfold lawUntil waitOf
  rw [Int.sub_sub]
end Pv
end

section
set_option Elab.async false
set_option linter.all false
set_option maxRecDepth 100000
/-! K18: the least margin lies on an outlay's day, or on day 0. -/
namespace Pv
open PySem
theorem minL_eq {xs : List Int} {v : Int} (h : v ∈ xs) (h2 : ∀ y ∈ xs, v ≤ y) : minL xs = v := by
  have hne : xs ≠ [] := fun e => by rw [e] at h; cases h
  obtain ⟨h3, h4⟩ := minL_spec hne
  have := h3 v h
  have := h2 _ h4
  omega
theorem lawMargin_eq {p : Pl} (o : p.Ok) (day : Int) : lawMargin p day = margin p day := by
  have hs : lawSets (lawOffs p.pays) p.sl = slowSets p.pays p.sl := by
    rw [offs_eq]
    exact sets_eq o.sm.of4 ⟨o.bnd.2.2.1.1, o.bnd.2.2.1.2⟩
  unfold lawMargin
  rw [hs]
  obtain ⟨y, hy, e, hm⟩ := best_spec (fun s => leftBy (come p day s) p.fl) (0, []) (slow_ne p.pays p.sl)
  have e' : comeMin p day = leftBy (come p day y) p.fl := e
  apply minL_eq
  · refine List.mem_map.mpr ⟨y, hy, ?_⟩
    unfold lawRest margin
    rw [lawCome_eq o, e']
  · intro z hz
    obtain ⟨s, hs', rfl⟩ := List.mem_map.mp hz
    unfold lawRest margin
    rw [lawCome_eq o, e']
    have := hm s hs'
    omega
/-! ### pointwise -/
def Le2 : List Int → List Int → Prop
  | [], [] => True
  | x :: xs, y :: ys => x ≤ y ∧ Le2 xs ys
  | _, _ => False
theorem Le2.map {α : Type} (f g : α → Int) : ∀ xs : List α, (∀ x ∈ xs, f x ≤ g x) → Le2 (xs.map f) (xs.map g)
  | [], _ => trivial
  | x :: xs, h => ⟨h x (by simp), Le2.map f g xs (fun y hy => h y (by simp [hy]))⟩
theorem Le2.len : ∀ {xs ys : List Int}, Le2 xs ys → xs.length = ys.length
  | [], [], _ => rfl
  | _ :: _, _ :: _, h => by rw [List.length_cons, List.length_cons, Le2.len h.2]
  | [], _ :: _, h => h.elim
  | _ :: _, [], h => h.elim
theorem insI_head {x : Int} {r : List Int} (h : (x :: r).Pairwise (· ≤ ·)) : insI x r = x :: r := by
  cases r with
  | nil => rfl
  | cons y r =>
    unfold insI
    rw [if_pos ((List.pairwise_cons.mp h).1 y (by simp))]
theorem Le2.ins : ∀ {xs ys : List Int} {x y : Int}, Le2 xs ys → x ≤ y → xs.Pairwise (· ≤ ·) → ys.Pairwise (· ≤ ·) → Le2 (insI x xs) (insI y ys)
  | [], [], x, y, _, h, _, _ => ⟨h, trivial⟩
  | [], _ :: _, _, _, h, _, _, _ => h.elim
  | _ :: _, [], _, _, h, _, _, _ => h.elim
  | a :: r, b :: t, x, y, h, hxy, hp, hq => by
    obtain ⟨hab, hrt⟩ := h
    have hr := (List.pairwise_cons.mp hp).2
    have ht := (List.pairwise_cons.mp hq).2
    unfold insI
    by_cases h1 : x ≤ a
    · by_cases h2 : y ≤ b
      · rw [if_pos h1, if_pos h2]
        exact ⟨hxy, hab, hrt⟩
      · rw [if_pos h1, if_neg h2]
        refine ⟨by omega, ?_⟩
        rw [← insI_head hp]
        exact Le2.ins hrt (by omega) hr ht
    · by_cases h2 : y ≤ b
      · rw [if_neg h1, if_pos h2]
        refine ⟨by omega, ?_⟩
        rw [← insI_head hq]
        exact Le2.ins hrt (by omega) hr ht
      · rw [if_neg h1, if_neg h2]
        exact ⟨hab, Le2.ins hrt hxy hr ht⟩
theorem Le2.sort : ∀ {xs ys : List Int}, Le2 xs ys → Le2 (sortI xs) (sortI ys)
  | [], [], _ => trivial
  | [], _ :: _, h => h.elim
  | _ :: _, [], h => h.elim
  | x :: xs, y :: ys, h => by
    rw [sortI, sortI]
    exact Le2.ins (Le2.sort h.2) h.1 (sortI_pw _) (sortI_pw _)
theorem Le2.take : ∀ {xs ys : List Int} (k : Nat), Le2 xs ys → (xs.take k).sum ≤ (ys.take k).sum
  | [], [], k, _ => by simp
  | [], _ :: _, _, h => h.elim
  | _ :: _, [], _, h => h.elim
  | x :: xs, y :: ys, 0, _ => by simp
  | x :: xs, y :: ys, k + 1, h => by
    rw [List.take_succ_cons, List.take_succ_cons, List.sum_cons, List.sum_cons]
    have := Le2.take k h.2
    have := h.1
    omega
theorem cut_none {α : Type} (xs : List α) {i : Int} (h : 0 ≤ i) : cut xs none (some i) = xs.take i.toNat := by
  unfold cut clip
  have : ¬ (i < 0) := by omega
  simp only [this, if_false, List.drop_zero]
  rw [Nat.min_def]
  split
  · rfl
  · rw [List.take_length, List.take_of_length_le (by omega)]
theorem leftBy_mono {xs ys : List Int} (h : Le2 xs ys) (f : Int) : leftBy xs f ≤ leftBy ys f := by
  unfold leftBy
  rw [h.len]
  rw [cut_none _ (by split <;> omega), cut_none _ (by split <;> omega)]
  exact Le2.take _ (Le2.sort h)
theorem take_sum_mono : ∀ (cs : List Int) (i j : Nat), (∀ c ∈ cs, 0 ≤ c) → i ≤ j → (cs.take i).sum ≤ (cs.take j).sum
  | [], i, j, _, _ => by simp
  | c :: cs, 0, j, h, _ => by
    rw [List.take_zero, List.sum_nil]
    have : ∀ xs : List Int, (∀ c ∈ xs, 0 ≤ c) → 0 ≤ xs.sum := fun xs => by
      induction xs with
      | nil => simp
      | cons y ys ih =>
        intro h
        rw [List.sum_cons]
        have h1 := h y (by simp)
        have h2 := ih (fun z hz => h z (by simp [hz]))
        omega
    exact this _ (fun x hx => h x (List.mem_of_mem_take hx))
  | c :: cs, i + 1, 0, _, hij => by omega
  | c :: cs, i + 1, j + 1, h, hij => by
    rw [List.take_succ_cons, List.take_succ_cons, List.sum_cons, List.sum_cons]
    have := take_sum_mono cs i j (fun x hx => h x (by simp [hx])) (by omega)
    omega
theorem filter_len_mono (cs : List (Int × Int)) {u v : Int} (h : u ≤ v) : (cs.filter fun c => decide (c.1 ≤ u)).length ≤ (cs.filter fun c => decide (c.1 ≤ v)).length := by
  induction cs with
  | nil => simp
  | cons c cs ih =>
    rw [List.filter_cons, List.filter_cons]
    by_cases h1 : c.1 ≤ u
    · have h2 : c.1 ≤ v := by omega
      simp only [h1, h2, decide_true, if_true, List.length_cons]
      omega
    · by_cases h2 : c.1 ≤ v
      · simp only [h1, h2, decide_true, decide_false, if_true, List.length_cons]
        simp
        omega
      · simp [h1, h2]
        exact ih
theorem owed_mono {due : Int} {cs : List (Int × Int)} (hd : 0 ≤ due) (hc : ∀ c ∈ cs, 0 ≤ c.2) {u v : Int} (h : u ≤ v) : owed due cs (lastBy cs u) ≤ owed due cs (lastBy cs v) := by
  unfold owed partUp lastBy
  have hl := filter_len_mono cs h
  rw [cut_none _ (by omega), cut_none _ (by omega)]
  rw [List.map_take, List.map_take]
  have := take_sum_mono (cs.map (·.2)) ((((cs.filter fun c => decide (c.1 ≤ u)).length : Int) - 1 + 1).toNat) ((((cs.filter fun c => decide (c.1 ≤ v)).length : Int) - 1 + 1).toNat) (fun x hx => by
    obtain ⟨c, hc', rfl⟩ := List.mem_map.mp hx
    exact hc c hc') (by omega)
  rw [Int.fdiv_eq_ediv_of_nonneg _ (by decide), Int.fdiv_eq_ediv_of_nonneg _ (by decide)]
  exact Int.ediv_le_ediv (by decide) (Int.mul_le_mul_of_nonneg_left this hd)
theorem come_mono {p : Pl} (o : p.Ok) {u v : Int} (h : u ≤ v) (s : List Str) : Le2 (come p u s) (come p v s) := by
  unfold come
  apply Le2.map
  intro q hq
  exact owed_mono (by have := o.due q hq; omega) (fun c hc => by have := o.call c hc; omega) (by omega)
theorem comeMin_mono {p : Pl} (o : p.Ok) {u v : Int} (h : u ≤ v) : comeMin p u ≤ comeMin p v := by
  obtain ⟨y, hy, e, hm⟩ := best_spec (fun s => leftBy (come p u s) p.fl) (0, []) (slow_ne p.pays p.sl)
  obtain ⟨z, hz, e2, _⟩ := best_spec (fun s => leftBy (come p v s) p.fl) (0, []) (slow_ne p.pays p.sl)
  have e' : comeMin p u = leftBy (come p u y) p.fl := e
  have e2' : comeMin p v = leftBy (come p v z) p.fl := e2
  rw [e', e2']
  have h1 := hm z hz
  have h2 := leftBy_mono (come_mono o h z) p.fl
  omega
theorem last_le : ∀ (ds : List Int) (d : Int), 0 ≤ d → ∃ e ∈ 0 :: ds, e ≤ d ∧ ∀ x ∈ ds, x ≤ d → x ≤ e
  | [], d, h => ⟨0, by simp, h, fun x hx => by cases hx⟩
  | y :: ds, d, h => by
    obtain ⟨e, he, hed, hmax⟩ := last_le ds d h
    by_cases hy : y ≤ d ∧ e ≤ y
    · refine ⟨y, by simp, hy.1, fun x hx hxd => ?_⟩
      rcases List.mem_cons.mp hx with rfl | hx
      · exact Int.le_refl _
      · have := hmax x hx hxd; omega
    · refine ⟨e, ?_, hed, fun x hx hxd => ?_⟩
      · rcases List.mem_cons.mp he with rfl | he
        · simp
        · simp [he]
      · rcases List.mem_cons.mp hx with rfl | hx
        · by_cases h2 : e ≤ x
          · exact (hy ⟨hxd, h2⟩).elim
          · omega
        · exact hmax x hx hxd
theorem margin_down {p : Pl} (o : p.Ok) {d : Int} (h : 0 ≤ d) : ∃ e ∈ lawDays p, margin p e ≤ margin p d := by
  obtain ⟨e, he, hed, hmax⟩ := last_le (p.outl.map (·.1)) d h
  refine ⟨e, he, ?_⟩
  have hsp : spent p.outl e = spent p.outl d := by
    unfold spent
    congr 2
    apply List.filter_congr
    intro c hc
    have := hmax c.1 (List.mem_map.mpr ⟨c, hc, rfl⟩)
    by_cases hcd : c.1 ≤ d
    · have := this hcd
      simp [hcd, this]
    · have h2 : ¬ c.1 ≤ e := by omega
      simp [hcd, h2]
  unfold margin
  rw [hsp]
  have := comeMin_mono o hed
  omega
theorem maxI_ge_mem : ∀ (xs : List Int) (x y : Int), y ∈ xs → y ≤ maxI x xs
  | [], _, _, h => by cases h
  | z :: r, x, y, h => by
    unfold maxI
    rcases List.mem_cons.mp h with rfl | h
    · have := maxI_ge r (if y > x then y else x)
      split at this <;> split <;> omega
    · exact maxI_ge_mem r _ y h
theorem lawLeast_eq {p : Pl} (o : p.Ok) : lawLeast p = least p := by
  have hne : days p ≠ [] := by
    have := o.nr.lo
    unfold days
    intro h
    have := congrArg List.length h
    rw [List.length_range] at this
    simp at this
    omega
  obtain ⟨y, hy, e, hm⟩ := best_spec (fun d : Nat => margin p d) (0, 0) hne
  have e' : least p = margin p y := e
  have hdays : ∀ d ∈ lawDays p, ∃ k ∈ days p, d = (k : Nat) := by
    intro d hd
    have h1 : 0 ≤ d ∧ d ≤ lastDay p := by
      rcases List.mem_cons.mp hd with rfl | hd
      · exact ⟨by omega, o.nr.lo⟩
      · obtain ⟨c, hc, rfl⟩ := List.mem_map.mp hd
        exact ⟨(o.out c hc).1, maxI_ge_mem _ _ _ (List.mem_map.mpr ⟨c, hc, rfl⟩)⟩
    refine ⟨d.toNat, ?_, by omega⟩
    unfold days
    rw [List.mem_range]
    omega
  unfold lawLeast
  obtain ⟨e0, he0, hle⟩ := margin_down o (d := (y : Int)) (by omega)
  obtain ⟨k, hk, hek⟩ := hdays e0 he0
  have h1 := hm k hk
  rw [hek] at hle
  have heq : margin p (y : Int) = margin p (k : Int) := by omega
  apply minL_eq
  · refine List.mem_map.mpr ⟨e0, he0, ?_⟩
    rw [lawMargin_eq o, e', heq, hek]
  · intro z hz
    obtain ⟨d, hd, rfl⟩ := List.mem_map.mp hz
    obtain ⟨k', hk', rfl⟩ := hdays d hd
    rw [lawMargin_eq o, e']
    exact hm k' hk'
end Pv
end

section
set_option Elab.async false
set_option linter.all false
set_option maxRecDepth 100000
/-! K19: the law of one urn: its plan. -/
namespace Pv
open PySem
section
variable {P : Prog} {rp : D → Option Str} {mz : List Ob}
variable (hp : Has P)
include hp
/-- the frame of the law of one urn -/
abbrev rtS (mz : List Ob) (sizes top told b4 b5 b6 b7 res plan fails x slows need right t1 t2 : Sl) (m : List Ob) : S :=
  ⟨[.val (.ref mz.length), sizes, top, told, b4, b5, b6, b7, res, plan, fails, x, slows, need, right, t1, t2], m⟩
theorem rA_ok {n : Nat} {a b c : Int} (ha : 0 ≤ a) :
    ∃ (s0 s1 s2 : Nat) (top a' b' c' : Int), 0 ≤ a' ∧ (1 ≤ top ∧ top ≤ 1000000) ∧ (1 ≤ s0 ∧ s0 ≤ 12) ∧ (1 ≤ s1 ∧ s1 ≤ 8) ∧ (1 ≤ s2 ∧ s2 ≤ 8) ∧
      ex (gAt P rp (n + 3)) (.par [1, 2] [(.call i_law_of [.e (.slotP 0), .e (.lst [(.tup [(.const (.int (12))), (.const (.int (8))), (.const (.int (4)))]), (.tup [(.const (.int (3))), (.const (.int (2))), (.const (.int (2)))]), (.tup [(.const (.int (6))), (.const (.int (4))), (.const (.int (3)))])])]), (.call i_law_of [.e (.slotP 0), .e (.lst [(.const (.int (9))), (.const (.int (1000))), (.o2 .pow (.const (.int (10))) (.const (.int (6))))])])])
        (rtS mz .no .no .no .no .no .no .no .no .no .no .no .no .no .no .no .no (U mz a b c)) =
      .ok .nx (rtS mz (.val (szD s0 s1 s2)) (.val (.int top)) .no .no .no .no .no .no .no .no .no .no .no .no .no .no (U mz a' b' c')) := by
  have L3 : (0 + 1 + 1 + 1 : Nat) ≤ LINE := le_line (by decide)
  have c6 : ((0 : Int) ≤ 6 ∧ (6 : Int) ≤ 1000 ∧ big 10 = true) = True := eq_true (by decide)
  have p6 : (10 : Int) ^ Int.toNat 6 = 1000000 := by decide
  obtain ⟨x, a1, b1, c1, hx, ha1, e1⟩ := of_ev (rp := rp) (mz := mz) (n := n + 1) (es := [(.tup [(.const (.int (12))), (.const (.int (8))), (.const (.int (4)))]), (.tup [(.const (.int (3))), (.const (.int (2))), (.const (.int (2)))]), (.tup [(.const (.int (6))), (.const (.int (4))), (.const (.int (3)))])])
    (s0 := rtS mz .no .no .no .no .no .no .no .no .no .no .no .no .no .no .no .no (U mz a b c)) (xs := [szD (12 : Nat) (8 : Nat) (4 : Nat), szD (3 : Nat) (2 : Nat) (2 : Nat), szD (6 : Nat) (4 : Nat) (3 : Nat)]) (a := a) (b := b) (c := c)
    (ρ := (rtS mz .no .no .no .no .no .no .no .no .no .no .no .no .no .no .no .no (U mz a b c)).ρ) hp rfl (by simp_arith! [L3]; rfl) ha (by simp) (by simp)
  obtain ⟨s0, s1, s2, h0, h1, h2, rfl⟩ : ∃ s0 s1 s2 : Nat, (1 ≤ s0 ∧ s0 ≤ 12) ∧ (1 ≤ s1 ∧ s1 ≤ 8) ∧ (1 ≤ s2 ∧ s2 ≤ 8) ∧ x = szD s0 s1 s2 := by
    simp only [List.mem_cons, List.not_mem_nil, or_false] at hx
    rcases hx with rfl | rfl | rfl
    · exact ⟨12, 8, 4, by omega, by omega, by omega, rfl⟩
    · exact ⟨3, 2, 2, by omega, by omega, by omega, rfl⟩
    · exact ⟨6, 4, 3, by omega, by omega, by omega, rfl⟩
  obtain ⟨y, a2, b2, c2, hy, ha2, e2⟩ := of_ev (rp := rp) (mz := mz) (n := n + 1) (es := [(.const (.int (9))), (.const (.int (1000))), (.o2 .pow (.const (.int (10))) (.const (.int (6))))])
    (s0 := rtS mz .no .no .no .no .no .no .no .no .no .no .no .no .no .no .no .no (U mz a1 b1 c1)) (xs := [.int 9, .int 1000, .int 1000000]) (a := a1) (b := b1) (c := c1)
    (ρ := (rtS mz .no .no .no .no .no .no .no .no .no .no .no .no .no .no .no .no (U mz a b c)).ρ) hp rfl (by simp_arith! [c6, p6]) ha1 (by simp) (by simp)
  obtain ⟨top, ht, rfl⟩ : ∃ v : Int, (1 ≤ v ∧ v ≤ 1000000) ∧ y = .int v := by
    simp at hy
    rcases hy with rfl | rfl | rfl
    · exact ⟨_, by omega, rfl⟩
    · exact ⟨_, by omega, rfl⟩
    · exact ⟨_, by omega, rfl⟩
  refine ⟨s0, s1, s2, top, a2, b2, c2, ha2, ht, h0, h1, h2, ?_⟩
  simp_arith! [e1, e2, rtS]
theorem rB_ok {n : Nat} {a b c top : Int} {s0 s1 s2 : Nat} (ha : 0 ≤ a) (ht : 1 ≤ top ∧ top ≤ 1000000) (h0 : 1 ≤ s0 ∧ s0 ≤ 12) (h1 : 1 ≤ s1 ∧ s1 ≤ 8) (h2 : 1 ≤ s2 ∧ s2 ≤ 8) :
    ∃ (p : Pl) (a' b' c' : Int), 0 ≤ a' ∧ p.Ok ∧
      ex (gAt P rp (n + 4)) (.asg (.slot 3) (.call i_law_bounds [.e (.slotP 0), .e (.call i_law_plan [.e (.slotP 0), .e (.slot 1), .e (.slot 2)]), .e (.call i_law_of [.e (.slotP 0), .e (.lst [(.tup [(.const (.int (6))), (.const (.int (9))), (.const (.int (3))), (.const (.int (9)))]), (.tup [(.const (.int (2))), (.const (.int (1))), (.const (.int (1))), (.const (.int (2)))]), (.tup [(.const (.int (1))), (.const (.int (0))), (.const (.int (2))), (.const (.int (3)))])])])]))
        (rtS mz (.val (szD s0 s1 s2)) (.val (.int top)) .no .no .no .no .no .no .no .no .no .no .no .no .no .no (U mz a b c)) =
      .ok .nx (rtS mz (.val (szD s0 s1 s2)) (.val (.int top)) (.val p.parts) .no .no .no .no .no .no .no .no .no .no .no .no .no (U mz a' b' c')) := by
  have L4 : (0 + 1 + 1 + 1 + 1 : Nat) ≤ LINE := le_line (by decide)
  obtain ⟨p, a1, b1, c1, ha1, o, hz, e1⟩ := plan_ok (rp := rp) (mz := mz) (n := n) (b := b) (c := c) hp ha ht h0 h1 h2
  obtain ⟨x, a2, b2, c2, hx, ha2, e2⟩ := of_ev (rp := rp) (mz := mz) (n := n + 2) (es := [(.tup [(.const (.int (6))), (.const (.int (9))), (.const (.int (3))), (.const (.int (9)))]), (.tup [(.const (.int (2))), (.const (.int (1))), (.const (.int (1))), (.const (.int (2)))]), (.tup [(.const (.int (1))), (.const (.int (0))), (.const (.int (2))), (.const (.int (3)))])])
    (s0 := rtS mz (.val (szD s0 s1 s2)) (.val (.int top)) .no .no .no .no .no .no .no .no .no .no .no .no .no .no (U mz a1 b1 c1)) (xs := [bdD 6 9 3 9, bdD 2 1 1 2, bdD 1 0 2 3]) (a := a1) (b := b1) (c := c1)
    (ρ := (rtS mz (.val (szD s0 s1 s2)) (.val (.int top)) .no .no .no .no .no .no .no .no .no .no .no .no .no .no (U mz a b c)).ρ) hp rfl (by simp_arith! [L4]; rfl) ha1 (by simp) (by simp)
  obtain ⟨v0, v1, v2, v3, hv0, hv1, hv2, hv3, rfl⟩ : ∃ v0 v1 v2 v3 : Int, (0 ≤ v0 ∧ v0 ≤ 6) ∧ (0 ≤ v1 ∧ v1 ≤ 9) ∧ (0 ≤ v2 ∧ v2 ≤ 3) ∧ (0 ≤ v3 ∧ v3 ≤ 9) ∧ x = bdD v0 v1 v2 v3 := by
    simp only [List.mem_cons, List.not_mem_nil, or_false] at hx
    rcases hx with rfl | rfl | rfl
    · exact ⟨6, 9, 3, 9, by omega, by omega, by omega, by omega, rfl⟩
    · exact ⟨2, 1, 1, 2, by omega, by omega, by omega, by omega, rfl⟩
    · exact ⟨1, 0, 2, 3, by omega, by omega, by omega, by omega, rfl⟩
  obtain ⟨f, l, s, w, a3, b3, c3, ha3, o3, e3⟩ := bounds_ok (rp := rp) (mz := mz) (n := n + 2) (b := b2) (c := c2) hp ha2 o hv0 hv1 hv2 hv3
  have hs : big top = true := by unfold big; rw [decide_eq_true_eq]; omega
  refine ⟨_, a3, b3, c3, ha3, o3, ?_⟩
  have ep : ev (gAt P rp (n + 4)) (.call i_law_plan [.e (.slotP 0), .e (.slot 1), .e (.slot 2)]) (rtS mz (.val (szD s0 s1 s2)) (.val (.int top)) .no .no .no .no .no .no .no .no .no .no .no .no .no .no (U mz a b c)) = .ok (.d p.parts) (rtS mz (.val (szD s0 s1 s2)) (.val (.int top)) .no .no .no .no .no .no .no .no .no .no .no .no .no .no (U mz a1 b1 c1)) := by
    rw [ev_call, evA_cons, evA1_e, ev_slotP]
    unfold rdP
    simp_arith! [callG, gAt_call, e1, rtS]
  rw [ex_asg, ev_call, evA_cons, evA1_e, ev_slotP]
  unfold rdP
  simp_arith! [ep, e2, callG, gAt_call, e3, rtS]
theorem rC_ok {n : Nat} {p : Pl} {m : List Ob} {sizes top b4 b5 b6 b7 : Sl} :
    ex (gAt P rp n) (.asg (.tup [(.slot 4), (.slot 5), (.slot 6), (.slot 7)]) (.o2 .idx (.slotB 3) (.const (.int (4))))) (rtS mz sizes top (.val p.parts) b4 b5 b6 b7 .no .no .no .no .no .no .no .no .no m) =
      .ok .nx (rtS mz sizes top (.val p.parts) (.val (.int p.fl)) (.val (.int p.lt)) (.val (.int p.sl)) (.val (.int p.wt)) .no .no .no .no .no .no .no .no .no m) := by
  simp_arith! [rtS]
end
end Pv
end

section
set_option Elab.async false
set_option linter.all false
set_option maxRecDepth 100000
/-! K20: the law of one urn: its right answers. -/
namespace Pv
open PySem
theorem lawOffs_len {p : Pl} (o : p.Ok) : (lawOffs p.pays).length ≤ 4 := by rw [offs_eq]; exact o.sm.of4
theorem law_least_okK {P : Prog} {rp : D → Option Str} (hp : Has P) {n : Nat} {p : Pl} {m : List Ob} (o : p.Ok) : evFn P rp (n + 4) i_law_least [] [.d p.parts] m = .ok (.d (.int (least p))) ⟨[], m⟩ := by
  rw [← lawLeast_eq o]
  exact law_least_ok hp o.sm (lawOffs_len o) o.bnd.2.2.1.1
abbrev Pl.withRes (p : Pl) (r : Int) : Pl := { p with res := r }
theorem Pl.Ok.withRes {p : Pl} (o : p.Ok) {r : Int} (h : 0 ≤ r ∧ r ≤ 10000000) : (p.withRes r).Ok :=
  ⟨o.p0, o.np, o.nm, o.due, o.pasc, o.dis, o.of4, o.c0, o.nc, o.call, o.casc, o.no, o.out, o.oasc, h, o.bnd, o.sum⟩
section
variable {P : Prog} {rp : D → Option Str} {mz : List Ob}
variable (hp : Has P)
include hp
theorem rD_ok {n : Nat} {p : Pl} {a b c : Int} {sizes top b4 b5 b6 b7 : Sl} (ha : 0 ≤ a) (o : p.Ok) :
    ∃ (r a' b' c' : Int), 0 ≤ a' ∧
      ex (gAt P rp (n + 3)) (.asg (.slot 8) (.o2 .sub (.o2 .sub (.o2 .idx (.slotB 3) (.const (.int (3)))) (.call i_law_least [.e (.slot 3)])) (.call i_law_of [.e (.slotP 0), .e (.lst [(.const (.int (0))), (.const (.int (1))), (.o1 .neg (.const (.int (3)))), (.const (.int (9))), (.const (.int (400)))])])))
        (rtS mz sizes top (.val p.parts) b4 b5 b6 b7 .no .no .no .no .no .no .no .no .no (U mz a b c)) =
      .ok .nx (rtS mz sizes top (.val p.parts) b4 b5 b6 b7 (.val (.int r)) .no .no .no .no .no .no .no .no (U mz a' b' c')) := by
  obtain ⟨x, a1, b1, c1, hx, ha1, e1⟩ := of_ev (rp := rp) (mz := mz) (n := n + 1) (es := [(.const (.int (0))), (.const (.int (1))), (.o1 .neg (.const (.int (3)))), (.const (.int (9))), (.const (.int (400)))])
    (s0 := rtS mz sizes top (.val p.parts) b4 b5 b6 b7 .no .no .no .no .no .no .no .no .no (U mz a b c)) (xs := [.int 0, .int 1, .int (-3), .int 9, .int 400]) (a := a) (b := b) (c := c)
    (ρ := (rtS mz sizes top (.val p.parts) b4 b5 b6 b7 .no .no .no .no .no .no .no .no .no (U mz a b c)).ρ) hp rfl (by simp_arith! []; try rfl) ha (by simp) (by simp)
  obtain ⟨v, rfl⟩ : ∃ v : Int, x = .int v := by
    simp only [List.mem_cons, List.not_mem_nil, or_false] at hx
    rcases hx with rfl | rfl | rfl | rfl | rfl
    · exact ⟨_, rfl⟩
    · exact ⟨_, rfl⟩
    · exact ⟨_, rfl⟩
    · exact ⟨_, rfl⟩
    · exact ⟨_, rfl⟩
  have hl := law_least_okK (rp := rp) hp (n := n) (m := U mz a b c) o
  have el : ev (gAt P rp (n + 3)) (.call i_law_least [.e (.slot 3)]) (rtS mz sizes top (.val p.parts) b4 b5 b6 b7 .no .no .no .no .no .no .no .no .no (U mz a b c)) = .ok (.d (.int (least p))) (rtS mz sizes top (.val p.parts) b4 b5 b6 b7 .no .no .no .no .no .no .no .no .no (U mz a b c)) := by simp_arith [hl, rtS]
  refine ⟨p.res - least p - v, a1, b1, c1, ha1, ?_⟩
  simp_arith! [el, e1, rtS]
theorem rE_ok {n : Nat} {p : Pl} {m : List Ob} {r : Int} {sizes top b4 b5 b6 b7 : Sl} :
    ∃ r', (0 ≤ r' ∧ r' ≤ 10000000) ∧ ex (gAt P rp n) (.asg (.slot 3) (.o2 .add (.o2 .add (.slice (.slotB 3) (.const .non) (.const (.int (3)))) (.tup [(.o2 .max (.const (.int (0))) (.o2 .min (.o2 .pow (.const (.int (10))) (.const (.int (7)))) (.slotB 8)))])) (.slice (.slotB 3) (.const (.int (4))) (.const .non))))
        (rtS mz sizes top (.val p.parts) b4 b5 b6 b7 (.val (.int r)) .no .no .no .no .no .no .no .no m) =
      .ok .nx (rtS mz sizes top (.val (p.withRes r').parts) b4 b5 b6 b7 (.val (.int r)) .no .no .no .no .no .no .no .no m) := by
  have L5 : (0 + 1 + 1 + 1 + 1 + 1 : Nat) ≤ LINE := le_line (by decide)
  have L4 : (0 + 1 + 1 + 1 + 1 : Nat) ≤ LINE := le_line (by decide)
  have L1 : (0 + 1 : Nat) ≤ LINE := le_line (by decide)
  have h1 : cut [D.tup (p.pays.map payD), prsD p.calls, prsD p.outl, .int p.res, bndD p.fl p.lt p.sl p.wt] none (some 3) = [D.tup (p.pays.map payD), prsD p.calls, prsD p.outl] := by simp [cut, clip]
  have h2 : cut [D.tup (p.pays.map payD), prsD p.calls, prsD p.outl, .int p.res, bndD p.fl p.lt p.sl p.wt] (some 4) none = [bndD p.fl p.lt p.sl p.wt] := by simp [cut, clip]
  refine ⟨if (if r < 10000000 then r else 10000000) > 0 then (if r < 10000000 then r else 10000000) else 0, by split <;> split at * <;> omega, ?_⟩
  simp_arith! [h1, h2, c10, p10, rtS, L5, L4, L1, Pl.withRes]
theorem new_ok {n : Nat} {p : Pl} {s : S} (o : p.Ok) (hi : Plain P) (he : getN s.ρ 3 = .val p.parts) :
    ev (gAt P rp (n + 8)) (.new 0 [.e (.o2 .idx (.slotB 3) (.const (.int (0)))), .e (.o2 .idx (.slotB 3) (.const (.int (1)))), .e (.o2 .idx (.slotB 3) (.const (.int (2)))), .e (.o2 .idx (.slotB 3) (.const (.int (3)))), .e (.o2 .idx (.slotB 3) (.const (.int (4))))]) s = .ok (.f (.ins 0 [("told", p.parts)])) s := by
  have hini := init_ok (rp := rp) (n := n) (m := s.m) hp o hi
  simp_arith [he, hp.ini, hini]
end
end Pv
end

section
set_option Elab.async false
set_option linter.all false
set_option maxRecDepth 100000
/-! K21: the law of one urn: the greatest bounds. -/
namespace Pv
open PySem
theorem last_filter {α : Type} (f : α → Bool) (xs : List α) : (xs.filter f).getLast? = xs.reverse.find? f := by
  rw [← List.head?_filter, List.filter_reverse, List.head?_reverse]
theorem down6 : ((List.range 7).map fun i : Nat => (i : Int)).reverse = down 6 := by decide
theorem down3 : ((List.range 4).map fun i : Nat => (i : Int)).reverse = down 3 := by decide
/-- the last of a filtered walk -/
theorem last_down {k : Nat} {ds : List Int} (f : Int → Bool) (h : ((List.range k).map fun i : Nat => (i : Int)).reverse = ds) : (((List.range k).filter fun i : Nat => f i).getLast?).map (fun i : Nat => (i : Int)) = ds.find? f := by
  rw [last_filter, ← h, ← List.map_reverse, List.find?_map]
  rfl
theorem ok_ints : ∀ xs : List D, (∀ x ∈ xs, ∃ i : Int, x = .int i) → okDs 59 xs = true
  | [], _ => by rw [okDs]
  | x :: xs, h => by
    obtain ⟨i, rfl⟩ := h x (.head _)
    rw [okDs, ok_ints xs (fun y hy => h y (.tail _ hy)), okD]
    rfl
theorem ne_nil {xs : List D} (h : ∀ x ∈ xs, ∃ i : Int, x = .int i) : eqP (.lst xs) (.lst []) = some xs.isEmpty := by
  have h0 : okD 60 (.lst []) = true := by rw [okD, okDs]
  have h2 : okD 60 (.lst xs) = true := by rw [okD]; exact ok_ints xs h
  unfold eqP
  simp only [scalEq, h2, h0, Bool.and_self, if_true]
  cases xs with
  | nil => rw [eqD, eqDs]; rfl
  | cons x r =>
    rw [eqD, eqDs]
    · rfl
    all_goals simp
theorem idx_lastL {x : D} {r : List D} : op2 .idx (.lst (x :: r)) (.int (-1)) = some (.d (((x :: r).getLast?).getD .non)) := by
  have hpl : place (x :: r).length (-1) = some r.length := by
    unfold place
    rw [List.length_cons]
    have h0 : ((-1 : Int) < 0) := by decide
    simp [h0]
    omega
  show ((place (x :: r).length (-1)).bind fun k => (x :: r)[k]?).map FX.d = _
  rw [hpl, Option.bind_some, List.getLast?_eq_getElem?, List.length_cons, Nat.add_sub_cancel, List.getElem?_eq_getElem (by simp)]
  rfl
section
variable {P : Prog} {rp : D → Option Str} {mz : List Ob}
variable (hp : Has P)
include hp
theorem rG_ok {n : Nat} {p : Pl} {m : List Ob} {sizes top res plan x : Sl} (o : p.Ok) (hx : plainSl x = true) :
    ∃ x', plainSl x' = true ∧ ex (gAt P rp (n + 3)) (.asg (.slot 10) (.comp [11] (.slot 11) (.range [(.const (.int (7)))]) [(.o2 .ge (.call i_law_least [.e (.o2 .add (.slice (.slotB 3) (.const .non) (.const (.int (4)))) (.tup [(.tup [(.slot 11), (.slot 5), (.slot 6), (.slot 7)])]))]) (.const (.int (0))))] (.slot 11)))
        (rtS mz sizes top (.val p.parts) (.val (.int p.fl)) (.val (.int p.lt)) (.val (.int p.sl)) (.val (.int p.wt)) res plan .no x .no .no .no .no .no m) =
      .ok .nx (rtS mz sizes top (.val p.parts) (.val (.int p.fl)) (.val (.int p.lt)) (.val (.int p.sl)) (.val (.int p.wt)) res plan (.own (.lst (((List.range 7).filter fun k : Nat => borne (p.bnd4 k p.lt p.sl p.wt)).map fun k : Nat => .int k))) x' .no .no .no .no .no m) := by
  have L5 : (0 + 1 + 1 + 1 + 1 + 1 : Nat) ≤ LINE := le_line (by decide)
  have L7 : (List.range 7).length ≤ LINE := le_line (by decide)
  have hcut : cut [D.tup (p.pays.map payD), prsD p.calls, prsD p.outl, .int p.res, bndD p.fl p.lt p.sl p.wt] none (some 4) = [D.tup (p.pays.map payD), prsD p.calls, prsD p.outl, .int p.res] := by simp [cut, clip]
  refine ⟨x, hx, ?_⟩
  have hr : evI (gAt P rp (n + 3)) (.range [(.const (.int (7)))]) (rtS mz sizes top (.val p.parts) (.val (.int p.fl)) (.val (.int p.lt)) (.val (.int p.sl)) (.val (.int p.wt)) res plan .no x .no .no .no .no .no m) = .ok ((List.range 7).map fun i : Nat => .int i) (rtS mz sizes top (.val p.parts) (.val (.int p.fl)) (.val (.int p.lt)) (.val (.int p.sl)) (.val (.int p.wt)) res plan .no x .no .no .no .no .no m) := by
    have he : evs (gAt P rp (n + 3)) [(.const (.int (7)))] (rtS mz sizes top (.val p.parts) (.val (.int p.fl)) (.val (.int p.lt)) (.val (.int p.sl)) (.val (.int p.wt)) res plan .no x .no .no .no .no .no m) = .ok [.int ((7 : Nat) : Int)] (rtS mz sizes top (.val p.parts) (.val (.int p.fl)) (.val (.int p.lt)) (.val (.int p.sl)) (.val (.int p.wt)) res plan .no x .no .no .no .no .no m) := by simp_arith! []; rfl
    rw [evI_range, he, Out.bind_ok, range_lit (by decide), lift_some]
  rw [ex_asg, comp_val (xs := List.range 7) (dOf := fun i : Nat => .int i) (fm := fun k : Nat => if borne (p.bnd4 k p.lt p.sl p.wt) then some (.int k) else none) hr (by simp [rtS, getN, hx]) (fun k hk => ⟨[.val (.ref mz.length), sizes, top, .val p.parts, .val (.int p.fl), .val (.int p.lt), .val (.int p.sl), .val (.int p.wt), res, plan, .no, .val (.int k), .no, .no, .no, .no, .no], by ac_rfl, by
    have hk7 : k < 7 := List.mem_range.mp hk
    have o' := o.bounds (f := k) (l := p.lt) (s := p.sl) (w := p.wt) ⟨by omega, o.bnd.2⟩
    have hl := law_least_okK (rp := rp) hp (n := n) (m := m) o'
    simp only [Pl.bnd4, Pl.parts] at hl
    unfold borne
    by_cases hb : 0 ≤ least (p.bnd4 k p.lt p.sl p.wt)
    · have hb' : (0 ≤ least { p with fl := (k : Int), lt := p.lt, sl := p.sl, wt := p.wt }) = True := eq_true hb
      simp_arith [rtS, hcut, L5, hl, hb', decide_true]
      simp [hb]
    · have hb' : (0 ≤ least { p with fl := (k : Int), lt := p.lt, sl := p.sl, wt := p.wt }) = False := eq_false hb
      simp_arith [rtS, hcut, L5, hl, hb', decide_false]
      simp [hb]⟩) L7]
  simp_arith! [rtS, fm_if]
theorem rH_ok {n : Nat} {p : Pl} {m : List Ob} {sizes top res plan fails x : Sl} (o : p.Ok) (hx : plainSl x = true) :
    ∃ x', plainSl x' = true ∧ ex (gAt P rp (n + 3)) (.asg (.slot 12) (.comp [11] (.slot 11) (.range [(.const (.int (4)))]) [(.o2 .ge (.call i_law_least [.e (.o2 .add (.slice (.slotB 3) (.const .non) (.const (.int (4)))) (.tup [(.tup [(.slot 4), (.slot 5), (.slot 11), (.slot 7)])]))]) (.const (.int (0))))] (.slot 11)))
        (rtS mz sizes top (.val p.parts) (.val (.int p.fl)) (.val (.int p.lt)) (.val (.int p.sl)) (.val (.int p.wt)) res plan fails x .no .no .no .no .no m) =
      .ok .nx (rtS mz sizes top (.val p.parts) (.val (.int p.fl)) (.val (.int p.lt)) (.val (.int p.sl)) (.val (.int p.wt)) res plan fails x' (.own (.lst (((List.range 4).filter fun k : Nat => borne (p.bnd4 p.fl p.lt k p.wt)).map fun k : Nat => .int k))) .no .no .no .no m) := by
  have L5 : (0 + 1 + 1 + 1 + 1 + 1 : Nat) ≤ LINE := le_line (by decide)
  have L7 : (List.range 4).length ≤ LINE := le_line (by decide)
  have hcut : cut [D.tup (p.pays.map payD), prsD p.calls, prsD p.outl, .int p.res, bndD p.fl p.lt p.sl p.wt] none (some 4) = [D.tup (p.pays.map payD), prsD p.calls, prsD p.outl, .int p.res] := by simp [cut, clip]
  refine ⟨x, hx, ?_⟩
  have hr : evI (gAt P rp (n + 3)) (.range [(.const (.int (4)))]) (rtS mz sizes top (.val p.parts) (.val (.int p.fl)) (.val (.int p.lt)) (.val (.int p.sl)) (.val (.int p.wt)) res plan fails x .no .no .no .no .no m) = .ok ((List.range 4).map fun i : Nat => .int i) (rtS mz sizes top (.val p.parts) (.val (.int p.fl)) (.val (.int p.lt)) (.val (.int p.sl)) (.val (.int p.wt)) res plan fails x .no .no .no .no .no m) := by
    have he : evs (gAt P rp (n + 3)) [(.const (.int (4)))] (rtS mz sizes top (.val p.parts) (.val (.int p.fl)) (.val (.int p.lt)) (.val (.int p.sl)) (.val (.int p.wt)) res plan fails x .no .no .no .no .no m) = .ok [.int ((4 : Nat) : Int)] (rtS mz sizes top (.val p.parts) (.val (.int p.fl)) (.val (.int p.lt)) (.val (.int p.sl)) (.val (.int p.wt)) res plan fails x .no .no .no .no .no m) := by simp_arith! []; rfl
    rw [evI_range, he, Out.bind_ok, range_lit (by decide), lift_some]
  rw [ex_asg, comp_val (xs := List.range 4) (dOf := fun i : Nat => .int i) (fm := fun k : Nat => if borne (p.bnd4 p.fl p.lt k p.wt) then some (.int k) else none) hr (by simp [rtS, getN, hx]) (fun k hk => ⟨[.val (.ref mz.length), sizes, top, .val p.parts, .val (.int p.fl), .val (.int p.lt), .val (.int p.sl), .val (.int p.wt), res, plan, fails, .val (.int k), .no, .no, .no, .no, .no], by ac_rfl, by
    have hk7 : k < 4 := List.mem_range.mp hk
    have o' := o.bounds (f := p.fl) (l := p.lt) (s := k) (w := p.wt) ⟨o.bnd.1, o.bnd.2.1, by omega, o.bnd.2.2.2⟩
    have hl := law_least_okK (rp := rp) hp (n := n) (m := m) o'
    simp only [Pl.bnd4, Pl.parts] at hl
    unfold borne
    by_cases hb : 0 ≤ least (p.bnd4 p.fl p.lt k p.wt)
    · have hb' : (0 ≤ least { p with fl := p.fl, lt := p.lt, sl := (k : Int), wt := p.wt }) = True := eq_true hb
      simp_arith [rtS, hcut, L5, hl, hb', decide_true]
      simp [hb]
    · have hb' : (0 ≤ least { p with fl := p.fl, lt := p.lt, sl := (k : Int), wt := p.wt }) = False := eq_false hb
      simp_arith [rtS, hcut, L5, hl, hb', decide_false]
      simp [hb]⟩) L7]
  simp_arith! [rtS, fm_if]
theorem rI_ok {n : Nat} {p : Pl} {m : List Ob} {sizes top b4 b5 b6 b7 res plan fails x slows : Sl} (o : p.Ok) :
    ex (gAt P rp (n + 3)) (.asg (.slot 13) (.o2 .max (.const (.int (0))) (.o2 .sub (.o2 .idx (.slotB 3) (.const (.int (3)))) (.call i_law_least [.e (.slot 3)])))) (rtS mz sizes top (.val p.parts) b4 b5 b6 b7 res plan fails x slows .no .no .no .no m) =
      .ok .nx (rtS mz sizes top (.val p.parts) b4 b5 b6 b7 res plan fails x slows (.val (.int (if p.res - least p > 0 then p.res - least p else 0))) .no .no .no m) := by
  have hl := law_least_okK (rp := rp) hp (n := n) (m := m) o
  have el : ev (gAt P rp (n + 3)) (.call i_law_least [.e (.slot 3)]) (rtS mz sizes top (.val p.parts) b4 b5 b6 b7 res plan fails x slows .no .no .no .no m) = .ok (.d (.int (least p))) (rtS mz sizes top (.val p.parts) b4 b5 b6 b7 res plan fails x slows .no .no .no .no m) := by simp_arith [hl, rtS]
  simp_arith! [el, rtS]
omit hp in
/-- the last of a list of numbers, or None -/
theorem last_ok {g : G} {i : Nat} {s : S} {xs : List Nat} (hg : getN s.ρ i = .own (.lst (xs.map fun k : Nat => .int k)) ∨ getN s.ρ i = .val (.lst (xs.map fun k : Nat => .int k))) :
    ev g (.ite (.o2 .ne (.slotB i) (.lst [])) (.o2 .idx (.slotB i) (.o1 .neg (.const (.int (1))))) (.const .non)) s = .ok (.d (optD (xs.getLast?.map fun i : Nat => (i : Int)))) s := by
  have hne := ne_nil (xs := xs.map fun k : Nat => D.int k) (fun x hx => by
    obtain ⟨k, _, rfl⟩ := List.mem_map.mp hx
    exact ⟨k, rfl⟩)
  have L0 : 0 ≤ LINE := Nat.zero_le _
  cases xs with
  | nil => rcases hg with hg | hg <;> (simp_arith! [hg, hne, List.map_nil, List.isEmpty_nil]; rfl)
  | cons x r =>
    have hl := idx_lastL (x := D.int x) (r := r.map fun k : Nat => D.int k)
    have hq : ((D.int x :: r.map fun k : Nat => D.int k).getLast?).getD .non = optD (((x :: r).getLast?).map fun i : Nat => (i : Int)) := by
      rw [show (D.int x :: r.map fun k : Nat => D.int k) = (x :: r).map fun k : Nat => D.int k from rfl, List.getLast?_map]
      rw [List.getLast?_eq_some_getLast (by simp : x :: r ≠ [])]
      rfl
    rw [hq] at hl
    rw [List.map_cons] at hne
    rcases hg with hg | hg <;> simp_arith! [hg, hne, List.map_cons, List.isEmpty_cons, hl]
end
end Pv
end

section
set_option Elab.async false
set_option linter.all false
set_option maxRecDepth 100000
/-! K22: the law of one urn: answers against answers. -/
namespace Pv
open PySem
theorem least_withRes {p : Pl} (o : p.Ok) (r : Int) : least (p.withRes r) = least p - p.res + r := by
  have hne : days p ≠ [] := by
    have := o.nr.lo
    unfold days
    intro h
    have := congrArg List.length h
    rw [List.length_range] at this
    simp at this
    omega
  obtain ⟨y, hy, e, hm⟩ := best_spec (fun d : Nat => margin p d) (0, 0) hne
  obtain ⟨z, hz, e2, hm2⟩ := best_spec (fun d : Nat => margin (p.withRes r) d) (0, 0) (show days (p.withRes r) ≠ [] from hne)
  have e' : least p = margin p y := e
  have e2' : least (p.withRes r) = margin (p.withRes r) z := e2
  have hmr : ∀ d : Int, margin (p.withRes r) d = margin p d - p.res + r := fun d => by
    show r - spent p.outl d + comeMin p d = p.res - spent p.outl d + comeMin p d - p.res + r
    omega
  have h1 := hm z hz
  have h2 := hm2 y hy
  have h3 := hmr z
  have h4 := hmr y
  rw [e', e2']
  omega
theorem uz {mz : List Ob} {a b c : Int} {i : Nat} {x : Ob} (h : mz[i]? = some x) : (U mz a b c)[i]? = some x := by
  unfold U
  rw [List.getElem?_append_left (List.getElem?_eq_some_iff.mp h).1]
  exact h
section
variable {P : Prog} {rp : D → Option Str} {mz : List Ob}
variable (hp : Has P)
include hp
theorem rJ_ok {n : Nat} {m : List Ob} {xs ys : List Nat} {need : Int} {sizes top told b4 b5 b6 b7 res plan x : Sl} :
    ex (gAt P rp n) (.asg (.slot 14) (.lst [(.ite (.o2 .ne (.slotB 10) (.lst [])) (.o2 .idx (.slotB 10) (.o1 .neg (.const (.int (1))))) (.const .non)), (.ite (.o2 .ne (.slotB 12) (.lst [])) (.o2 .idx (.slotB 12) (.o1 .neg (.const (.int (1))))) (.const .non)), (.slot 13)]))
        (rtS mz sizes top told b4 b5 b6 b7 res plan (.own (.lst (xs.map fun k : Nat => .int k))) x (.own (.lst (ys.map fun k : Nat => .int k))) (.val (.int need)) .no .no .no m) =
      .ok .nx (rtS mz sizes top told b4 b5 b6 b7 res plan (.own (.lst (xs.map fun k : Nat => .int k))) x (.own (.lst (ys.map fun k : Nat => .int k))) (.val (.int need)) (.own (.lst [optD (xs.getLast?.map fun i : Nat => (i : Int)), optD (ys.getLast?.map fun i : Nat => (i : Int)), .int need])) .no .no m) := by
  have L3 : (0 + 1 + 1 + 1 : Nat) ≤ LINE := le_line (by decide)
  have h1 := last_ok (g := gAt P rp n) (i := 10) (s := rtS mz sizes top told b4 b5 b6 b7 res plan (.own (.lst (xs.map fun k : Nat => .int k))) x (.own (.lst (ys.map fun k : Nat => .int k))) (.val (.int need)) .no .no .no m) (xs := xs) (.inl rfl)
  have h2 := last_ok (g := gAt P rp n) (i := 12) (s := rtS mz sizes top told b4 b5 b6 b7 res plan (.own (.lst (xs.map fun k : Nat => .int k))) x (.own (.lst (ys.map fun k : Nat => .int k))) (.val (.int need)) .no .no .no m) (xs := ys) (.inl rfl)
  rw [ex_asg, ev_lst, evs_cons, h1, Out.bind_ok, evs_cons, h2, Out.bind_ok]
  simp_arith! [rtS, L3]
theorem rK_ok {n : Nat} {p : Pl} {a b c : Int} {sizes top told b4 b5 b6 b7 res plan fails x slows need right t1 t2 : Sl} (o : p.Ok) (hi : Plain P) (hz0 : mz[0]? = some (.tbl 0)) (hz1 : mz[1]? = some (.tbl 1)) (hpl : plan = .own (.ins 0 [("told", p.parts)]) ∨ plan = .val p.obj) :
    ev (gAt P rp (n + 13)) (.lst [(.call i_bears_fails [.e (.slot 9)]), (.call i_bears_slow [.e (.slot 9)]), (.call i_least_reserve [.e (.slot 9)])])
        (rtS mz sizes top told b4 b5 b6 b7 res plan fails x slows need right t1 t2 (U mz a b c)) =
      .ok (.f (.lst [optD ((down 6).find? fun k => borne (p.bnd4 k p.lt p.sl p.wt)), optD ((down 3).find? fun k => borne (p.bnd4 p.fl p.lt k p.wt)), .int (if p.res - least p > 0 then p.res - least p else 0)])) (rtS mz sizes top told b4 b5 b6 b7 res (.val p.obj) fails x slows need right t1 t2 (U mz a b c)) := by
  have L3 : (0 + 1 + 1 + 1 : Nat) ≤ LINE := le_line (by decide)
  have h1 := bears_fails_ok (rp := rp) (n := n) (m := U mz a b c) hp o hi (uz hz0)
  have h2 := bears_slow_ok (rp := rp) (n := n) (m := U mz a b c) hp o hi (uz hz1)
  have h3 := least_reserve_ok (rp := rp) (n := n + 4) (m := U mz a b c) hp o.sm o.nr
  rcases hpl with rfl | rfl <;> simp_arith [rtS, h1, h2, h3, L3]
theorem rL_ok {n : Nat} {A B : D} {need : Int} {str : Str} {sizes top told b4 b5 b6 b7 res plan fails x slows nd : Sl} {m : List Ob} (hr : rp (.lst [.lst [A, B, .int need], .lst [A, B, .int need]]) = some str) :
    ex (gAt P rp n) (.ite (.o2 .ne (.o1 .repr (.lst [(.slot 15), (.slot 16)])) (.o1 .repr (.lst [(.slot 14), (.slot 14)]))) [.ret (.const (.bl false))] [])
        (rtS mz sizes top told b4 b5 b6 b7 res plan fails x slows nd (.own (.lst [A, B, .int need])) (.own (.lst [A, B, .int need])) (.own (.lst [A, B, .int need])) m) =
      .ok .nx (rtS mz sizes top told b4 b5 b6 b7 res plan fails x slows nd (.val (.lst [A, B, .int need])) (.val (.lst [A, B, .int need])) (.val (.lst [A, B, .int need])) m) := by
  have L2 : (0 + 1 + 1 : Nat) ≤ LINE := le_line (by decide)
  have hq : eqP (.str str) (.str str) = some true := by rw [eqP_str]; simp
  simp_arith! [rtS, L2, hr, hq]
end
end Pv
end

section
set_option Elab.async false
set_option linter.all false
set_option maxRecDepth 100000
/-! K23: the law of one urn: the end. -/
namespace Pv
open PySem
section
variable {P : Prog} {rp : D → Option Str} {mz : List Ob}
variable (hp : Has P)
include hp
abbrev needE (e : E) : E := .call i_is_borne [.e (.new 0 [.e (.o2 .idx (.slotB 3) (.const (.int (0)))), .e (.o2 .idx (.slotB 3) (.const (.int (1)))), .e (.o2 .idx (.slotB 3) (.const (.int (2)))), .e e, .e (.o2 .idx (.slotB 3) (.const (.int (4))))])]
theorem rM1_ok {n : Nat} {p : Pl} {need : Int} {sizes top b4 b5 b6 b7 res plan fails x slows right t1 t2 : Sl} {m : List Ob} {e : E} {v : Int} (o : p.Ok) (hi : Plain P) (hv : 0 ≤ v ∧ v ≤ 10000000)
    (he : ev (gAt P rp (n + 13)) e (rtS mz sizes top (.val p.parts) b4 b5 b6 b7 res plan fails x slows (.val (.int need)) right t1 t2 m) = .ok (.d (.int v)) (rtS mz sizes top (.val p.parts) b4 b5 b6 b7 res plan fails x slows (.val (.int need)) right t1 t2 m)) :
    ev (gAt P rp (n + 13)) (needE e) (rtS mz sizes top (.val p.parts) b4 b5 b6 b7 res plan fails x slows (.val (.int need)) right t1 t2 m) =
      .ok (.d (.bl (decide (0 ≤ least p - p.res + v)))) (rtS mz sizes top (.val p.parts) b4 b5 b6 b7 res plan fails x slows (.val (.int need)) right t1 t2 m) := by
  have o' := o.withRes hv
  have hini := init_ok (rp := rp) (n := n + 5) (m := m) hp o' hi
  have hb := is_borne_ok (rp := rp) (n := n + 4) (m := m) hp o'.sm o'.nr
  rw [least_withRes o] at hb
  simp only [Pl.withRes, Pl.obj, Pl.parts] at hini hb
  have en : ev (gAt P rp (n + 13)) (.new 0 [.e (.o2 .idx (.slotB 3) (.const (.int (0)))), .e (.o2 .idx (.slotB 3) (.const (.int (1)))), .e (.o2 .idx (.slotB 3) (.const (.int (2)))), .e e, .e (.o2 .idx (.slotB 3) (.const (.int (4))))]) (rtS mz sizes top (.val p.parts) b4 b5 b6 b7 res plan fails x slows (.val (.int need)) right t1 t2 m) = .ok (.f (.ins 0 [("told", (p.withRes v).parts)])) (rtS mz sizes top (.val p.parts) b4 b5 b6 b7 res plan fails x slows (.val (.int need)) right t1 t2 m) := by
    simp only [rtS] at he ⊢
    simp_arith [he, hp.ini, hini]
  rw [ev_call, evA_cons, evA1_e, en]
  simp_arith! [callG, gAt_call, hb, evA_nil, rtS]
omit hp in
theorem isn_tt : op2 .isnot (.bl true) (.bl true) = some (.d (.bl false)) := by rfl
omit hp in
theorem isn_ff : op2 .isnot (.bl false) (.bl false) = some (.d (.bl false)) := by rfl
omit hp in
theorem ite_le {g : G} {B : List Stm} {need : Int} {sizes top told b4 b5 b6 b7 res plan fails x slows right t1 t2 : Sl} {m : List Ob} (hle : need ≤ 10000000)
    (hB : exs g B (rtS mz sizes top told b4 b5 b6 b7 res plan fails x slows (.val (.int need)) right t1 t2 m) = .ok .nx (rtS mz sizes top told b4 b5 b6 b7 res plan fails x slows (.val (.int need)) right t1 t2 m)) :
    ex g (.ite (.o2 .le (.slotB 13) (.o2 .pow (.const (.int (10))) (.const (.int (7))))) B []) (rtS mz sizes top told b4 b5 b6 b7 res plan fails x slows (.val (.int need)) right t1 t2 m) = .ok .nx (rtS mz sizes top told b4 b5 b6 b7 res plan fails x slows (.val (.int need)) right t1 t2 m) := by
  simp_arith! [hle, decide_true, c10, p10, hB]
theorem rM_ok {n : Nat} {p : Pl} {sizes top b4 b5 b6 b7 res plan fails x slows right t1 t2 : Sl} {m : List Ob} {need : Int} (o : p.Ok) (hi : Plain P) (hn : need = if p.res - least p > 0 then p.res - least p else 0) :
    ex (gAt P rp (n + 13)) (.ite (.o2 .le (.slotB 13) (.o2 .pow (.const (.int (10))) (.const (.int (7))))) [.ite (.o2 .isnot (needE (.slot 13)) (.const (.bl true))) [.ret (.const (.bl false))] [], .ite (.and (.o2 .gt (.slotB 13) (.const (.int (0)))) (.o2 .isnot (needE (.o2 .sub (.slotB 13) (.const (.int (1))))) (.const (.bl false)))) [.ret (.const (.bl false))] []] [])
        (rtS mz sizes top (.val p.parts) b4 b5 b6 b7 res plan fails x slows (.val (.int need)) right t1 t2 m) =
      .ok .nx (rtS mz sizes top (.val p.parts) b4 b5 b6 b7 res plan fails x slows (.val (.int need)) right t1 t2 m) := by
  have h0 : 0 ≤ need ∧ 0 ≤ least p - p.res + need := by rw [hn]; split <;> omega
  by_cases hle : need ≤ 10000000
  · have e1 := rM1_ok (rp := rp) (mz := mz) (n := n) (sizes := sizes) (top := top) (b4 := b4) (b5 := b5) (b6 := b6) (b7 := b7) (res := res) (plan := plan) (fails := fails) (x := x) (slows := slows) (right := right) (t1 := t1) (t2 := t2) (m := m) (need := need) (e := .slot 13) (v := need) hp o hi ⟨h0.1, hle⟩ (by simp_arith! [rtS])
    rw [decide_eq_true h0.2] at e1
    have s1 : ex (gAt P rp (n + 13)) (.ite (.o2 .isnot (needE (.slot 13)) (.const (.bl true))) [.ret (.const (.bl false))] []) (rtS mz sizes top (.val p.parts) b4 b5 b6 b7 res plan fails x slows (.val (.int need)) right t1 t2 m) = .ok .nx (rtS mz sizes top (.val p.parts) b4 b5 b6 b7 res plan fails x slows (.val (.int need)) right t1 t2 m) := by
      simp_arith! [e1, isn_tt]
    have s2 : ex (gAt P rp (n + 13)) (.ite (.and (.o2 .gt (.slotB 13) (.const (.int (0)))) (.o2 .isnot (needE (.o2 .sub (.slotB 13) (.const (.int (1))))) (.const (.bl false)))) [.ret (.const (.bl false))] []) (rtS mz sizes top (.val p.parts) b4 b5 b6 b7 res plan fails x slows (.val (.int need)) right t1 t2 m) = .ok .nx (rtS mz sizes top (.val p.parts) b4 b5 b6 b7 res plan fails x slows (.val (.int need)) right t1 t2 m) := by
      by_cases hpos : 0 < need
      · have e2 := rM1_ok (rp := rp) (mz := mz) (n := n) (sizes := sizes) (top := top) (b4 := b4) (b5 := b5) (b6 := b6) (b7 := b7) (res := res) (plan := plan) (fails := fails) (x := x) (slows := slows) (right := right) (t1 := t1) (t2 := t2) (m := m) (need := need) (e := .o2 .sub (.slotB 13) (.const (.int (1)))) (v := need - 1) hp o hi ⟨by omega, by omega⟩ (by simp_arith! [rtS])
        have hneg : ¬ (0 ≤ least p - p.res + (need - 1)) := by
          rw [hn] at hpos ⊢
          split at hpos
          · rename_i hh; rw [if_pos hh]; omega
          · omega
        rw [decide_eq_false hneg] at e2
        simp_arith! [e2, hpos, decide_true, isn_ff]
      · simp_arith! [hpos, decide_false]
    exact ite_le hle (by rw [exs_cons, s1, Out.bind_ok, exs_cons, s2, Out.bind_ok, exs_nil])
  · simp_arith! [hle, decide_false, c10, p10]
end
end Pv
end

section
set_option Elab.async false
set_option linter.all false
set_option maxRecDepth 100000
/-! K24: the law of one urn, the law. -/
namespace Pv
open PySem
theorem owed_pos {due : Int} {cs : List (Int × Int)} (hd : 0 ≤ due) (hc : ∀ c ∈ cs, 0 ≤ c.2) (u : Int) : 0 ≤ owed due cs (lastBy cs u) := by
  unfold owed partUp lastBy
  rw [cut_none _ (by omega), List.map_take]
  have := take_sum_mono (cs.map (·.2)) 0 ((((cs.filter fun c => decide (c.1 ≤ u)).length : Int) - 1 + 1).toNat) (fun x hx => by
    obtain ⟨c, hc', rfl⟩ := List.mem_map.mp hx
    exact hc c hc') (Nat.zero_le _)
  rw [List.take_zero, List.sum_nil] at this
  rw [Int.fdiv_eq_ediv_of_nonneg _ (by decide)]
  exact Int.ediv_nonneg (Int.mul_nonneg hd this) (by decide)
theorem leftBy_pos {xs : List Int} (h : ∀ x ∈ xs, 0 ≤ x) (f : Int) : 0 ≤ leftBy xs f := by
  unfold leftBy
  rw [cut_none _ (by split <;> omega)]
  have := take_sum_mono (sortI xs) 0 ((if (xs.length : Int) - f > 0 then (xs.length : Int) - f else 0).toNat) (fun x hx => h x ((sortI_perm xs).mem_iff.mp hx)) (Nat.zero_le _)
  simpa using this
theorem spent_le {os : List (Int × Int)} (h : ∀ c ∈ os, 1 ≤ c.2 ∧ c.2 ≤ 10000000) (d : Int) : spent os d ≤ 10000000 * os.length := by
  unfold spent
  induction os with
  | nil => simp
  | cons c cs ih =>
    have h1 := h c (by simp)
    have h2 := ih (fun y hy => h y (by simp [hy]))
    rw [List.filter_cons, List.length_cons]
    split
    · rw [List.map_cons, List.sum_cons]; omega
    · omega
theorem need_le {p : Pl} (o : p.Ok) : p.res - least p ≤ 80000000 := by
  have hne : days p ≠ [] := by
    have := o.nr.lo
    unfold days
    intro h
    have := congrArg List.length h
    rw [List.length_range] at this
    simp at this
    omega
  obtain ⟨y, hy, e, hm⟩ := best_spec (fun d : Nat => margin p d) (0, 0) hne
  have e' : least p = margin p y := e
  obtain ⟨s, hs, e2, _⟩ := best_spec (fun s => leftBy (come p y s) p.fl) (0, []) (slow_ne p.pays p.sl)
  have e2' : comeMin p y = leftBy (come p y s) p.fl := e2
  have h0 : 0 ≤ comeMin p y := by
    rw [e2']
    apply leftBy_pos
    intro x hx
    obtain ⟨q, hq, rfl⟩ := List.mem_map.mp hx
    exact owed_pos (by have := o.due q hq; omega) (fun c hc => by have := o.call c hc; omega) _
  have h1 := spent_le (fun c hc => ⟨(o.out c hc).2.2.1, (o.out c hc).2.2.2⟩) (y : Int)
  have h2 := o.no
  rw [e']
  unfold margin
  omega
/-- repr answers for what the law shows -/
def Shows (rp : D → Option Str) : Prop := ∀ (x y : Option Int) (z : Int), (∀ k, x = some k → 0 ≤ k ∧ k ≤ 6) → (∀ k, y = some k → 0 ≤ k ∧ k ≤ 6) → 0 ≤ z → z ≤ 80000000 → ∃ str, rp (.lst [.lst [optD x, optD y, .int z], .lst [optD x, optD y, .int z]]) = some str
section
variable {P : Prog} {rp : D → Option Str} {mz : List Ob}
variable (hp : Has P)
include hp
theorem right_ok {n : Nat} {a b c : Int} (ha : 0 ≤ a) (hi : Plain P) (hz0 : mz[0]? = some (.tbl 0)) (hz1 : mz[1]? = some (.tbl 1)) (hr : Shows rp) :
    ∃ a' b' c', 0 ≤ a' ∧ evFn P rp (n + 15) i_law_right [] [.d (.ref mz.length)] (U mz a b c) = .ok (.d (.bl true)) ⟨[], U mz a' b' c'⟩ := by
  obtain ⟨s0, s1, s2, top, a1, b1, c1, ha1, ht, h0, h1, h2, e1⟩ := rA_ok (rp := rp) (mz := mz) (n := n + 10) (b := b) (c := c) hp ha
  obtain ⟨p, a2, b2, c2, ha2, o, e2⟩ := rB_ok (rp := rp) (mz := mz) (n := n + 9) (b := b1) (c := c1) hp ha1 ht h0 h1 h2
  have e3 := rC_ok (rp := rp) (mz := mz) (n := n + 13) (p := p) (m := U mz a2 b2 c2) (sizes := .val (szD s0 s1 s2)) (top := .val (.int top)) (b4 := .no) (b5 := .no) (b6 := .no) (b7 := .no) hp
  obtain ⟨r, a3, b3, c3, ha3, e4⟩ := rD_ok (rp := rp) (mz := mz) (n := n + 10) (p := p) (b := b2) (c := c2) (sizes := .val (szD s0 s1 s2)) (top := .val (.int top)) (b4 := .val (.int p.fl)) (b5 := .val (.int p.lt)) (b6 := .val (.int p.sl)) (b7 := .val (.int p.wt)) hp ha2 o
  obtain ⟨r', hr', e5⟩ := rE_ok (rp := rp) (mz := mz) (n := n + 13) (p := p) (r := r) (m := U mz a3 b3 c3) (sizes := .val (szD s0 s1 s2)) (top := .val (.int top)) (b4 := .val (.int p.fl)) (b5 := .val (.int p.lt)) (b6 := .val (.int p.sl)) (b7 := .val (.int p.wt)) hp
  have o' := o.withRes hr'
  have f1 : p.fl = (p.withRes r').fl := rfl
  have f2 : p.lt = (p.withRes r').lt := rfl
  have f3 : p.sl = (p.withRes r').sl := rfl
  have f4 : p.wt = (p.withRes r').wt := rfl
  rw [f1, f2, f3, f4] at e3 e4 e5
  generalize p.withRes r' = q at o' e3 e4 e5 f1 f2 f3 f4
  have e6 : ex (gAt P rp (n + 13)) (.asg (.slot 9) (.new 0 [.e (.o2 .idx (.slotB 3) (.const (.int (0)))), .e (.o2 .idx (.slotB 3) (.const (.int (1)))), .e (.o2 .idx (.slotB 3) (.const (.int (2)))), .e (.o2 .idx (.slotB 3) (.const (.int (3)))), .e (.o2 .idx (.slotB 3) (.const (.int (4))))]))
      (rtS mz (.val (szD s0 s1 s2)) (.val (.int top)) (.val q.parts) (.val (.int q.fl)) (.val (.int q.lt)) (.val (.int q.sl)) (.val (.int q.wt)) (.val (.int r)) .no .no .no .no .no .no .no .no (U mz a3 b3 c3)) =
      .ok .nx (rtS mz (.val (szD s0 s1 s2)) (.val (.int top)) (.val q.parts) (.val (.int q.fl)) (.val (.int q.lt)) (.val (.int q.sl)) (.val (.int q.wt)) (.val (.int r)) (.own (.ins 0 [("told", q.parts)])) .no .no .no .no .no .no .no (U mz a3 b3 c3)) := by
    rw [ex_asg, new_ok (rp := rp) (n := n + 5) hp o' hi rfl]
    simp_arith! [rtS]
  obtain ⟨x1, hx1, e7⟩ := rG_ok (rp := rp) (mz := mz) (n := n + 10) (p := q) (m := U mz a3 b3 c3) (sizes := .val (szD s0 s1 s2)) (top := .val (.int top)) (res := .val (.int r)) (plan := .own (.ins 0 [("told", q.parts)])) (x := .no) hp o' rfl
  obtain ⟨x2, hx2, e8⟩ := rH_ok (rp := rp) (mz := mz) (n := n + 10) (p := q) (m := U mz a3 b3 c3) (sizes := .val (szD s0 s1 s2)) (top := .val (.int top)) (res := .val (.int r)) (plan := .own (.ins 0 [("told", q.parts)])) (fails := (.own (.lst (((List.range 7).filter fun k : Nat => borne (q.bnd4 k q.lt q.sl q.wt)).map fun k : Nat => .int k)))) (x := x1) hp o' hx1
  have e9 := rI_ok (rp := rp) (mz := mz) (n := n + 10) (p := q) (m := U mz a3 b3 c3) (sizes := .val (szD s0 s1 s2)) (top := .val (.int top)) (b4 := .val (.int q.fl)) (b5 := .val (.int q.lt)) (b6 := .val (.int q.sl)) (b7 := .val (.int q.wt)) (res := .val (.int r)) (plan := .own (.ins 0 [("told", q.parts)])) (fails := (.own (.lst (((List.range 7).filter fun k : Nat => borne (q.bnd4 k q.lt q.sl q.wt)).map fun k : Nat => .int k)))) (x := x2) (slows := (.own (.lst (((List.range 4).filter fun k : Nat => borne (q.bnd4 q.fl q.lt k q.wt)).map fun k : Nat => .int k)))) hp o'
  have hnl := need_le o'
  have hn0 : 0 ≤ (if q.res - least q > 0 then q.res - least q else 0) ∧ (if q.res - least q > 0 then q.res - least q else 0) ≤ 80000000 := by split <;> omega
  have e10 := rJ_ok (rp := rp) (mz := mz) (n := n + 13) (m := U mz a3 b3 c3) (xs := (List.range 7).filter fun k : Nat => borne (q.bnd4 k q.lt q.sl q.wt)) (ys := (List.range 4).filter fun k : Nat => borne (q.bnd4 q.fl q.lt k q.wt)) (need := if q.res - least q > 0 then q.res - least q else 0) (sizes := .val (szD s0 s1 s2)) (top := .val (.int top)) (told := .val q.parts) (b4 := .val (.int q.fl)) (b5 := .val (.int q.lt)) (b6 := .val (.int q.sl)) (b7 := .val (.int q.wt)) (res := .val (.int r)) (plan := .own (.ins 0 [("told", q.parts)])) (x := x2) hp
  rw [last_down (fun k => borne (q.bnd4 k q.lt q.sl q.wt)) down6, last_down (fun k => borne (q.bnd4 q.fl q.lt k q.wt)) down3] at e10
  have e11 := fun plan t1 t2 (hpl : plan = .own (.ins 0 [("told", q.parts)]) ∨ plan = .val q.obj) right => rK_ok (rp := rp) (mz := mz) (n := n) (p := q) (a := a3) (b := b3) (c := c3) (sizes := .val (szD s0 s1 s2)) (top := .val (.int top)) (told := .val q.parts) (b4 := .val (.int q.fl)) (b5 := .val (.int q.lt)) (b6 := .val (.int q.sl)) (b7 := .val (.int q.wt)) (res := .val (.int r)) (plan := plan) (fails := (.own (.lst (((List.range 7).filter fun k : Nat => borne (q.bnd4 k q.lt q.sl q.wt)).map fun k : Nat => .int k)))) (x := x2) (slows := (.own (.lst (((List.range 4).filter fun k : Nat => borne (q.bnd4 q.fl q.lt k q.wt)).map fun k : Nat => .int k)))) (need := .val (.int (if q.res - least q > 0 then q.res - least q else 0))) (right := right) (t1 := t1) (t2 := t2) hp o' hi hz0 hz1 hpl
  obtain ⟨str, hstr⟩ := hr ((down 6).find? fun k => borne (q.bnd4 k q.lt q.sl q.wt)) ((down 3).find? fun k => borne (q.bnd4 q.fl q.lt k q.wt)) (if q.res - least q > 0 then q.res - least q else 0) (fun k hk => by have := mem_down.mp (List.mem_of_find?_eq_some hk); omega) (fun k hk => by have := mem_down.mp (List.mem_of_find?_eq_some hk); omega) hn0.1 hn0.2
  have e14 := fun plan => rM_ok (rp := rp) (mz := mz) (n := n) (p := q) (need := if q.res - least q > 0 then q.res - least q else 0) (m := U mz a3 b3 c3) (sizes := .val (szD s0 s1 s2)) (top := .val (.int top)) (b4 := .val (.int q.fl)) (b5 := .val (.int q.lt)) (b6 := .val (.int q.sl)) (b7 := .val (.int q.wt)) (res := .val (.int r)) (plan := plan) (fails := (.own (.lst (((List.range 7).filter fun k : Nat => borne (q.bnd4 k q.lt q.sl q.wt)).map fun k : Nat => .int k)))) (x := x2) (slows := (.own (.lst (((List.range 4).filter fun k : Nat => borne (q.bnd4 q.fl q.lt k q.wt)).map fun k : Nat => .int k))))
    (right := .val (.lst [optD ((down 6).find? fun k => borne (q.bnd4 k q.lt q.sl q.wt)), optD ((down 3).find? fun k => borne (q.bnd4 q.fl q.lt k q.wt)), .int (if q.res - least q > 0 then q.res - least q else 0)])) (t1 := .val (.lst [optD ((down 6).find? fun k => borne (q.bnd4 k q.lt q.sl q.wt)), optD ((down 3).find? fun k => borne (q.bnd4 q.fl q.lt k q.wt)), .int (if q.res - least q > 0 then q.res - least q else 0)])) (t2 := .val (.lst [optD ((down 6).find? fun k => borne (q.bnd4 k q.lt q.sl q.wt)), optD ((down 3).find? fun k => borne (q.bnd4 q.fl q.lt k q.wt)), .int (if q.res - least q > 0 then q.res - least q else 0)])) hp o' hi rfl
  generalize hA : optD ((down 6).find? fun k => borne (q.bnd4 k q.lt q.sl q.wt)) = A at e10 e11 hstr e14
  generalize hB : optD ((down 3).find? fun k => borne (q.bnd4 q.fl q.lt k q.wt)) = B at e10 e11 hstr e14
  generalize hF : ((List.range 7).filter fun k : Nat => borne (q.bnd4 k q.lt q.sl q.wt)).map (fun k : Nat => D.int k) = F at e7 e8 e9 e10 e11 e14
  generalize hG : ((List.range 4).filter fun k : Nat => borne (q.bnd4 q.fl q.lt k q.wt)).map (fun k : Nat => D.int k) = G at e8 e9 e10 e11 e14
  generalize hN : (if q.res - least q > 0 then q.res - least q else 0) = N at e9 e10 e11 hstr e14
  have e12 := e11 (.own (.ins 0 [("told", q.parts)])) .no .no (.inl rfl) (.own (.lst [A, B, .int N]))
  have e13 := e11 (.val q.obj) (.own (.lst [A, B, .int N])) .no (.inr rfl) (.own (.lst [A, B, .int N]))
  have e15 := rL_ok (rp := rp) (mz := mz) (n := n + 13) (m := U mz a3 b3 c3) (sizes := .val (szD s0 s1 s2)) (top := .val (.int top)) (told := .val q.parts) (b4 := .val (.int q.fl)) (b5 := .val (.int q.lt)) (b6 := .val (.int q.sl)) (b7 := .val (.int q.wt)) (res := .val (.int r)) (plan := .val q.obj) (fails := .own (.lst F)) (x := x2) (slows := .own (.lst G)) (nd := .val (.int N)) hp hstr
  refine ⟨a3, b3, c3, ha3, ?_⟩
  rw [evFn_eq hp.f_law_right]
  refine run_ret rfl rfl rfl ?_
  refine step_nx (K := fun o => outR o = some (.d (.bl true), U mz a3 b3 c3)) e1 ?_
  refine step_nx (K := fun o => outR o = some (.d (.bl true), U mz a3 b3 c3)) e2 ?_
  refine step_nx (K := fun o => outR o = some (.d (.bl true), U mz a3 b3 c3)) e3 ?_
  refine step_nx (K := fun o => outR o = some (.d (.bl true), U mz a3 b3 c3)) e4 ?_
  refine step_nx (K := fun o => outR o = some (.d (.bl true), U mz a3 b3 c3)) e5 ?_
  refine step_nx (K := fun o => outR o = some (.d (.bl true), U mz a3 b3 c3)) e6 ?_
  refine step_nx (K := fun o => outR o = some (.d (.bl true), U mz a3 b3 c3)) e7 ?_
  refine step_nx (K := fun o => outR o = some (.d (.bl true), U mz a3 b3 c3)) e8 ?_
  refine step_nx (K := fun o => outR o = some (.d (.bl true), U mz a3 b3 c3)) e9 ?_
  refine step_nx (K := fun o => outR o = some (.d (.bl true), U mz a3 b3 c3)) e10 ?_
  refine step_nx (K := fun o => outR o = some (.d (.bl true), U mz a3 b3 c3)) (s1 := rtS mz (.val (szD s0 s1 s2)) (.val (.int top)) (.val q.parts) (.val (.int q.fl)) (.val (.int q.lt)) (.val (.int q.sl)) (.val (.int q.wt)) (.val (.int r)) (.val q.obj) (.own (.lst F)) x2 (.own (.lst G)) (.val (.int N)) (.own (.lst [A, B, .int N])) (.own (.lst [A, B, .int N])) .no (U mz a3 b3 c3)) (by rw [ex_asg, e12]; simp_arith! [rtS]) ?_
  refine step_nx (K := fun o => outR o = some (.d (.bl true), U mz a3 b3 c3)) (s1 := rtS mz (.val (szD s0 s1 s2)) (.val (.int top)) (.val q.parts) (.val (.int q.fl)) (.val (.int q.lt)) (.val (.int q.sl)) (.val (.int q.wt)) (.val (.int r)) (.val q.obj) (.own (.lst F)) x2 (.own (.lst G)) (.val (.int N)) (.own (.lst [A, B, .int N])) (.own (.lst [A, B, .int N])) (.own (.lst [A, B, .int N])) (U mz a3 b3 c3)) (by rw [ex_asg, e13]; simp_arith! [rtS]) ?_
  refine step_nx (K := fun o => outR o = some (.d (.bl true), U mz a3 b3 c3)) e15 ?_
  refine step_nx (K := fun o => outR o = some (.d (.bl true), U mz a3 b3 c3)) (e14 (.val q.obj)) ?_
  simp_arith! [exs_cons]
end
end Pv
end

section
set_option Elab.async false
set_option linter.all false
set_option maxRecDepth 100000
/-! K25: the law. -/
namespace Pv
open PySem
section
variable {P : Prog} {rp : D → Option Str}
variable (hp : Has P)
include hp
theorem lap_ok {n : Nat} {ns : List Int} {lap : Nat} {x : Sl} {m : List Ob} (hi : Plain P) (hr : Shows rp) (h0 : m[0]? = some (.tbl 0)) (h1 : m[1]? = some (.tbl 1)) :
    ∃ a b c : Int, turnCV (gAt P rp (n + 14)) [1] (.slot 1) [] (.call i_law_right [.e (.prom (.call i_law_urn [.e (.slot 0), .e (.slot 1)]))]) (.int lap) ⟨[.val (.scr (ns.map .int)), x], m⟩ =
      .ok (some (.bl true)) ⟨[.val (.scr (ns.map .int)), .val (.int lap)], m ++ [urnD a b c]⟩ := by
  obtain ⟨a, b, ha, e1⟩ := urn_ok (rp := rp) (n := n + 13) (ns := ns) (lap := lap) (m := m) hp
  obtain ⟨a', b', c', ha', e2⟩ := right_ok (rp := rp) (mz := m) (n := n) (b := b) (c := 0) hp ha hi h0 h1 hr
  refine ⟨a', b', c', ?_⟩
  have e3 : ev (gAt P rp (n + 14)) (.call i_law_urn [.e (.slot 0), .e (.slot 1)]) ⟨[.val (.scr (ns.map .int)), .val (.int lap)], m⟩ = .ok (.f (urnD a b 0)) ⟨[.val (.scr (ns.map .int)), .val (.int lap)], m⟩ := by simp_arith [e1]
  have e4 : ev (gAt P rp (n + 14)) (.prom (.call i_law_urn [.e (.slot 0), .e (.slot 1)])) ⟨[.val (.scr (ns.map .int)), .val (.int lap)], m⟩ = .ok (.d (.ref m.length)) ⟨[.val (.scr (ns.map .int)), .val (.int lap)], U m a b 0⟩ := by
    rw [ev_prom, e3, Out.bind_ok]; rfl
  have e5 : ev (gAt P rp (n + 14)) (.call i_law_right [.e (.prom (.call i_law_urn [.e (.slot 0), .e (.slot 1)]))]) ⟨[.val (.scr (ns.map .int)), .val (.int lap)], m⟩ = .ok (.d (.bl true)) ⟨[.val (.scr (ns.map .int)), .val (.int lap)], U m a' b' c'⟩ := by
    rw [ev_call, evA_cons, evA1_e, e4]
    simp_arith! [callG, gAt_call, e2, evA_nil]
  show ((asT (gAt P rp (n + 14)) (.slot 1) (.int lap) ⟨wipeN [1] [.val (.scr (ns.map .int)), x], m⟩).bind _) = _
  rw [show wipeN [1] [.val (.scr (ns.map .int)), x] = [Sl.val (.scr (ns.map .int)), .no] from rfl]
  simp_arith! [asT_slot, e5]
  rfl
theorem law_ok {n : Nat} {ns : List Int} (hi : Plain P) (hr : Shows rp) : ∃ m, evFn P rp (n + 16) i_law [] [.d (.scr (ns.map .int))] [.tbl 0, .tbl 1] = .ok (.d (.bl true)) ⟨[], m⟩ := by
  have L : ns.length = ns.length := rfl
  obtain ⟨k, hk, hkk⟩ : ∃ k : Nat, (k = 1 ∨ k = 2) ∧ (if (if (2 : Int) < (ns.length : Int) then (2 : Int) else (ns.length : Int)) > 1 then (if (2 : Int) < (ns.length : Int) then (2 : Int) else (ns.length : Int)) else 1) = (k : Int) := by
    by_cases h : 2 ≤ ns.length
    · refine ⟨2, .inr rfl, ?_⟩
      split <;> split at * <;> omega
    · refine ⟨1, .inl rfl, ?_⟩
      split <;> split at * <;> omega
  have he : evI (gAt P rp (n + 14)) (.range [(.o2 .max (.const (.int (1))) (.o2 .min (.o1 .len (.slotB 0)) (.const (.int (2)))))]) ⟨[.val (.scr (ns.map .int)), .no], [.tbl 0, .tbl 1]⟩ = .ok ((List.range k).map fun i : Nat => .int i) ⟨[.val (.scr (ns.map .int)), .no], [.tbl 0, .tbl 1]⟩ := by
    have h1 : evs (gAt P rp (n + 14)) [(.o2 .max (.const (.int (1))) (.o2 .min (.o1 .len (.slotB 0)) (.const (.int (2)))))] ⟨[.val (.scr (ns.map .int)), .no], [.tbl 0, .tbl 1]⟩ = .ok [.int (k : Int)] ⟨[.val (.scr (ns.map .int)), .no], [.tbl 0, .tbl 1]⟩ := by
      simp_arith! [List.length_map, hkk]
    rw [evI_range, h1, Out.bind_ok, range_lit (by omega), lift_some]
  have L0 : ([] : List D).length < LINE := le_line (by decide)
  have L1 : ([] ++ [D.bl true]).length < LINE := le_line (by decide)
  have hc : ∃ ρ m', compL (turnCV (gAt P rp (n + 14)) [1] (.slot 1) [] (.call i_law_right [.e (.prom (.call i_law_urn [.e (.slot 0), .e (.slot 1)]))])) ((List.range k).map fun i : Nat => .int i) [] ⟨[.val (.scr (ns.map .int)), .no], [.tbl 0, .tbl 1]⟩ = .ok (List.replicate k (.bl true)) ⟨ρ, m'⟩ := by
    obtain ⟨a1, b1, c1, e1⟩ := lap_ok (rp := rp) (n := n) (ns := ns) (lap := 0) (x := .no) (m := [.tbl 0, .tbl 1]) hp hi hr rfl rfl
    obtain ⟨a2, b2, c2, e2⟩ := lap_ok (rp := rp) (n := n) (ns := ns) (lap := 1) (x := .val (.int ((0 : Nat) : Int))) (m := [.tbl 0, .tbl 1] ++ [urnD a1 b1 c1]) hp hi hr rfl rfl
    rcases hk with rfl | rfl
    · refine ⟨[.val (.scr (ns.map .int)), .val (.int ((0 : Nat) : Int))], [.tbl 0, .tbl 1] ++ [urnD a1 b1 c1], ?_⟩
      show compL _ [.int ((0 : Nat) : Int)] [] _ = _
      rw [compL, e1, Out.bind_ok]
      simp only [L0, if_true]
      rfl
    · refine ⟨[.val (.scr (ns.map .int)), .val (.int ((1 : Nat) : Int))], [.tbl 0, .tbl 1] ++ [urnD a1 b1 c1] ++ [urnD a2 b2 c2], ?_⟩
      show compL _ [.int ((0 : Nat) : Int), .int ((1 : Nat) : Int)] [] _ = _
      rw [compL, e1, Out.bind_ok]
      simp only [L0, if_true]
      rw [compL, e2, Out.bind_ok]
      simp only [L1, if_true]
      rfl
  obtain ⟨ρ, m', ec⟩ := hc
  refine ⟨m', ?_⟩
  have ev1 : ∃ ρ2, ev (gAt P rp (n + 14)) (.comp [1] (.slot 1) (.range [(.o2 .max (.const (.int (1))) (.o2 .min (.o1 .len (.slotB 0)) (.const (.int (2)))))]) [] (.call i_law_right [.e (.prom (.call i_law_urn [.e (.slot 0), .e (.slot 1)]))])) ⟨[.val (.scr (ns.map .int)), .no], [.tbl 0, .tbl 1]⟩ = .ok (.f (.lst (List.replicate k (.bl true)))) ⟨ρ2, m'⟩ := by
    refine ⟨restore [.val (.scr (ns.map .int)), .no] [1] ρ, ?_⟩
    rw [ev, he, Out.bind_ok]
    rw [if_pos (c := ([1].all fun i => plainSl (getN [Sl.val (.scr (ns.map .int)), Sl.no] i)) = true) rfl]
    show (compL (turnCV _ _ _ _ _) _ _ ⟨[.val (.scr (ns.map .int)), .no], _⟩).bind _ = _
    rw [ec, Out.bind_ok]
  obtain ⟨ρ2, ev1⟩ := ev1
  rw [evFn_eq hp.f_law]
  refine run_ret rfl rfl rfl ?_
  simp only [fn_law, b_law]
  have hall : op1 rp .all (.lst (List.replicate k (.bl true))) = some (.d (.bl true)) := by
    rcases hk with rfl | rfl <;> rfl
  have e0 : ev (gAt P rp (n + 14)) (.o1 .all (.comp [1] (.slot 1) (.range [(.o2 .max (.const (.int (1))) (.o2 .min (.o1 .len (.slotB 0)) (.const (.int (2)))))]) [] (.call i_law_right [.e (.prom (.call i_law_urn [.e (.slot 0), .e (.slot 1)]))]))) ⟨[.val (.scr (ns.map .int)), .no], [.tbl 0, .tbl 1]⟩ = .ok (.d (.bl true)) ⟨ρ2, m'⟩ := by
    simp_arith! [ev1, hall]
  show outR (exs (gAt P rp (n + 14)) _ ⟨[.val (.scr (ns.map .int)), .no], [.tbl 0, .tbl 1]⟩) = _
  rw [exs_cons, ex_ret, e0]
  rfl
end
end Pv
end

section
set_option Elab.async false
set_option linter.all false
set_option maxRecDepth 100000
/-! K26: what the law shows can be shown. -/
namespace Pv
open PySem
theorem int_shown_len {i : Int} (h : i.natAbs < 10 ^ 9) : (PyData.shown (.int i)).length ≤ 10 := by
  have e := int_text_length_le10 (a := i) (k := 9) (by decide) h
  show (Str.ofString (toString i)).length ≤ 10
  rw [ofString_length]
  omega
theorem opt_py {x : Option Int} (h : ∀ k, x = some k → 0 ≤ k ∧ k ≤ 6) : ∃ p, toPy (optD x) = some p ∧ p.showable = true ∧ p.hasDict = false ∧ p.depth = 0 ∧ p.shown.length ≤ 10 := by
  cases x with
  | none => exact ⟨.none, rfl, rfl, rfl, rfl, by decide⟩
  | some k =>
    have := h k rfl
    refine ⟨.int k, rfl, ?_, rfl, rfl, int_shown_len (by omega)⟩
    show decide (k.natAbs.log2 < 1920) = true
    rw [decide_eq_true_eq]
    have : k.natAbs ≤ 6 := by omega
    exact Nat.lt_of_le_of_lt (Nat.log2_le_self _) (by omega)
theorem shows_rpD : Shows rpD := by
  intro x y z hx hy hz0 hz1
  obtain ⟨p, e1, s1, d1, p1, l1⟩ := opt_py hx
  obtain ⟨q, e2, s2, d2, p2, l2⟩ := opt_py hy
  have s3 : (PyData.int z).showable = true := by
    show decide (z.natAbs.log2 < 1920) = true
    rw [decide_eq_true_eq]
    have h1 : z.natAbs < 2 ^ 30 := by omega
    by_cases h0 : z.natAbs = 0
    · rw [h0]; decide
    · have := (Nat.log2_lt h0).mpr h1
      omega
  have l3 := int_shown_len (i := z) (by omega)
  have hin : ∀ a b c : PyData, a.shown.length ≤ 10 → b.shown.length ≤ 10 → c.shown.length ≤ 10 → (PyData.shown (.list [a, b, c])).length ≤ 39 := by
    intro a b c ha hb hc
    have := listText_len_le (PyData.shownAll [a, b, c])
    simp only [PyData.shownAll, List.map_cons, List.map_nil, List.sum_cons, List.sum_nil, List.length_cons, List.length_nil] at this
    show (listText (PyData.shownAll [a, b, c])).length ≤ 39
    simp only [PyData.shownAll]
    omega
  have h1 := hin p q (.int z) l1 l2 l3
  have h2 : (PyData.shown (.list [.list [p, q, .int z], .list [p, q, .int z]])).length ≤ 85 := by
    have := listText_len_le (PyData.shownAll [.list [p, q, .int z], .list [p, q, .int z]])
    simp only [PyData.shownAll, List.map_cons, List.map_nil, List.sum_cons, List.sum_nil, List.length_cons, List.length_nil] at this
    show (listText (PyData.shownAll [.list [p, q, .int z], .list [p, q, .int z]])).length ≤ 85
    simp only [PyData.shownAll]
    omega
  have hL : (85 : Nat) ≤ sizeLine := by rw [sizeLine_eq]; omega
  have hz : toPy (.int z) = some (.int z) := by rw [toPy]
  refine ⟨PyData.shown (.list [.list [p, q, .int z], .list [p, q, .int z]]), ?_⟩
  unfold rpD
  have ht : toPy (.lst [.lst [optD x, optD y, .int z], .lst [optD x, optD y, .int z]]) = some (.list [.list [p, q, .int z], .list [p, q, .int z]]) := by
    simp [toPy, toPys, e1, e2]
  rw [ht]
  have c1 : (PyData.list [.list [p, q, .int z], .list [p, q, .int z]]).showable = true := by
    rw [PyData.showable] at s3
    simp only [PyData.showable, PyData.showableAll, s1, s2, s3, Bool.and_self]
  have c2 : (PyData.list [.list [p, q, .int z], .list [p, q, .int z]]).hasDict = false := by simp [PyData.hasDict, PyData.hasDictAll, d1, d2]
  have c3 : (PyData.list [.list [p, q, .int z], .list [p, q, .int z]]).depth ≤ 60 := by simp [PyData.depth, PyData.depthAll, p1, p2]
  simp only [c1, c2, c3, Nat.le_trans h2 hL, decide_true, Bool.not_false, Bool.and_self, if_true]
end Pv
end

section
namespace Lk
open PySem PySem.W PySem.Calls PyProof.Rows Pv
theorem ob_eq (s : PySem.W.SharedT) : ob s = (L.hook 6).obs s.abs := Lw.obs_eq (HandSHeadRun.getT_eq s)
theorem run (w : World) : HandSHeadRun.RunEq R qv (L.hook 6) ob 20000 names w := by
  intro os
  have a := runA w os
  have b := runB w os
  have c := runC w os
  cases e : HandSHeadRun.endF (HandSHeadRun.stepQ (HandSHeadRun.denQ HandSHeadRun.tabQ) R.prog w) 20000 R.prog w os with
  | none => rw [e] at a; cases a
  | some s =>
    rw [e] at a b c
    simp only [Option.map_some, Option.some.injEq] at a b c
    simp only [Option.map_some, a, b, c]
    rfl
end Lk
end
set_option Elab.async false
set_option maxRecDepth 100000
set_option maxHeartbeats 0
namespace Lk
open Pv
theorem has : Has L.P := by constructor <;> kernel_rfl
theorem plain : Plain L.P := by constructor <;> kernel_rfl
end Lk
open PySem PySem.W PySem.Calls PyProof.Rows
theorem PySem.Challenge.cw_pledgehall_k69_whole_what_plans_bear_holds : PySem.Challenge.rw_pledgehall_k69_whole_what_plans_bear.Holds := by
  w_on; o_law
  refine HandSHeadRun.head_any (r := OpenLaw.row PySem.Challenge.rw_pledgehall_k69_whole_what_plans_bear) (q := view (OpenLaw.row PySem.Challenge.rw_pledgehall_k69_whole_what_plans_bear).prog [84]) (H := Lk.L.hook 6) (ob := Lk.ob) (M := 20000) (loose := Lk.names) (d := HandSHeadRun.topDef (OpenLaw.row PySem.Challenge.rw_pledgehall_k69_whole_what_plans_bear).prog 84) (kwd := []) Lk.ob_eq
    (by kernel_rfl) (fun s => by kernel_rfl) Lk.run (by kernel_rfl) (by kernel_rfl) (by kernel_rfl) (by rfl) (by first | assumption | decide +kernel) (by decide +kernel) ⟨rfl, rfl, rfl, rfl, rfl, by decide +kernel⟩ ?hw ?hc
  case hw => w_witness2
  case hc =>
    refine Pv.Lw.ev_walk (l := PySem.Challenge.rw_pledgehall_k69_whole_what_plans_bear) (n := 63) (k := 16) (f := Pv.i_law) (L := Lk.L) rfl (by decide) (by kernel_rfl) (by decide +kernel) ⟨rfl, by decide, by decide⟩ (by kernel_rfl) ?_
    intro ns hl hb
    exact Pv.law_ok (n := 0) Lk.has Lk.plain Pv.shows_rpD
end
end
