import PyProof.Rows.All
import Wide.All
import OpenK.AllK
import Wide.FinOn
import HandS.ForMost
import HandS.ForSpec
import HandS.WordsExc
import HandS.Walk
import HandS.Wide
import HandS.SortInts
import HandS.SortRule
import HandS.IsInst
import HandS.Conv
import HandS.NoneIn
import HandS.Zip
import HandS.Deep
import HandS.TupSets
import HandS.TupAny
import HandS.Strs
import HandS.Text
import HandS.CallSlots
import HandS.Style
import HandS.SortOrd
import KE.SortData
import KE.DataMinMax
import HandS.ExcIs
import KE.GoesMore
import HandS.SetFor
import HandS.Defaults
import HandS.Head0
import HandS.Head1
import HandS.Head2
import HandS.HeadEnd
import HandS.HeadHook1
import HandS.HeadHook2
import PySem.Challenge.RW_clapcanons_k54_whole_several
set_option Elab.async false
set_option linter.all false
set_option maxRecDepth 100000
set_option maxHeartbeats 4000000
/-! Mz: a small pure evaluator for the defs of a text, and that the machine agrees with it. Part 1: data, operations, evaluator. -/
namespace Mz
open PySem PySem.Spec PyProof.Rows L2

abbrev D := PyData
/-- how a piece ends: no word, a value, an exception of the c-th class -/
inductive Out (α : Type) where
  | bad | ok (a : α) | exc (c : Nat)
def Out.bnd {α β : Type} : Out α → (α → Out β) → Out β
  | .bad, _ => .bad
  | .ok a, f => f a
  | .exc c, _ => .exc c
@[simp] theorem bnd_ok {α β : Type} (a : α) (f : α → Out β) : (Out.ok a).bnd f = f a := rfl
@[simp] theorem bnd_bad {α β : Type} (f : α → Out β) : (Out.bad : Out α).bnd f = .bad := rfl
@[simp] theorem bnd_exc {α β : Type} (c : Nat) (f : α → Out β) : (Out.exc c : Out α).bnd f = .exc c := rfl

inductive Slot where
  | un | py (d : D) | own (ds : List D)
abbrev En := List Slot
def thaw : En → En := List.map fun s => match s with
  | .own ds => .py (.list ds)
  | s => s
/-- the script itself -/
def scr (ns : List Int) : D := .dict [(.none, .list (ns.map .int))]

/-! ### operations -/
def two64 : Int := 18446744073709551616
def two62 : Int := 4611686018427387904
def SZ : Nat := 16777216
def opBin (op : Operator) (x y : D) : Out D :=
  match op, x, y with
  | .Add, .int i, .int j => .ok (.int (i + j))
  | .Add, .list a, .list b => if a.length + b.length ≤ SZ then .ok (.list (a ++ b)) else .bad
  | .Add, .tuple a, .tuple b => if a.length + b.length ≤ SZ then .ok (.tuple (a ++ b)) else .bad
  | .Add, .str a, .str b => if a.length + b.length ≤ SZ then .ok (.str (a ++ b)) else .bad
  | .Sub, .int i, .int j => .ok (.int (i - j))
  | .Mult, .int i, .int j => if (-two64 < i ∧ i < two64) ∨ (-two64 < j ∧ j < two64) then .ok (.int (i * j)) else .bad
  | .Mult, .list a, .int k => if 0 ≤ k ∧ k < two62 ∧ a.length * k.toNat ≤ SZ then .ok (.list (List.replicate k.toNat a).flatten) else .bad
  | .Mult, .str z, .int k => if 2 ≤ k ∧ k ≤ 1000 ∧ 1 ≤ z.length ∧ z.length ≤ 1000 then .ok (.str ⟨(List.replicate k.toNat z.cps).foldl (· ++ ·) #[]⟩) else .bad
  | .FloorDiv, .int i, .int j => if 0 < j ∧ j < two64 then .ok (.int (i / j)) else .bad
  | .Mod, .int i, .int j => if 0 < j then .ok (.int (i % j)) else .bad
  | .Pow, .int i, .int j => if 0 ≤ j ∧ j ≤ 1000 ∧ 0 ≤ i ∧ i < two64 then .ok (.int (i ^ j.toNat)) else .bad
  | _, _, _ => .bad
/-- the ints of a tuple -/
def dInt? : D → Option Int
  | .int i => some i
  | _ => none
def allInts : List D → Option (List Int)
  | [] => some []
  | d :: r => match d, allInts r with
    | .int i, some l => some (i :: l)
    | _, _ => none
def dBool? : D → Option Bool
  | .bool b => some b
  | _ => none
def allBools : List D → Option (List Bool)
  | [] => some []
  | d :: r => match d, allBools r with
    | .bool b, some l => some (b :: l)
    | _, _ => none
/-- neither lists nor tuples -/
def flatD : D → Bool
  | .none => true
  | .bool _ => true
  | .int _ => true
  | .str _ => true
  | _ => false
def lexI : List Int → List Int → Bool
  | _, [] => false
  | [], _ :: _ => true
  | x :: xs, y :: ys => if x = y then lexI xs ys else decide (x < y)
def memD (x : D) (ds : List D) : Bool := ds.any fun y => PyData.eqv y x
def opCmp (op : CmpOp) (x y : D) : Out Bool :=
  match op, x, y with
  | .Lt, .int i, .int j => .ok (decide (i < j))
  | .LtE, .int i, .int j => .ok (decide (i ≤ j))
  | .Gt, .int i, .int j => .ok (decide (j < i))
  | .GtE, .int i, .int j => .ok (decide (j ≤ i))
  | .Lt, .tuple a, .tuple b => match allInts a, allInts b with
    | some l, some m => .ok (lexI l m)
    | _, _ => .bad
  | .NotEq, .dict [(.none, .list zs)], .list ys => if SeqAt.shaped (.list zs) && SeqAt.shaped (.list ys) then .ok (!PyData.eqv (.list zs) (.list ys)) else .bad
  | .Eq, x, y => if SeqAt.shaped x && SeqAt.shaped y then .ok (PyData.eqv x y) else .bad
  | .NotEq, x, y => if SeqAt.shaped x && SeqAt.shaped y then .ok (!PyData.eqv x y) else .bad
  | .In, x, .list ys => if SeqAt.shaped x && SeqAt.shaped (.list ys) then .ok (memD x ys) else .bad
  | .NotIn, x, .list ys => if SeqAt.shaped x && SeqAt.shaped (.list ys) then .ok (!memD x ys) else .bad
  | .In, x, .tuple ys => if flatD x && ys.all flatD then .ok (memD x ys) else .bad
  | .NotIn, x, .tuple ys => if flatD x && ys.all flatD then .ok (!memD x ys) else .bad
  | .In, .str a, .str b => .ok (!(Builtin.Str.occurrences b a 0 b.length 1).isEmpty)
  | .NotIn, .str a, .str b => .ok (!(!(Builtin.Str.occurrences b a 0 b.length 1).isEmpty))
  | .Is, .bool a, .bool b => .ok (decide (a = b))
  | .IsNot, .bool a, .bool b => .ok (!decide (a = b))
  | .Is, x, .none => .ok (match x with | .none => true | _ => false)
  | .IsNot, x, .none => .ok (match x with | .none => false | _ => true)
  | _, _, _ => .bad
def opIx (x i : D) : Out D :=
  match x, i with
  | .list a, .int k => match atI a k with
    | some d => .ok d
    | none => .bad
  | .tuple a, .int k => match atI a k with
    | some d => .ok d
    | none => .bad
  | .dict [(.none, .list a)], .int k => match atI a k with
    | some d => .ok d
    | none => .bad
  | .str z, .int k => match atI z.cps.toList k with
    | some c => if z.length ≤ SZ then .ok (.str ⟨#[c]⟩) else .bad
    | none => .bad
  | _, _ => .bad
def cutD (xs : List D) (lo hi : Option Int) : List D := (xs.drop (HT.sIx xs.length 0 lo)).take (HT.sIx xs.length xs.length hi - HT.sIx xs.length 0 lo)
def opSlc (x : D) (lo hi : Option Int) : Out D :=
  match x with
  | .list a => .ok (.list (cutD a lo hi))
  | .tuple a => .ok (.tuple (cutD a lo hi))
  | .str z => if z.length ≤ SZ then .ok (.str (cutS z lo hi)) else .bad
  | _ => .bad
/-- the texts of a list -/
def allStrs : List D → Option (List Str)
  | [] => some []
  | d :: r => match d, allStrs r with
    | .str s, some l => some (s :: l)
    | _, _ => none
def opJoin (x y : D) : Out D :=
  match x, y with
  | .str s, .list ds => match allStrs ds with
    | some ys => if (ys.map (·.length)).sum + ys.length * s.length ≤ 16777216 then .ok (.str (Txt.join s ys)) else .bad
    | none => .bad
  | _, _ => .bad
/-- the signs of a text -/
def charsD (z : Str) : List D := z.cps.toList.map fun c => .str ⟨#[c]⟩
/-! sorting: by insertion -/
def ins {α : Type} (lt : α → α → Bool) (x : α) : List α → List α
  | [] => [x]
  | y :: r => if lt y x then y :: ins lt x r else x :: y :: r
def isort {α : Type} (lt : α → α → Bool) : List α → List α
  | [] => []
  | x :: r => ins lt x (isort lt r)
def ltI (i j : Int) : Bool := decide (i < j)
/-- lists of tuples of ints -/
def allTups : List D → Option (List (List Int))
  | [] => some []
  | d :: r => match d, allTups r with
    | .tuple a, some l => match allInts a with
      | some ns => some (ns :: l)
      | none => none
    | _, _ => none
def tupI (ns : List Int) : D := .tuple (ns.map .int)
def lstI (ns : List Int) : D := .list (ns.map .int)
def minBy {α : Type} (lt : α → α → Bool) : List α → Option α
  | [] => none
  | x :: r => some (r.foldl (fun m y => if lt y m then y else m) x)
def maxBy {α : Type} (lt : α → α → Bool) : List α → Option α
  | [] => none
  | x :: r => some (r.foldl (fun m y => if lt m y then y else m) x)

inductive Bl where
  | len | sorted | min | max | sum | all | any | tuple | list
  deriving DecidableEq
def Bl.nm : Bl → Str
  | .len => "len" | .sorted => "sorted" | .min => "min" | .max => "max" | .sum => "sum" | .all => "all" | .any => "any" | .tuple => "tuple" | .list => "list"
def opLen : D → Out D
  | .list a => .ok (.int a.length)
  | .tuple a => .ok (.int a.length)
  | .dict [(.none, .list a)] => .ok (.int a.length)
  | .str z => if z.length ≤ SZ then .ok (.int z.length) else .bad
  | _ => .bad
/-- data that sorted takes: alike, tuples that are not empty -/
def srtOk (a : List D) : Bool := (a.all fun d => a.all fun e => PySem.W.alike d e) && (a.all fun d => match d with
  | .tuple (_ :: _) => true
  | _ => false) && a.all SeqAt.shaped
/-- the first of the least of some data -/
def minR : List D → Out D
  | x :: r => .ok (PySem.W.minD x r)
  | [] => .bad
def opSorted : D → Out D
  | .list a => match allInts a with
    | some ns => .ok (lstI (isort ltI ns))
    | none => if srtOk a = true then .ok (.list (a.mergeSort (PySem.W.dataLe false fun d => d))) else .bad
  | .tuple a => match allInts a with
    | some ns => .ok (lstI (isort ltI ns))
    | none => .bad
  | _ => .bad
def opBl (b : Bl) (xs : List D) : Out D :=
  match b, xs with
  | .len, [x] => opLen x
  | .sorted, [x] => opSorted x
  | .min, [.int i, .int j] => .ok (.int (if j < i then j else i))
  | .max, [.int i, .int j] => .ok (.int (if j > i then j else i))
  | .min, [.list a] => match allInts a with
    | some ns => match minBy ltI ns with
      | some m => .ok (.int m)
      | none => .bad
    | none => match allTups a with
      | some ts => match minBy lexI ts with
        | some m => .ok (tupI m)
        | none => .bad
      | none => if srtOk a = true then minR a else .bad
  | .max, [.list a] => match allInts a with
    | some ns => match maxBy ltI ns with
      | some m => .ok (.int m)
      | none => .bad
    | none => .bad
  | .sum, [.list a] => match allInts a with
    | some ns => .ok (.int ns.sum)
    | none => .bad
  | .all, [.list a] => match allBools a with
    | some bs => .ok (.bool (bs.all id))
    | none => .bad
  | .any, [.list a] => match allBools a with
    | some bs => .ok (.bool (bs.any id))
    | none => .bad
  | .tuple, [.list a] => .ok (.tuple a)
  | .tuple, [.tuple a] => .ok (.tuple a)
  | .list, [.list a] => .ok (.list a)
  | .list, [.tuple a] => .ok (.list a)
  | _, _ => .bad
def rngOk (a b : Int) : Bool := decide (-two62 ≤ a ∧ a < two62 ∧ -two62 ≤ b ∧ b < two62 ∧ b - a ≤ (SZ : Int))
def rngD (a b : Int) : List D := (List.range (b - a).toNat).map fun (i : Nat) => PyData.int (a + (i : Int))
/-- range -/
def opRng (x y : D) : Out (List D) :=
  match x, y with
  | .int a, .int b => if rngOk a b then .ok (rngD a b) else .bad
  | _, _ => .bad
/-- the built-in classes that isinstance is asked for -/
inductive Cl where
  | int | bool | tuple | list | str
  deriving DecidableEq
def Cl.nm : Cl → String
  | .int => "int" | .bool => "bool" | .tuple => "tuple" | .list => "list" | .str => "str"
def isD (c : Cl) : D → Out Bool
  | .none => .ok false
  | .bool _ => .ok (match c with | .int => true | .bool => true | _ => false)
  | .int _ => .ok (match c with | .int => true | _ => false)
  | .str _ => .ok (match c with | .str => true | _ => false)
  | .list _ => .ok (match c with | .list => true | _ => false)
  | .tuple _ => .ok (match c with | .tuple => true | _ => false)
  | .dict _ => .bad

/-! ### the small language -/
inductive Tg where
  | n (i : Nat) | t (is : List Nat)
inductive M where
  | nm (i : Nat) | ci (i : Int) | cb (b : Bool) | cs (s : Str) | cn | gi (x : Str) (v : Int)
  | bin (op : Operator) (a b : M) | neg (a : M)
  | cmp (op : CmpOp) (a b : M) | chn (op op' : CmpOp) (a b c : M)
  | b1 (a : M) | band (a b : M) | bor (a b : M) | bnot (a : M) | ite (c a b : M)
  | tup (as : M) | lst (as : M)
  | sub (a i : M) | slc (a lo hi : M)
  | call (f : Nat) (as : M) | blt (b : Bl) (as : M) | isi (a : M) (c : Cl)
  | lrg (a b : M) | trg (a b : M)
  | idx (a b : M)
  | lc (ow : List (Str × Nat)) (t : Tg) (it c e : M)
  | rg (a b : M) | enm (a : M) | zp (a b : M)
  | nil | cons (a as : M)
  | pass | xpr (e : M) | asg (t : Tg) (e : M) | aso (i : Nat) (e : M) | par (i j : Nat) (a b : M) | par3 (i j l : Nat) (a b c : M)
  | ret (e : M) | ifs (c a b : M) | fr (t : Tg) (it body : M) (tmp : List Nat) | whl (c b : M) | sq (a b : M)
  | app (i : Nat) (e : M) | ext (i : Nat) (e : M) | sti (i : Nat) (k e : M) | rse (c : Nat)
  | sset (a : M) | lset (a : M) | rev (a : M) | lr3 (a b c : M) | rg3 (a b c : M) | lc2 (ow : List (Str × Nat)) (t : Tg) (it : M) (vs : List Nat) (t1 : Tg) (it1 e : M)
  | cnt (a b : M) | cix (fs : List Nat) (w as : M) | gs (x s : Str) | joi (a b : M)
  | cc (f : Nat) (a b : M)
  | tri (b : M) (i : Nat) (js : List Nat) | tr2 (b : M) (i j n : Nat) (x y : M) | own2 (i j : Nat) | owr (i j : Nat) (a : M)

/-- a test's word -/
def asB : Out D → Out Bool
  | .ok (.bool b) => .ok b
  | .exc c => .exc c
  | _ => .bad
/-- a target takes a value -/
def setE (ρ : En) : List Nat → List D → En
  | i :: is, d :: ds => setE (ρ.set i (.py d)) is ds
  | _, _ => ρ
def asgT (t : Tg) (d : D) (ρ : En) : Option En :=
  match t with
  | .n i => some (ρ.set i (.py d))
  | .t is => match d with
    | .tuple ds => if ds.length = is.length then some (setE ρ is ds) else none
    | .list ds => if ds.length = is.length then some (setE ρ is ds) else none
    | _ => none
def fgt : En → List Nat → En
  | ρ, [] => ρ
  | ρ, v :: vs => (fgt ρ vs).set v .un
/-- a comprehension's turns -/
def compL (f : D → Out (Option D)) : List D → Out (List D)
  | [] => .ok []
  | x :: r => match f x with
    | .ok (some y) => match compL f r with
      | .ok l => .ok (y :: l)
      | _ => .bad
    | .ok none => match compL f r with
      | .ok l => .ok l
      | _ => .bad
    | _ => .bad
def enmD : Nat → List D → List D
  | _, [] => []
  | k, x :: r => .tuple [.int (k : Int), x] :: enmD (k + 1) r
def zipD : List D → List D → List D
  | x :: a, y :: b => .tuple [x, y] :: zipD a b
  | _, _ => []
/-- a range's first bound: left out, it is 0 -/
def zOr (a : M) (o : Out D) : Out D := match a with
  | .nil => .ok (.int 0)
  | _ => o
def opIndex (xs : List D) (x : D) : Out D :=
  if SeqAt.shaped (.list xs) && SeqAt.shaped x then
    match xs.findIdx? fun y => PyData.eqv y x with
    | some j => .ok (.int (j : Int))
    | none => .bad
  else .bad
/-! sets: each member once, in order -/
def uins {α : Type} (lt : α → α → Bool) (x : α) : List α → List α
  | [] => [x]
  | y :: r => if lt x y = true then x :: y :: r else if lt y x = true then y :: uins lt x r else y :: r
def usort {α : Type} (lt : α → α → Bool) : List α → List α
  | [] => []
  | x :: r => uins lt x (usort lt r)
/-- tuples of one length, their ints below 64 -/
def tupsOk (ts : List (List Int)) : Bool := decide (ts.length < 64) && ts.all fun t => decide (1 ≤ t.length) && decide (t.length = (ts.headD []).length) && t.all fun i => decide (0 ≤ i ∧ i < 64)
def opSset : D → Out D
  | .list a => match allInts a with
    | some ns => if ns.length < 64 then .ok (lstI (usort ltI ns)) else .bad
    | none => match allTups a with
      | some ts => if tupsOk ts = true then .ok (.list ((usort lexI ts).map tupI)) else .bad
      | none => .bad
  | _ => .bad
def opLset : D → Out D
  | .list a => match allInts a with
    | some ns => if ns.length < 64 then .ok (.int (usort ltI ns).length) else .bad
    | none => .bad
  | .tuple a => match allInts a with
    | some ns => if ns.length < 64 then .ok (.int (usort ltI ns).length) else .bad
    | none => .bad
  | _ => .bad
def opRev : D → Out D
  | .list a => .ok (.list a.reverse)
  | .tuple a => .ok (.tuple a.reverse)
  | _ => .bad
def opCnt (x y : D) : Out D :=
  match x, y with
  | .list a, .bool b => match allBools a with
    | some bs => .ok (.int (bs.count b))
    | none => .bad
  | .list a, .int b => match allInts a with
    | some bs => .ok (.int (bs.count b))
    | none => .bad
  | _, _ => .bad
/-- range with a step that goes up -/
def rg3N (a b c : Int) : Nat := (Builtin.Range.rangeSize a b c).toNat
def rg3Ok (a b c : Int) : Bool := decide (0 < c ∧ c < 1000000 ∧ rg3N a b c ≤ SZ) && Builtin.Range.small a b c
def rg3D (a b c : Int) : List D := (List.range (rg3N a b c)).map fun (i : Nat) => PyData.int (a + (i : Int) * c)
def opRng3 (x y z : D) : Out (List D) :=
  match x, y, z with
  | .int a, .int b, .int c => if rg3Ok a b c then .ok (rg3D a b c) else .bad
  | _, _, _ => .bad
/-- a comprehension's outer turns -/
def flatL (f : D → Out (List D)) : List D → Out (List D)
  | [] => .ok []
  | x :: r => match f x with
    | .ok l => match flatL f r with
      | .ok l2 => .ok (l ++ l2)
      | _ => .bad
    | _ => .bad
/-- f(x, y, {}): y a tuple of at most 12 ints; o: what f(x, y) says without the table -/
def opCC (o : Out D) (y : D) : Out D :=
  match y with
  | .tuple ts => match allInts ts with
    | some ns => if ns.length ≤ 12 then (match o with
      | .ok d => .ok d
      | _ => .bad) else .bad
    | none => .bad
  | _ => .bad
section
variable (cal : Nat → List D → Out D)
mutual
def evE (ρ : En) : M → Out D
  | .nm i => match ρ[i]? with
    | some (.py d) => .ok d
    | _ => .bad
  | .ci i => .ok (.int i)
  | .cb b => .ok (.bool b)
  | .cs s => .ok (.str s)
  | .cn => .ok .none
  | .gi _ v => .ok (.int v)
  | .bin op a b => (evE ρ a).bnd fun x => (evE ρ b).bnd fun y => opBin op x y
  | .neg a => (evE ρ a).bnd fun x => match x with
    | .int i => .ok (.int (-i))
    | _ => .bad
  | .cmp op a b => (evE ρ a).bnd fun x => (evE ρ b).bnd fun y => (opCmp op x y).bnd fun k => .ok (.bool k)
  | .chn op op' a b c => (evE ρ a).bnd fun x => (evE ρ b).bnd fun y => (opCmp op x y).bnd fun k =>
      if k = true then (evE ρ c).bnd fun z => (opCmp op' y z).bnd fun k' => .ok (.bool k') else .ok (.bool false)
  | .b1 a => evE ρ a
  | .band a b => (asB (evE ρ a)).bnd fun k => if k = true then (asB (evE ρ b)).bnd fun k' => .ok (.bool k') else .ok (.bool false)
  | .bor a b => (asB (evE ρ a)).bnd fun k => if k = true then .ok (.bool true) else (asB (evE ρ b)).bnd fun k' => .ok (.bool k')
  | .bnot a => (asB (evE ρ a)).bnd fun k => .ok (.bool (!k))
  | .ite c a b => (asB (evE ρ c)).bnd fun k => if k = true then evE ρ a else evE ρ b
  | .tup as => (evA ρ as).bnd fun xs => if xs.length ≤ SZ then .ok (.tuple xs) else .bad
  | .lst as => (evA ρ as).bnd fun xs => if xs.length ≤ SZ then .ok (.list xs) else .bad
  | .sub a i => (evE ρ a).bnd fun x => (evE ρ i).bnd fun y => opIx x y
  | .slc a lo hi => (evE ρ a).bnd fun x => (evO ρ lo).bnd fun l => (evO ρ hi).bnd fun h => opSlc x l h
  | .call f as => (evA ρ as).bnd fun xs => cal f xs
  | .blt b as => (evA ρ as).bnd fun xs => opBl b xs
  | .isi a c => (evE ρ a).bnd fun x => (isD c x).bnd fun k => .ok (.bool k)
  | .lrg a b => (zOr a (evE ρ a)).bnd fun x => (evE ρ b).bnd fun y => (opRng x y).bnd fun l => .ok (.list l)
  | .trg a b => (zOr a (evE ρ a)).bnd fun x => (evE ρ b).bnd fun y => (opRng x y).bnd fun l => .ok (.tuple l)
  | .idx a b => (evE ρ a).bnd fun x => match x with
    | .list xs => (evE ρ b).bnd fun y => opIndex xs y
    | _ => .bad
  | .lc ow t it c e => (evI ρ it).bnd fun xs => (compL (fun x => match asgT t x (fgt ρ (ow.map (·.2))) with
      | some ρ' => match c with
        | .nil => (evE ρ' e).bnd fun y => .ok (some y)
        | _ => (asB (evE ρ' c)).bnd fun k => if k = true then (evE ρ' e).bnd fun y => .ok (some y) else .ok none
      | none => .bad) xs).bnd fun l => .ok (.list l)
  | .sset a => (evE ρ a).bnd fun x => opSset x
  | .lset a => (evE ρ a).bnd fun x => opLset x
  | .rev a => (evE ρ a).bnd fun x => opRev x
  | .lr3 a b c => (evE ρ a).bnd fun x => (evE ρ b).bnd fun y => (evE ρ c).bnd fun z => (opRng3 x y z).bnd fun l => .ok (.list l)
  | .lc2 ow t it vs t1 it1 e => (evI ρ it).bnd fun xs => (flatL (fun x => match asgT t x (fgt ρ (ow.map (·.2))) with
      | some ρ1 => (evI ρ1 it1).bnd fun ys => compL (fun y => match asgT t1 y (fgt ρ1 vs) with
        | some ρ2 => (evE ρ2 e).bnd fun z => .ok (some z)
        | none => .bad) ys
      | none => .bad) xs).bnd fun l => if l.length ≤ SZ then .ok (.list l) else .bad
  | .gs _ s => .ok (.str s)
  | .joi a b => (evE ρ a).bnd fun x => match x with
    | .str s => (evE ρ b).bnd fun y => opJoin (.str s) y
    | _ => .bad
  | .cnt a b => (evE ρ a).bnd fun x => match x with
    | .list xs => (evE ρ b).bnd fun y => opCnt (.list xs) y
    | _ => .bad
  | .cix fs w as => (evE ρ w).bnd fun x => match x with
    | .int i => match atI fs i with
      | some j => (evA ρ as).bnd fun xs => cal j xs
      | none => .bad
    | _ => .bad
  | .cc f a b => (evE ρ a).bnd fun x => (evE ρ b).bnd fun y => opCC (cal f [x, y]) y
  | _ => .bad
def evA (ρ : En) : M → Out (List D)
  | .nil => .ok []
  | .cons a as => (evE ρ a).bnd fun x => (evA ρ as).bnd fun xs => .ok (x :: xs)
  | _ => .bad
/-- a slice's bound -/
def evO (ρ : En) : M → Out (Option Int)
  | .nil => .ok none
  | .b1 a => (evE ρ a).bnd fun x => match x with
    | .int i => .ok (some i)
    | _ => .bad
  | _ => .bad
/-- what is walked -/
def evI (ρ : En) : M → Out (List D)
  | .rg3 a b c => (evE ρ a).bnd fun x => (evE ρ b).bnd fun y => (evE ρ c).bnd fun z => opRng3 x y z
  | .rg a b => (zOr a (evE ρ a)).bnd fun x => (evE ρ b).bnd fun y => opRng x y
  | .enm a => (evE ρ a).bnd fun x => match x with
    | .list xs => .ok (enmD 0 xs)
    | .str z => if z.length ≤ SZ then .ok (enmD 0 (charsD z)) else .bad
    | _ => .bad
  | .zp a b => (evE ρ a).bnd fun x => (evE ρ b).bnd fun y => match x, y with
    | .list xs, .list ys => .ok (zipD xs ys)
    | .tuple xs, .tuple ys => .ok (zipD xs ys)
    | _, _ => .bad
  | .b1 a => (evE ρ a).bnd fun x => match x with
    | .list xs => .ok xs
    | .tuple xs => .ok xs
    | .str z => if z.length ≤ SZ then .ok (charsD z) else .bad
    | _ => .bad
  | _ => .bad
end
end
end Mz

/-! Part 2: statements, runs, and the look that says that a piece of the text is a piece of the small language. -/
namespace Mz
open PySem PySem.Spec PyProof.Rows L2

inductive SO where
  | bad | nx (ρ : En) | ret (d : D) | exc (c : Nat) (ρ : En)
def isOwn : Option Slot → Bool
  | some (.own _) => true
  | _ => false
/-- does a piece name a list that is still being made -/
def ment (ρ : En) : M → Bool
  | .nm i => isOwn ρ[i]?
  | .bin _ a b => ment ρ a || ment ρ b
  | .neg a => ment ρ a
  | .cmp _ a b => ment ρ a || ment ρ b
  | .chn _ _ a b c => ment ρ a || ment ρ b || ment ρ c
  | .b1 a => ment ρ a
  | .band a b => ment ρ a || ment ρ b
  | .bor a b => ment ρ a || ment ρ b
  | .bnot a => ment ρ a
  | .ite c a b => ment ρ c || ment ρ a || ment ρ b
  | .tup as => ment ρ as
  | .lst as => ment ρ as
  | .sub a i => ment ρ a || ment ρ i
  | .slc a l h => ment ρ a || ment ρ l || ment ρ h
  | .call _ as => ment ρ as
  | .blt _ as => ment ρ as
  | .isi a _ => ment ρ a
  | .lrg a b => ment ρ a || ment ρ b
  | .trg a b => ment ρ a || ment ρ b
  | .idx a b => ment ρ a || ment ρ b
  | .lc _ _ it c e => ment ρ it || ment ρ c || ment ρ e
  | .rg a b => ment ρ a || ment ρ b
  | .enm a => ment ρ a
  | .zp a b => ment ρ a || ment ρ b
  | .cons a as => ment ρ a || ment ρ as
  | .sset a => ment ρ a
  | .lset a => ment ρ a
  | .rev a => ment ρ a
  | .lr3 a b c => ment ρ a || ment ρ b || ment ρ c
  | .rg3 a b c => ment ρ a || ment ρ b || ment ρ c
  | .lc2 _ _ it _ _ it1 e => ment ρ it || ment ρ it1 || ment ρ e
  | .cnt a b => ment ρ a || ment ρ b
  | .joi a b => ment ρ a || ment ρ b
  | .cix _ w as => ment ρ w || ment ρ as
  | .cc _ a b => ment ρ a || ment ρ b
  | _ => false
def scalD : D → Bool
  | .none => true
  | .bool _ => true
  | .int _ => true
  | .str _ => true
  | _ => false
def Out.wth (o : Out D) (k : D → SO) (ρ : En) : SO :=
  match o with
  | .ok d => k d
  | .exc c => .exc c ρ
  | .bad => .bad
@[simp] theorem wth_ok (d : D) (k : D → SO) (ρ : En) : (Out.ok d).wth k ρ = k d := rfl
@[simp] theorem wth_exc (c : Nat) (k : D → SO) (ρ : En) : (Out.exc c : Out D).wth k ρ = .exc c ρ := rfl
@[simp] theorem wth_bad (k : D → SO) (ρ : En) : (Out.bad : Out D).wth k ρ = .bad := rfl
def forL (f : D → En → SO) (tmp : List Nat) : List D → En → SO
  | [], ρ => .nx ρ
  | x :: r, ρ => match f x ρ with
    | .nx ρ' => forL f tmp r (fgt ρ' tmp)
    | o => o
def whL (c : En → Out D) (f : En → SO) : Nat → En → SO
  | 0, _ => .bad
  | n + 1, ρ => match c ρ with
    | .ok (.bool true) => match f ρ with
      | .nx ρ' => whL c f n ρ'
      | o => o
    | .ok (.bool false) => .nx ρ
    | .exc k => .exc k ρ
    | _ => .bad
/-- a constant's value -/
def kD : M → Option D
  | .cn => some .none
  | .cs s => some (.str s)
  | _ => none
def kE : M → Expr → Bool
  | .cn, .Constant .none _ _ => true
  | .cs s, .Constant (.str s') _ _ => decide (s = s')
  | _, _ => false
def whMax : Nat := 100000
def isFresh : M → Bool
  | .lst _ => true
  | .bin .Mult (.lst _) _ => true
  | .bin .Add _ _ => true
  | .lc _ _ _ _ _ => true
  | _ => false
section
variable (cal : Nat → List D → Out D)
/-- an expression of a statement: lists that are being made may be read; if the value may hold one of them, they are all done -/
def evX (ρ : En) (e : M) (k : D → En → SO) : SO :=
  if ment ρ e = true then (evE cal (thaw ρ) e).wth (fun d => k d (if scalD d = true then ρ else thaw ρ)) ρ
  else (evE cal ρ e).wth (fun d => k d ρ) ρ
def evS : M → En → SO
  | .nil, ρ => .nx ρ
  | .pass, ρ => .nx ρ
  | .xpr e, ρ => evX cal ρ e fun _ ρ' => .nx ρ'
  | .asg t e, ρ => evX cal ρ e fun d ρ' => match asgT t d ρ' with
    | some ρ2 => .nx ρ2
    | none => .bad
  | .aso i e, ρ => if isFresh e && !ment ρ e then (evE cal ρ e).wth (fun d => match d with
      | .list ds => .nx (ρ.set i (.own ds))
      | _ => .bad) ρ
    else .bad
  | .par i j a b, ρ => if ment ρ a || ment ρ b then
      (evE cal (thaw ρ) a).wth (fun x => (evE cal (thaw ρ) b).wth (fun y => .nx (((thaw ρ).set i (.py x)).set j (.py y))) (thaw ρ)) (thaw ρ) else
      (evE cal ρ a).wth (fun x => (evE cal ρ b).wth (fun y => .nx ((ρ.set i (.py x)).set j (.py y))) ρ) ρ
  | .par3 i j l a b c, ρ => if ment ρ a || ment ρ b || ment ρ c then .bad else
      (evE cal ρ a).wth (fun x => (evE cal ρ b).wth (fun y => (evE cal ρ c).wth (fun z => .nx (((ρ.set i (.py x)).set j (.py y)).set l (.py z))) ρ) ρ) ρ
  | .ret e, ρ => (evE cal (thaw ρ) e).wth (fun d => .ret d) ρ
  | .ifs c a b, ρ => (evE cal (thaw ρ) c).wth (fun d => match d with
      | .bool true => evS a ρ
      | .bool false => evS b ρ
      | _ => .bad) ρ
  | .fr t it body tmp, ρ => if ment ρ it then .bad else match evI cal ρ it with
    | .ok xs => forL (fun x ρ' => match asgT t x ρ' with
        | some ρ2 => evS body ρ2
        | none => .bad) tmp xs ρ
    | .exc c => .exc c ρ
    | .bad => .bad
  | .whl c b, ρ => whL (fun ρ' => evE cal (thaw ρ') c) (fun ρ' => evS b ρ') whMax ρ
  | .sq a b, ρ => match evS a ρ with
    | .nx ρ' => evS b ρ'
    | o => o
  | .app i e, ρ => if isOwn ρ[i]? then evX cal ρ e fun d ρ' => match ρ'[i]? with
      | some (.own ds) => if ds.length < SZ then .nx (ρ'.set i (.own (ds ++ [d]))) else .bad
      | _ => .bad
    else .bad
  | .ext i e, ρ => if isOwn ρ[i]? then evX cal ρ e fun d ρ' => match ρ'[i]?, d with
      | some (.own ds), .list xs => if ds.length + xs.length ≤ SZ then .nx (ρ'.set i (.own (ds ++ xs))) else .bad
      | _, _ => .bad
    else .bad
  | .sti i k e, ρ => if isOwn ρ[i]? then evX cal ρ e fun d ρ' => evX cal ρ' k fun z ρ2 => match ρ2[i]?, z with
      | some (.own ds), .int n => match ixN ds.length n with
        | some j => .nx (ρ2.set i (.own (ds.set j d)))
        | none => .bad
      | _, _ => .bad
    else .bad
  | .rse c, ρ => .exc c ρ
  | .tri b _ js, ρ => match evS b ρ with
    | .exc c _ => match js.findIdx? (fun j => j == c) with
      | some k => .ret (.int (k : Int))
      | none => .bad
    | o => o
  | .tr2 b _ j n x y, ρ => match evS b ρ with
    | .exc c _ => if c < n then (match kD (if c = j then x else y) with
      | some d => .ret d
      | none => .bad) else .bad
    | o => o
  | .own2 i j, ρ => .nx ((ρ.set i (.own [])).set j (.own []))
  | .owr i j a, ρ => if ment ρ a then .bad else (evE cal ρ a).wth (fun x => .nx ((ρ.set i (.py x)).set j (.own []))) ρ
  | _, _ => .bad
end
structure Fn where
  np : Nat
  N : List Str
  body : M
def start0 (n : Nat) (args : List D) : En := args.map .py ++ List.replicate (n - args.length) .un
def fin (o : SO) : Out D :=
  match o with
  | .nx _ => .ok .none
  | .ret d => .ok d
  | .exc c _ => .exc c
  | .bad => .bad
def evFn (cal : Nat → List D → Out D) (fn : Fn) (args : List D) : Out D :=
  if args.length = fn.np then fin (evS cal fn.body (start0 fn.N.length args)) else .bad
def run (fs : List Fn) : Nat → Nat → List D → Out D
  | 0, _, _ => .bad
  | n + 1, f, args => match fs[f]? with
    | some fn => evFn (run fs n) fn args
    | none => .bad

/-! ### the look -/
def visB (sc : Scope) (x : Str) : Bool := match sc.names.lookup x with
  | some .local => true
  | some .cell => true
  | some .free => true
  | _ => false
def glB (sc : Scope) (x : Str) : Bool := (match sc.names.lookup x with
  | some .globalImplicit => true
  | _ => false) && !(x == ("__debug__" : Str)) && decide (x ≠ "__name__")
def locB (sc : Scope) (x : Str) : Bool := match sc.names.lookup x with
  | some .local => true
  | some .cell => true
  | _ => false
def isTup : Expr → Bool
  | .Tuple .. => true
  | _ => false
def plainNm (x : Str) : Bool := !(x == ("__debug__" : Str)) && !(x == ("__classdict__" : Str))
/-- the program: its defs' names, its constants, its errors' names -/
structure Pg where
  fn : List Str
  cs : List (Str × Int)
  ct : List (Str × Str) := []
  ex : List Str
  bx : Str := "CanonError"
  hx : Bool := false
  mf : Option (Nat × Str) := none
section
variable (g : Pg) (N : List Str)
def tgN (fnB : Str → Bool) (sc : Scope) (i : Nat) (e : Expr) : Bool := match e with
  | .Name x _ => decide (N[i]? = some x) && locB sc x && (fnB x || decide (sc.names.lookup x = some .local))
  | _ => false
def tgL (fnB : Str → Bool) (sc : Scope) : List Nat → List Expr → Bool
  | [], [] => true
  | i :: is, e :: es => tgN N fnB sc i e && tgL fnB sc is es
  | _, _ => false
def mT (fnB : Str → Bool) (sc : Scope) (t : Tg) (e : Expr) : Bool := match t, e with
  | .n i, e => tgN N fnB sc i e
  | .t is, .Tuple es _ _ => tgL N fnB sc is es
  | _, _ => false
def tgIn (ow : List (Str × Nat)) : Tg → Bool
  | .n i => decide (i ∈ ow.map (·.2))
  | .t is => is.all fun i => decide (i ∈ ow.map (·.2))
def notCall : Expr → Bool
  | .Call .. => false
  | _ => true
def isNil : M → Bool
  | .nil => true
  | _ => false
/-- the names of defs, in a list -/
def fnNs (sc : Scope) : List Nat → List Expr → Bool
  | [], [] => true
  | j :: js, .Name x _ :: es => decide (g.fn[j]? = some x) && glB sc x && fnNs sc js es
  | _, _ => false
/-- isinstance(e, C), one by one: e in the slot i -/
def isxs (sc : Scope) (n : Str) : List Nat → List Expr → Bool
  | [], [] => true
  | j :: js, .Call (.Name f _) [.Name x _, .Name y _] [] _ :: es => decide (f = "isinstance") && glB sc f && decide (x = n) && decide (g.ex[j]? = some y) && glB sc y && isxs sc n js es
  | _, _ => false
def ownSub (vs : List Nat) (ow : List (Str × Nat)) : Bool := vs.all fun v => decide (v ∈ ow.map (·.2))
def tgSub (vs : List Nat) : Tg → Bool
  | .n i => decide (i ∈ vs)
  | .t is => is.all fun i => decide (i ∈ vs)
def tgNd : Tg → Bool
  | .n _ => true
  | .t is => decide is.Nodup
mutual
def mE (sc : Scope) : M → Expr → Bool
  | .nm i, .Name x _ => decide (N[i]? = some x) && visB sc x && plainNm x
  | .ci i, .Constant (.int j) _ _ => decide (i = j)
  | .cb b, .Constant (.bool b') _ _ => decide (b = b')
  | .cs s, .Constant (.str s') _ _ => decide (s = s')
  | .cn, .Constant .none _ _ => true
  | .gi x v, .Name y _ => decide (x = y) && glB sc y && decide (g.cs.lookup y = some v)
  | .gs x v, .Name y _ => decide (x = y) && glB sc y && decide (g.ct.lookup y = some v)
  | .bin op a b, .BinOp l op' r _ => decide (op = op') && mE sc a l && mE sc b r
  | .neg a, .UnaryOp .USub e _ => mE sc a e
  | .cmp op a b, .Compare l [op'] [r] _ => decide (op = op') && mE sc a l && mE sc b r
  | .chn o1 o2 a b c, .Compare l [p1, p2] [r1, r2] _ => decide (o1 = p1) && decide (o2 = p2) && mE sc a l && mE sc b r1 && mE sc c r2
  | .b1 a, .BoolOp _ [e] _ => mE sc a e
  | .band a b, .BoolOp .And (e1 :: e2 :: es) p => mE sc a e1 && mE sc b (.BoolOp .And (e2 :: es) p)
  | .bor a b, .BoolOp .Or (e1 :: e2 :: es) p => mE sc a e1 && mE sc b (.BoolOp .Or (e2 :: es) p)
  | .bnot a, .UnaryOp .Not e _ => mE sc a e
  | .ite c a b, .IfExp t x y _ => mE sc c t && mE sc a x && mE sc b y
  | .tup as, .Tuple es _ _ => mA sc as es
  | .lst as, .List es _ => mA sc as es
  | .sub a i, .Subscript x y _ => mE sc a x && mE sc i y
  | .slc a lo hi, .Subscript x (.Slice l h none _) _ => mE sc a x && mO sc lo l && mO sc hi h
  | .call f as, .Call (.Name x _) es [] _ => decide (g.fn[f]? = some x) && glB sc x && mA sc as es
  | .blt b as, .Call (.Name x _) (e :: es) [] _ => decide (x = b.nm) && glB sc x && mA sc as (e :: es)
  | .isi a c, .Call (.Name f _) [e, .Name y _] [] _ => decide (f = "isinstance") && glB sc f && decide (y = ((c.nm : String) : Str)) && glB sc y && mE sc a e
  | .lrg a b, .Call (.Name f _) [.Call (.Name r _) es [] _] [] _ => decide (f = "list") && glB sc f && decide (r = "range") && glB sc r && (match es with
    | [y] => isNil a && mE sc b y
    | [x, y] => mE sc a x && mE sc b y
    | _ => false)
  | .trg a b, .Call (.Name f _) [.Call (.Name r _) es [] _] [] _ => decide (f = "tuple") && glB sc f && decide (r = "range") && glB sc r && (match es with
    | [y] => isNil a && mE sc b y
    | [x, y] => mE sc a x && mE sc b y
    | _ => false)
  | .idx a b, .Call (.Attribute e m ap) [x] [] cp => decide (m = "index") && (ap.endLine == cp.line) && notCall e && mE sc a e && mE sc b x
  | .lc ow t it c e, .ListComp elt [⟨tg, iter, ifs, 0⟩] scope _ => blkC N sc scope ow && mI sc tg it iter && tgIn ow t && tgNd t &&
      mT N (fun x => scope.names.lookup x == some .cell) (relS scope sc) t tg && mC (relS scope sc) c ifs && mE (relS scope sc) e elt
  | .sset a, .Call (.Name f _) [.Call (.Name x _) [e] [] _] [] _ => decide (f = "sorted") && glB sc f && decide (x = "set") && glB sc x && mE sc a e
  | .lset a, .Call (.Name f _) [.Call (.Name x _) [e] [] _] [] _ => decide (f = "len") && glB sc f && decide (x = "set") && glB sc x && mE sc a e
  | .rev a, .Subscript x (.Slice none none (some (.UnaryOp .USub (.Constant (.int j) _ _) _)) _) _ => decide (j = 1) && mE sc a x
  | .lr3 a b c, .Call (.Name f _) [.Call (.Name r _) [x, y, z] [] _] [] _ => decide (f = "list") && glB sc f && decide (r = "range") && glB sc r && mE sc a x && mE sc b y && mE sc c z
  | .lc2 ow t it vs t1 it1 e, .ListComp elt [⟨tg, iter, [], 0⟩, ⟨tg1, iter1, [], 0⟩] scope _ => blkC N sc scope ow && mI sc tg it iter && tgIn ow t && tgNd t && ownSub vs ow &&
      tgSub vs t1 && tgNd t1 && mT N (fun x => scope.names.lookup x == some .cell) (relS scope sc) t tg && mI (relS scope sc) tg1 it1 iter1 && mT N (fun x => scope.names.lookup x == some .cell) (relS scope sc) t1 tg1 && mE (relS scope sc) e elt
  | .cnt a b, .Call (.Attribute e m ap) [x] [] cp => decide (m = "count") && (ap.endLine == cp.line) && notCall e && mE sc a e && mE sc b x
  | .joi a b, .Call (.Attribute e m ap) [x] [] cp => decide (m = "join") && (ap.endLine == cp.line) && notCall e && mE sc a e && mE sc b x
  | .cix fs w as, .Call (.Subscript (.List es _) i _) (a :: r) [] _ => decide (fs.length < 100) && fnNs g sc fs es && mE sc w i && mA sc as (a :: r)
  | .cc f a b, .Call (.Name x _) [e1, e2, .Dict [] [] _] [] _ => decide (g.mf = some (f, x)) && glB sc x && mE sc a e1 && mE sc b e2
  | _, _ => false
def mA (sc : Scope) : M → List Expr → Bool
  | .nil, [] => true
  | .cons a as, e :: es => mE sc a e && mA sc as es
  | _, _ => false
def mO (sc : Scope) : M → Option Expr → Bool
  | .nil, none => true
  | .b1 a, some e => mE sc a e
  | _, _ => false
/-- a comprehension's tests: none, or one -/
def mC (sc : Scope) : M → List Expr → Bool
  | .nil, [] => true
  | .b1 a, [e] => mE sc a e
  | _, _ => false
def mI (sc : Scope) (tg : Expr) : M → Expr → Bool
  | .rg3 a b c, .Call (.Name r _) [x, y, z] [] _ => decide (r = "range") && glB sc r && mE sc a x && mE sc b y && mE sc c z
  | .rg a b, .Call (.Name r _) es [] _ => decide (r = "range") && glB sc r && (match es with
    | [y] => isNil a && mE sc b y
    | [x, y] => mE sc a x && mE sc b y
    | _ => false)
  | .enm a, .Call (.Name r _) [e] [] _ => decide (r = "enumerate") && glB sc r && mE sc a e && isTup tg
  | .zp a b, .Call (.Name r _) [e, e2] [] _ => decide (r = "zip") && glB sc r && mE sc a e && mE sc b e2 && isTup tg
  | .b1 a, e => mE sc a e
  | _, _ => false
end
def notLC : Expr → Bool
  | .ListComp .. => false
  | .SetComp .. => false
  | .DictComp .. => false
  | _ => true
/-- is a comprehension stored within its block -/
def swL (sc : Scope) (x : Str) (px : Pos) (l : Nat) (scope : Scope) (p : Pos) : Bool :=
  decide (sc.names.lookup x = some .local) && (px.line == p.line) && !(scope.names.any fun (n, k) => n == x && (k == .local || k == .cell))
/-- a, b = x, y is stored from the right, without a tuple -/
def swP (sc : Scope) (x y : Str) (px py : Pos) (vs : List Expr) : Bool :=
  decide (sc.names.lookup x = some .local) && decide (sc.names.lookup y = some .local) && (px.line == py.line) && decide (x ≠ y) && !vs.all (foldedForSure 8) && !vs.all (constantsAlone 8)
def swP3 (sc : Scope) (x y z : Str) (px py pz : Pos) (vs : List Expr) : Bool :=
  decide (sc.names.lookup x = some .local) && decide (sc.names.lookup y = some .local) && decide (sc.names.lookup z = some .local) && (px.line == py.line) && (px.line == pz.line) && decide (x ≠ y) && decide (x ≠ z) && decide (y ≠ z) && !vs.all (foldedForSure 8) && !vs.all (constantsAlone 8)
/-- a name that is no plain local one -/
def nloc (sc : Scope) : Expr → Bool
  | .Name x _ => decide (sc.names.lookup x ≠ some .local)
  | _ => false
mutual
def mS (sc : Scope) : M → Stmt → Bool
  | .pass, .Pass _ => true
  | .xpr e, .Expr v _ => notLC v && mE g N sc e v
  | .asg t e, .Assign [tg] v p => mT N (fun _ => true) sc t tg && mE g N sc e v && (match tg, v with
    | .Name x px, .ListComp _ _ scope pv => swL sc x px p.line scope pv || decide (sc.names.lookup x = some .cell)
    | .Tuple ts _ _, .Tuple _ _ _ => ts.any (nloc sc)
    | _, _ => true) && tgNd t
  | .aso i e, .Assign [tg] v p => tgN N (fun _ => true) sc i tg && mE g N sc e v && (match tg, v with
    | .Name x px, .ListComp _ _ scope pv => swL sc x px p.line scope pv || decide (sc.names.lookup x = some .cell)
    | _, _ => true)
  | .par i j a b, .Assign [.Tuple [.Name x px, .Name y py] _ _] (.Tuple [ea, eb] _ _) _ => decide (i ≠ j) && decide (N[i]? = some x) && decide (N[j]? = some y) &&
      swP sc x y px py [ea, eb] && mE g N sc a ea && mE g N sc b eb
  | .par3 i j l a b c, .Assign [.Tuple [.Name x px, .Name y py, .Name z pz] _ _] (.Tuple [ea, eb, ec] _ _) _ => decide (i ≠ j) && decide (i ≠ l) && decide (j ≠ l) && decide (N[i]? = some x) && decide (N[j]? = some y) && decide (N[l]? = some z) &&
      swP3 sc x y z px py pz [ea, eb, ec] && mE g N sc a ea && mE g N sc b eb && mE g N sc c ec
  | .ret e, .Return (some v) _ => mE g N sc e v
  | .ifs c a b, .If t x y _ => mE g N sc c t && mB sc a x && mB sc b y
  | .fr t it body _, .For tg iter b [] _ => mT N (fun _ => true) sc t tg && tgNd t && mI g N sc tg it iter && mB sc body b
  | .whl c b, .While t x [] _ => mE g N sc c t && mB sc b x
  | .app i e, .Expr (.Call (.Attribute (.Name x _) m ap) [v] [] cp) _ => decide (m = "append") && (ap.endLine == cp.line) && decide (N[i]? = some x) && visB sc x && plainNm x && mE g N sc e v
  | .ext i e, .Expr (.Call (.Attribute (.Name x _) m ap) [v] [] cp) _ => decide (m = "extend") && (ap.endLine == cp.line) && decide (N[i]? = some x) && visB sc x && plainNm x && mE g N sc e v
  | .sti i k e, .Assign [.Subscript (.Name x _) kk _] v _ => decide (N[i]? = some x) && visB sc x && plainNm x && mE g N sc k kk && mE g N sc e v && notLC v
  | .rse c, .Raise (some (.Call (.Name x _) [.Constant (.str _) _ _] [] _)) none _ => decide (g.ex[c]? = some x) && glB sc x
  | .tri b i js, .Try body [.ExceptHandler (some (.Name x _)) (some n) [.Return (some (.Call (.Attribute (.List es _) m ap) [.Constant (.bool bb) _ _] [] cp)) _] _] [] [] _ =>
      g.hx && decide (js.length < 100) && decide (x = g.bx) && glB sc x && decide (N[i]? = some n) && decide (sc.names.lookup n = some .local) && plainNm n && decide (m = "index") && (ap.endLine == cp.line) && bb && isxs g sc n js es && mB sc b body
  | .tr2 b i j n x y, .Try body [.ExceptHandler (some (.Name xx _)) (some nn) [.Return (some (.IfExp (.Call (.Name f _) [.Name x2 _, .Name y2 _] [] _) ea eb _)) _] _] [] [] _ =>
      g.hx && decide (xx = g.bx) && glB sc xx && decide (N[i]? = some nn) && decide (sc.names.lookup nn = some .local) && plainNm nn && decide (f = "isinstance") && glB sc f && decide (x2 = nn) && decide (g.ex[j]? = some y2) && glB sc y2 && decide (n ≤ g.ex.length) && kE x ea && kE y eb && mB sc b body
  | .own2 i j, .Assign [.Tuple [.Name x px, .Name y py] _ _] (.Tuple [.List [] p1, .List [] p2] _ _) _ => decide (i ≠ j) && decide (N[i]? = some x) && decide (N[j]? = some y) && swP sc x y px py [.List [] p1, .List [] p2]
  | .owr i j a, .Assign [.Tuple [.Name x px, .Name y py] _ _] (.Tuple [ea, .List [] pl] _ _) _ => decide (i ≠ j) && decide (N[i]? = some x) && decide (N[j]? = some y) && swP sc x y px py [ea, .List [] pl] && mE g N sc a ea
  | _, _ => false
def mB (sc : Scope) : M → List Stmt → Bool
  | .nil, [] => true
  | .sq a b, s :: r => mS sc a s && mB sc b r
  | _, _ => false
end
end
def fnB (g : Pg) (fn : Fn) (st : Stmt) : Bool := mB g fn.N (defScope st) fn.body (defBody st)
end Mz

/-! The evaluator by a table of callees: what it says with some answers known, the runs say. -/
namespace Mz
open PySem
/-- o' says what o says -/
def LeO {α : Type} (o o' : Out α) : Prop := o ≠ .bad → o' = o
def LeS (o o' : SO) : Prop := o ≠ .bad → o' = o
section
variable {α β : Type} {o o' : Out α}
theorem le_refl (o : Out α) : LeO o o := fun _ => rfl
theorem le_bad (o : Out α) : LeO .bad o := fun h => absurd rfl h
theorem le_bnd {k k' : α → Out β} (h : LeO o o') (hk : ∀ x, LeO (k x) (k' x)) : LeO (o.bnd k) (o'.bnd k') := by
  cases o with
  | bad => exact le_bad _
  | ok x => rw [h (by simp)]; exact hk x
  | exc c => rw [h (by simp)]; exact le_refl _
theorem le_asB {o o' : Out D} (h : LeO o o') : LeO (asB o) (asB o') := by
  cases o with
  | bad => exact le_bad _
  | ok x => rw [h (by simp)]; exact le_refl _
  | exc c => rw [h (by simp)]; exact le_refl _
theorem le_zOr {a : M} {o o' : Out D} (h : LeO o o') : LeO (zOr a o) (zOr a o') := by
  cases a <;> first | exact le_refl _ | exact h
theorem le_ite {p : Prop} [Decidable p] {a b a' b' : Out α} (h : LeO a a') (h2 : LeO b b') : LeO (if p then a else b) (if p then a' else b') := by
  split
  · exact h
  · exact h2
theorem le_comp {f f' : D → Out (Option D)} (h : ∀ x, LeO (f x) (f' x)) : ∀ xs : List D, LeO (compL f xs) (compL f' xs)
  | [] => le_refl _
  | x :: r => by
    have ih := le_comp h r
    have hx := h x
    simp only [compL]
    cases e : f x with
    | bad => exact le_bad _
    | exc c => exact le_bad _
    | ok y =>
      rw [e] at hx
      rw [hx (by simp)]
      cases y with
      | none =>
        simp only
        cases e2 : compL f r with
        | bad => exact le_bad _
        | exc c => exact le_bad _
        | ok l => rw [e2] at ih; rw [ih (by simp)]; exact le_refl _
      | some y =>
        simp only
        cases e2 : compL f r with
        | bad => exact le_bad _
        | exc c => exact le_bad _
        | ok l => rw [e2] at ih; rw [ih (by simp)]; exact le_refl _
theorem le_flat {f f' : D → Out (List D)} (h : ∀ x, LeO (f x) (f' x)) : ∀ xs : List D, LeO (flatL f xs) (flatL f' xs)
  | [] => le_refl _
  | x :: r => by
    have ih := le_flat h r
    have hx := h x
    simp only [flatL]
    cases e : f x with
    | bad => exact le_bad _
    | exc c => exact le_bad _
    | ok y =>
      rw [e] at hx
      rw [hx (by simp)]
      simp only
      cases e2 : flatL f r with
      | bad => exact le_bad _
      | exc c => exact le_bad _
      | ok l => rw [e2] at ih; rw [ih (by simp)]; exact le_refl _
end
section
variable {cal cal' : Nat → List D → Out D}
theorem le_all (hc : ∀ f xs, LeO (cal f xs) (cal' f xs)) (m : M) : (∀ ρ, LeO (evE cal ρ m) (evE cal' ρ m)) ∧ (∀ ρ, LeO (evA cal ρ m) (evA cal' ρ m)) ∧ (∀ ρ, LeO (evO cal ρ m) (evO cal' ρ m)) ∧ (∀ ρ, LeO (evI cal ρ m) (evI cal' ρ m)) := by
  induction m with
  | nm i => exact ⟨fun ρ => le_refl _, fun ρ => le_bad _, fun ρ => le_bad _, fun ρ => le_bad _⟩
  | ci i => exact ⟨fun ρ => le_refl _, fun ρ => le_bad _, fun ρ => le_bad _, fun ρ => le_bad _⟩
  | cb i => exact ⟨fun ρ => le_refl _, fun ρ => le_bad _, fun ρ => le_bad _, fun ρ => le_bad _⟩
  | cs i => exact ⟨fun ρ => le_refl _, fun ρ => le_bad _, fun ρ => le_bad _, fun ρ => le_bad _⟩
  | cn => exact ⟨fun ρ => le_refl _, fun ρ => le_bad _, fun ρ => le_bad _, fun ρ => le_bad _⟩
  | gi x v => exact ⟨fun ρ => le_refl _, fun ρ => le_bad _, fun ρ => le_bad _, fun ρ => le_bad _⟩
  | bin op a b ia ib => exact ⟨fun ρ => le_bnd (ia.1 ρ) fun x => le_bnd (ib.1 ρ) fun y => le_refl _, fun ρ => le_bad _, fun ρ => le_bad _, fun ρ => le_bad _⟩
  | neg a ia => exact ⟨fun ρ => le_bnd (ia.1 ρ) fun x => le_refl _, fun ρ => le_bad _, fun ρ => le_bad _, fun ρ => le_bad _⟩
  | cmp op a b ia ib => exact ⟨fun ρ => le_bnd (ia.1 ρ) fun x => le_bnd (ib.1 ρ) fun y => le_refl _, fun ρ => le_bad _, fun ρ => le_bad _, fun ρ => le_bad _⟩
  | chn op op' a b c ia ib ic => exact ⟨fun ρ => le_bnd (ia.1 ρ) fun x => le_bnd (ib.1 ρ) fun y => le_bnd (le_refl _) fun k => le_ite (le_bnd (ic.1 ρ) fun z => le_refl _) (le_refl _), fun ρ => le_bad _, fun ρ => le_bad _, fun ρ => le_bad _⟩
  | b1 a ia => exact ⟨fun ρ => ia.1 ρ, fun ρ => le_bad _, fun ρ => le_bnd (ia.1 ρ) fun x => le_refl _, fun ρ => le_bnd (ia.1 ρ) fun x => le_refl _⟩
  | band a b ia ib => exact ⟨fun ρ => le_bnd (le_asB (ia.1 ρ)) fun k => le_ite (le_bnd (le_asB (ib.1 ρ)) fun x => le_refl _) (le_refl _), fun ρ => le_bad _, fun ρ => le_bad _, fun ρ => le_bad _⟩
  | bor a b ia ib => exact ⟨fun ρ => le_bnd (le_asB (ia.1 ρ)) fun k => le_ite (le_refl _) (le_bnd (le_asB (ib.1 ρ)) fun x => le_refl _), fun ρ => le_bad _, fun ρ => le_bad _, fun ρ => le_bad _⟩
  | bnot a ia => exact ⟨fun ρ => le_bnd (le_asB (ia.1 ρ)) fun k => le_refl _, fun ρ => le_bad _, fun ρ => le_bad _, fun ρ => le_bad _⟩
  | ite c a b ic ia ib => exact ⟨fun ρ => le_bnd (le_asB (ic.1 ρ)) fun k => le_ite (ia.1 ρ) (ib.1 ρ), fun ρ => le_bad _, fun ρ => le_bad _, fun ρ => le_bad _⟩
  | tup as ia => exact ⟨fun ρ => le_bnd (ia.2.1 ρ) fun k => le_refl _, fun ρ => le_bad _, fun ρ => le_bad _, fun ρ => le_bad _⟩
  | lst as ia => exact ⟨fun ρ => le_bnd (ia.2.1 ρ) fun k => le_refl _, fun ρ => le_bad _, fun ρ => le_bad _, fun ρ => le_bad _⟩
  | sub a b ia ib => exact ⟨fun ρ => le_bnd (ia.1 ρ) fun x => le_bnd (ib.1 ρ) fun y => le_refl _, fun ρ => le_bad _, fun ρ => le_bad _, fun ρ => le_bad _⟩
  | slc a lo hi ia il ih => exact ⟨fun ρ => le_bnd (ia.1 ρ) fun x => le_bnd (il.2.2.1 ρ) fun l => le_bnd (ih.2.2.1 ρ) fun h => le_refl _, fun ρ => le_bad _, fun ρ => le_bad _, fun ρ => le_bad _⟩
  | call f as ia => exact ⟨fun ρ => le_bnd (ia.2.1 ρ) fun xs => hc f xs, fun ρ => le_bad _, fun ρ => le_bad _, fun ρ => le_bad _⟩
  | blt b as ia => exact ⟨fun ρ => le_bnd (ia.2.1 ρ) fun xs => le_refl _, fun ρ => le_bad _, fun ρ => le_bad _, fun ρ => le_bad _⟩
  | isi a c ia => exact ⟨fun ρ => le_bnd (ia.1 ρ) fun xs => le_refl _, fun ρ => le_bad _, fun ρ => le_bad _, fun ρ => le_bad _⟩
  | lrg a b ia ib => exact ⟨fun ρ => le_bnd (le_zOr (ia.1 ρ)) fun x => le_bnd (ib.1 ρ) fun y => le_refl _, fun ρ => le_bad _, fun ρ => le_bad _, fun ρ => le_bad _⟩
  | trg a b ia ib => exact ⟨fun ρ => le_bnd (le_zOr (ia.1 ρ)) fun x => le_bnd (ib.1 ρ) fun y => le_refl _, fun ρ => le_bad _, fun ρ => le_bad _, fun ρ => le_bad _⟩
  | idx a b ia ib =>
    refine ⟨fun ρ => le_bnd (ia.1 ρ) fun x => ?_, fun ρ => le_bad _, fun ρ => le_bad _, fun ρ => le_bad _⟩
    cases x <;> first | exact le_refl _ | exact le_bnd (ib.1 ρ) fun y => le_refl _
  | lc ow t it c e ii ic ie =>
    refine ⟨fun ρ => le_bnd (ii.2.2.2 ρ) fun xs => le_bnd (le_comp (fun x => ?_) xs) fun l => le_refl _, fun ρ => le_bad _, fun ρ => le_bad _, fun ρ => le_bad _⟩
    cases asgT t x (fgt ρ (ow.map (·.2))) with
    | none => exact le_bad _
    | some ρ' =>
      have go : LeO ((asB (evE cal ρ' c)).bnd fun k => if k = true then (evE cal ρ' e).bnd fun y => .ok (some y) else .ok none) ((asB (evE cal' ρ' c)).bnd fun k => if k = true then (evE cal' ρ' e).bnd fun y => .ok (some y) else .ok none) :=
        le_bnd (le_asB (ic.1 ρ')) fun k => le_ite (le_bnd (ie.1 ρ') fun y => le_refl _) (le_refl _)
      cases c <;> first | exact go | exact le_bnd (ie.1 ρ') fun y => le_refl _
  | rg a b ia ib => exact ⟨fun ρ => le_bad _, fun ρ => le_bad _, fun ρ => le_bad _, fun ρ => le_bnd (le_zOr (ia.1 ρ)) fun x => le_bnd (ib.1 ρ) fun y => le_refl _⟩
  | enm a ia => exact ⟨fun ρ => le_bad _, fun ρ => le_bad _, fun ρ => le_bad _, fun ρ => le_bnd (ia.1 ρ) fun x => le_refl _⟩
  | zp a b ia ib => exact ⟨fun ρ => le_bad _, fun ρ => le_bad _, fun ρ => le_bad _, fun ρ => le_bnd (ia.1 ρ) fun x => le_bnd (ib.1 ρ) fun y => le_refl _⟩
  | nil => exact ⟨fun ρ => le_bad _, fun ρ => le_refl _, fun ρ => le_refl _, fun ρ => le_bad _⟩
  | cons a as ia ib => exact ⟨fun ρ => le_bad _, fun ρ => le_bnd (ia.1 ρ) fun x => le_bnd (ib.2.1 ρ) fun y => le_refl _, fun ρ => le_bad _, fun ρ => le_bad _⟩
  | sset a ia => exact ⟨fun ρ => le_bnd (ia.1 ρ) fun x => le_refl _, fun ρ => le_bad _, fun ρ => le_bad _, fun ρ => le_bad _⟩
  | lset a ia => exact ⟨fun ρ => le_bnd (ia.1 ρ) fun x => le_refl _, fun ρ => le_bad _, fun ρ => le_bad _, fun ρ => le_bad _⟩
  | rev a ia => exact ⟨fun ρ => le_bnd (ia.1 ρ) fun x => le_refl _, fun ρ => le_bad _, fun ρ => le_bad _, fun ρ => le_bad _⟩
  | lr3 a b c ia ib ic => exact ⟨fun ρ => le_bnd (ia.1 ρ) fun x => le_bnd (ib.1 ρ) fun y => le_bnd (ic.1 ρ) fun z => le_refl _, fun ρ => le_bad _, fun ρ => le_bad _, fun ρ => le_bad _⟩
  | rg3 a b c ia ib ic => exact ⟨fun ρ => le_bad _, fun ρ => le_bad _, fun ρ => le_bad _, fun ρ => le_bnd (ia.1 ρ) fun x => le_bnd (ib.1 ρ) fun y => le_bnd (ic.1 ρ) fun z => le_refl _⟩
  | lc2 ow t it vs t1 it1 e ii ij ie =>
    refine ⟨fun ρ => le_bnd (ii.2.2.2 ρ) fun xs => le_bnd (le_flat (fun x => ?_) xs) fun l => le_refl _, fun ρ => le_bad _, fun ρ => le_bad _, fun ρ => le_bad _⟩
    cases asgT t x (fgt ρ (ow.map (·.2))) with
    | none => exact le_bad _
    | some ρ1 =>
      refine le_bnd (ij.2.2.2 ρ1) fun ys => le_comp (fun y => ?_) ys
      cases asgT t1 y (fgt ρ1 vs) with
      | none => exact le_bad _
      | some ρ2 => exact le_bnd (ie.1 ρ2) fun z => le_refl _
  | gs x v => exact ⟨fun ρ => le_refl _, fun ρ => le_bad _, fun ρ => le_bad _, fun ρ => le_bad _⟩
  | joi a b ia ib =>
    refine ⟨fun ρ => le_bnd (ia.1 ρ) fun x => ?_, fun ρ => le_bad _, fun ρ => le_bad _, fun ρ => le_bad _⟩
    cases x <;> first | exact le_refl _ | exact le_bnd (ib.1 ρ) fun y => le_refl _
  | cnt a b ia ib =>
    refine ⟨fun ρ => le_bnd (ia.1 ρ) fun x => ?_, fun ρ => le_bad _, fun ρ => le_bad _, fun ρ => le_bad _⟩
    cases x <;> first | exact le_refl _ | exact le_bnd (ib.1 ρ) fun y => le_refl _
  | cix fs w as iw ia =>
    refine ⟨fun ρ => le_bnd (iw.1 ρ) fun x => ?_, fun ρ => le_bad _, fun ρ => le_bad _, fun ρ => le_bad _⟩
    cases x <;> first | exact le_refl _ | skip
    rename_i i
    show LeO (match L2.atI fs i with
      | some j => (evA cal ρ as).bnd fun xs => cal j xs
      | none => .bad) (match L2.atI fs i with
      | some j => (evA cal' ρ as).bnd fun xs => cal' j xs
      | none => .bad)
    cases L2.atI fs i with
    | none => exact le_bad _
    | some j => exact le_bnd (ia.2.1 ρ) fun xs => hc j xs
  | cc f a b ia ib =>
    refine ⟨fun ρ => le_bnd (ia.1 ρ) fun x => le_bnd (ib.1 ρ) fun y => ?_, fun ρ => le_bad _, fun ρ => le_bad _, fun ρ => le_bad _⟩
    have h := hc f [x, y]
    unfold opCC
    cases y <;> first | exact le_bad _ | skip
    rename_i ts
    simp only
    cases allInts ts with
    | none => exact le_bad _
    | some ns =>
      simp only
      refine le_ite (p := ns.length ≤ 12) ?_ (le_bad _)
      cases e : cal f [x, .tuple ts] with
      | bad => exact le_bad _
      | exc c => exact le_bad _
      | ok d =>
        rw [e] at h
        rw [h (by simp)]
        exact le_refl _
  | _ => exact ⟨fun ρ => le_bad _, fun ρ => le_bad _, fun ρ => le_bad _, fun ρ => le_bad _⟩
theorem leS_refl (o : SO) : LeS o o := fun _ => rfl
theorem leS_bad (o : SO) : LeS .bad o := fun h => absurd rfl h
theorem le_wth {o o' : Out D} {k k' : D → SO} {ρ : En} (h : LeO o o') (hk : ∀ d, LeS (k d) (k' d)) : LeS (o.wth k ρ) (o'.wth k' ρ) := by
  cases o with
  | bad => exact leS_bad _
  | ok x => rw [h (by simp)]; exact hk x
  | exc c => rw [h (by simp)]; exact leS_refl _
theorem le_evX (hc : ∀ f xs, LeO (cal f xs) (cal' f xs)) {ρ : En} {e : M} {k k' : D → En → SO} (hk : ∀ d ρ, LeS (k d ρ) (k' d ρ)) : LeS (evX cal ρ e k) (evX cal' ρ e k') := by
  unfold evX
  split
  · exact le_wth ((le_all hc e).1 _) fun d => hk _ _
  · exact le_wth ((le_all hc e).1 _) fun d => hk _ _
theorem le_forL {f f' : D → En → SO} {tmp : List Nat} (h : ∀ x ρ, LeS (f x ρ) (f' x ρ)) : ∀ (xs : List D) (ρ : En), LeS (forL f tmp xs ρ) (forL f' tmp xs ρ)
  | [], _ => leS_refl _
  | x :: r, ρ => by
    have hx := h x ρ
    simp only [forL]
    cases e : f x ρ with
    | bad => exact leS_bad _
    | nx ρ' =>
      rw [e] at hx
      rw [hx (by simp)]
      exact le_forL h r _
    | ret d =>
      rw [e] at hx
      rw [hx (by simp)]
      exact leS_refl _
    | exc c ρ' =>
      rw [e] at hx
      rw [hx (by simp)]
      exact leS_refl _
theorem le_whL {c c' : En → Out D} {f f' : En → SO} (hc : ∀ ρ, LeO (c ρ) (c' ρ)) (h : ∀ ρ, LeS (f ρ) (f' ρ)) : ∀ (n : Nat) (ρ : En), LeS (whL c f n ρ) (whL c' f' n ρ)
  | 0, _ => leS_bad _
  | n + 1, ρ => by
    have h0 := hc ρ
    have h1 := h ρ
    simp only [whL]
    cases e : c ρ with
    | bad => exact leS_bad _
    | exc z =>
      rw [e] at h0
      rw [h0 (by simp)]
      exact leS_refl _
    | ok d =>
      rw [e] at h0
      rw [h0 (by simp)]
      cases d <;> first | exact leS_refl _ | skip
      rename_i b
      cases b
      · exact leS_refl _
      · simp only
        cases e2 : f ρ with
        | bad => exact leS_bad _
        | nx ρ' =>
          rw [e2] at h1
          rw [h1 (by simp)]
          exact le_whL hc h n _
        | ret d =>
          rw [e2] at h1
          rw [h1 (by simp)]
          exact leS_refl _
        | exc c ρ' =>
          rw [e2] at h1
          rw [h1 (by simp)]
          exact leS_refl _
theorem le_evS (hc : ∀ f xs, LeO (cal f xs) (cal' f xs)) : ∀ (m : M) (ρ : En), LeS (evS cal m ρ) (evS cal' m ρ) := by
  intro m
  induction m with
  | nil => exact fun ρ => leS_refl _
  | pass => exact fun ρ => leS_refl _
  | xpr e _ => exact fun ρ => le_evX hc fun d ρ' => leS_refl _
  | asg t e _ => exact fun ρ => le_evX hc fun d ρ' => leS_refl _
  | aso i e _ =>
    intro ρ
    simp only [evS]
    split
    · exact le_wth ((le_all hc e).1 _) fun d => leS_refl _
    · exact leS_bad _
  | par i j a b _ _ =>
    intro ρ
    simp only [evS]
    split
    · exact le_wth ((le_all hc a).1 _) fun d => le_wth ((le_all hc b).1 _) fun d => leS_refl _
    · exact le_wth ((le_all hc a).1 _) fun d => le_wth ((le_all hc b).1 _) fun d => leS_refl _
  | par3 i j l a b c _ _ _ =>
    intro ρ
    simp only [evS]
    split
    · exact leS_bad _
    · exact le_wth ((le_all hc a).1 _) fun d => le_wth ((le_all hc b).1 _) fun d => le_wth ((le_all hc c).1 _) fun d => leS_refl _
  | ret e _ => exact fun ρ => le_wth ((le_all hc e).1 _) fun d => leS_refl _
  | ifs c a b _ ia ib =>
    intro ρ
    refine le_wth ((le_all hc c).1 _) fun d => ?_
    cases d <;> first | exact leS_refl _ | skip
    rename_i b
    cases b
    · exact ib ρ
    · exact ia ρ
  | fr t it body tmp _ ib =>
    intro ρ
    simp only [evS]
    split
    · exact leS_bad _
    · have hi := (le_all hc it).2.2.2 ρ
      cases e : evI cal ρ it with
      | bad => exact leS_bad _
      | exc c =>
        rw [e] at hi
        rw [hi (by simp)]
        exact leS_refl _
      | ok xs =>
        rw [e] at hi
        rw [hi (by simp)]
        refine le_forL (fun x ρ' => ?_) xs ρ
        cases asgT t x ρ' with
        | none => exact leS_bad _
        | some ρ2 => exact ib ρ2
  | whl c b _ ib => exact fun ρ => le_whL (fun ρ' => (le_all hc c).1 _) (fun ρ' => ib ρ') _ ρ
  | sq a b ia ib =>
    intro ρ
    have ha := ia ρ
    simp only [evS]
    cases e : evS cal a ρ with
    | bad => exact leS_bad _
    | nx ρ' =>
      rw [e] at ha
      rw [ha (by simp)]
      exact ib ρ'
    | ret d =>
      rw [e] at ha
      rw [ha (by simp)]
      exact leS_refl _
    | exc c ρ' =>
      rw [e] at ha
      rw [ha (by simp)]
      exact leS_refl _
  | app i e _ =>
    intro ρ
    simp only [evS]
    split
    · exact le_evX hc fun d ρ' => leS_refl _
    · exact leS_bad _
  | ext i e _ =>
    intro ρ
    simp only [evS]
    split
    · exact le_evX hc fun d ρ' => leS_refl _
    · exact leS_bad _
  | sti i k e _ _ =>
    intro ρ
    simp only [evS]
    split
    · exact le_evX hc fun d ρ' => le_evX hc fun z ρ2 => leS_refl _
    · exact leS_bad _
  | rse c => exact fun ρ => leS_refl _
  | tri b i js ib =>
    intro ρ
    have hb := ib ρ
    simp only [evS]
    cases e : evS cal b ρ with
    | bad => exact leS_bad _
    | nx ρ' =>
      rw [e] at hb
      rw [hb (by simp)]
      exact leS_refl _
    | ret d =>
      rw [e] at hb
      rw [hb (by simp)]
      exact leS_refl _
    | exc c ρ' =>
      rw [e] at hb
      rw [hb (by simp)]
      exact leS_refl _
  | tr2 b i j n x y ib _ _ =>
    intro ρ
    have hb := ib ρ
    simp only [evS]
    cases e : evS cal b ρ with
    | bad => exact leS_bad _
    | nx ρ' =>
      rw [e] at hb
      rw [hb (by simp)]
      exact leS_refl _
    | ret d =>
      rw [e] at hb
      rw [hb (by simp)]
      exact leS_refl _
    | exc c ρ' =>
      rw [e] at hb
      rw [hb (by simp)]
      exact leS_refl _
  | own2 i j => exact fun ρ => leS_refl _
  | owr i j a _ =>
    intro ρ
    simp only [evS]
    split
    · exact leS_bad _
    · exact le_wth ((le_all hc a).1 _) fun d => leS_refl _
  | _ => exact fun ρ => leS_bad _
theorem le_fin {o o' : SO} (h : LeS o o') : LeO (fin o) (fin o') := by
  cases o with
  | bad => exact le_bad _
  | nx ρ => rw [h (by simp)]; exact le_refl _
  | ret d => rw [h (by simp)]; exact le_refl _
  | exc c ρ => rw [h (by simp)]; exact le_refl _
theorem le_evFn (hc : ∀ f xs, LeO (cal f xs) (cal' f xs)) (fn : Fn) (xs : List D) : LeO (evFn cal fn xs) (evFn cal' fn xs) := by
  unfold evFn
  exact le_ite (le_fin (le_evS hc _ _)) (le_refl _)
end
theorem run_succ (fs : List Fn) (n f : Nat) (xs : List D) : run fs (n + 1) f xs = match fs[f]? with
    | some fn => evFn (run fs n) fn xs
    | none => .bad := rfl
theorem le_run (fs : List Fn) : ∀ (n f : Nat) (xs : List D), LeO (run fs n f xs) (run fs (n + 1) f xs)
  | 0, _, _ => le_bad _
  | n + 1, f, xs => by
    rw [run_succ, run_succ fs (n + 1)]
    cases fs[f]? with
    | none => exact le_bad _
    | some fn => exact le_evFn (le_run fs n) fn xs
theorem le_trans {α : Type} {a b c : Out α} (h : LeO a b) (g : LeO b c) : LeO a c := fun q => by
  have e := h q
  rw [← e] at q ⊢
  exact g q
theorem le_runs (fs : List Fn) (n k f : Nat) (xs : List D) : LeO (run fs n f xs) (run fs (n + k) f xs) := by
  induction k with
  | zero => exact le_refl _
  | succ k ih => exact le_trans ih (le_run fs (n + k) f xs)
/-- runs where some answers are known -/
def runT (tb : Nat → List D → Out D) (fs : List Fn) : Nat → Nat → List D → Out D
  | 0, f, xs => tb f xs
  | n + 1, f, xs => match tb f xs with
    | .bad => match fs[f]? with
      | some fn => evFn (runT tb fs n) fn xs
      | none => .bad
    | o => o
theorem le_runT {tb : Nat → List D → Out D} {fs : List Fn} {k : Nat} (h : ∀ f xs, LeO (tb f xs) (run fs k f xs)) : ∀ (n f : Nat) (xs : List D), LeO (runT tb fs n f xs) (run fs (n + k) f xs)
  | 0, f, xs => by
    rw [Nat.zero_add]
    exact h f xs
  | n + 1, f, xs => by
    have h0 := le_trans (h f xs) (le_runs fs k (n + 1) f xs)
    rw [Nat.add_comm k] at h0
    unfold runT
    cases e : tb f xs with
    | bad =>
      simp only
      rw [show n + 1 + k = n + k + 1 by omega, run_succ]
      cases fs[f]? with
      | none => exact le_bad _
      | some fn => exact le_evFn (le_runT h n) fn xs
    | ok d =>
      rw [e] at h0
      exact h0
    | exc c =>
      rw [e] at h0
      exact h0
/-- a block's end, by a table -/
theorem byT {tb : Nat → List D → Out D} {fs : List Fn} {k n m : Nat} {b : M} {ρ : En} {o : SO} (h : ∀ f xs, LeO (tb f xs) (run fs k f xs)) (hm : m = n + k) (e : evS (runT tb fs n) b ρ = o) (ho : o ≠ .bad) : evS (run fs m) b ρ = o := by
  subst hm
  have := le_evS (cal := runT tb fs n) (cal' := run fs (n + k)) (le_runT h n) b ρ (by rw [e]; exact ho)
  rw [this, e]
theorem byTf {tb : Nat → List D → Out D} {fs : List Fn} {k n m f : Nat} {xs : List D} {o : Out D} (h : ∀ f xs, LeO (tb f xs) (run fs k f xs)) (hm : m = n + k) (e : runT tb fs n f xs = o) (ho : o ≠ .bad) : run fs m f xs = o := by
  subst hm
  have := le_runT h n f xs (by rw [e]; exact ho)
  rw [this, e]
end Mz

/-! Part 3: what a value is worth in a heap; the operations' rules. -/
namespace Mz
open PySem PySem.Spec PyProof.Rows L2

/-! ### values -/
mutual
inductive Dn (K : PySem.W.Frag) (F : Hp) : V → D → Prop
  | non : Dn K F .non .none
  | bl (b : Bool) : Dn K F (.bl b) (.bool b)
  | int (i : Int) : Dn K F (.int i) (.int i)
  | str (x : Str) : Dn K F (.str x) (.str x)
  | lst {a : Addr} {xs : List V} {ds : List D} : F a = some (.lst xs) → DnAll K F xs ds → Dn K F (.ref a) (.list ds)
  | tup {a : Addr} {xs : List V} {ds : List D} : F a = some (.tup xs) → DnAll K F xs ds → Dn K F (.ref a) (.tuple ds)
  | scr {a : Addr} {ns : List Int} : SqL K F a (ns.map V.int) → Dn K F (.ref a) (.dict [(.none, .list (ns.map .int))])
inductive DnAll (K : PySem.W.Frag) (F : Hp) : List V → List D → Prop
  | nil : DnAll K F [] []
  | cons {v : V} {vs : List V} {d : D} {ds : List D} : Dn K F v d → DnAll K F vs ds → DnAll K F (v :: vs) (d :: ds)
end
theorem SqT.same {K : PySem.W.Frag} {H H' : Hp} {a : Addr} {xs : List V} (e : Same H H') (h : SqT K H a xs) : SqT K H' a xs := by
  rcases h with (h | ⟨o, h⟩) | h
  · exact .inl (.inl (e _ _ h))
  · exact .inl (.inr ⟨o, e _ _ h⟩)
  · exact .inr h
section
variable {K : PySem.W.Frag} {F F' H H' : Hp}
mutual
theorem Dn.same (e : Same F F') : ∀ {v : V} {d : D}, Dn K F v d → Dn K F' v d
  | _, _, .non => .non
  | _, _, .bl b => .bl b
  | _, _, .int i => .int i
  | _, _, .str x => .str x
  | _, _, .lst h ha => .lst (e _ _ h) (DnAll.same e ha)
  | _, _, .tup h ha => .tup (e _ _ h) (DnAll.same e ha)
  | _, _, .scr h => .scr (e.seq h)
theorem DnAll.same (e : Same F F') : ∀ {vs : List V} {ds : List D}, DnAll K F vs ds → DnAll K F' vs ds
  | _, _, .nil => .nil
  | _, _, .cons h ha => .cons (Dn.same e h) (DnAll.same e ha)
end
theorem DnAll.length : ∀ {vs : List V} {ds : List D}, DnAll K F vs ds → vs.length = ds.length
  | _, _, .nil => rfl
  | _, _, .cons _ ha => congrArg (· + 1) ha.length
theorem DnAll.get : ∀ {vs : List V} {ds : List D} {i : Nat} {v : V}, DnAll K F vs ds → vs[i]? = some v → ∃ d, ds[i]? = some d ∧ Dn K F v d
  | _, _, _, _, .nil, h => by simp at h
  | _, _, 0, _, .cons h _, e => by
    simp at e
    subst e
    exact ⟨_, rfl, h⟩
  | _, _, i + 1, v, .cons _ ha, e => by
    obtain ⟨d, h1, h2⟩ := DnAll.get (i := i) (v := v) ha (by simpa using e)
    exact ⟨d, by simpa using h1, h2⟩
theorem DnAll.getD : ∀ {vs : List V} {ds : List D} {i : Nat} {d : D}, DnAll K F vs ds → ds[i]? = some d → ∃ v, vs[i]? = some v ∧ Dn K F v d
  | _, _, _, _, .nil, h => by simp at h
  | _, _, 0, _, .cons h _, e => by
    simp at e
    subst e
    exact ⟨_, rfl, h⟩
  | _, _, i + 1, d, .cons _ ha, e => by
    obtain ⟨v, h1, h2⟩ := DnAll.getD (i := i) (d := d) ha (by simpa using e)
    exact ⟨v, by simpa using h1, h2⟩
theorem DnAll.append : ∀ {vs ws : List V} {ds es : List D}, DnAll K F vs ds → DnAll K F ws es → DnAll K F (vs ++ ws) (ds ++ es)
  | _, _, _, _, .nil, h => h
  | _, _, _, _, .cons h ha, h2 => .cons h (ha.append h2)
theorem DnAll.take : ∀ {vs : List V} {ds : List D} (n : Nat), DnAll K F vs ds → DnAll K F (vs.take n) (ds.take n)
  | _, _, 0, _ => .nil
  | _, _, _ + 1, .nil => .nil
  | _, _, n + 1, .cons h ha => .cons h (ha.take n)
theorem DnAll.drop : ∀ {vs : List V} {ds : List D} (n : Nat), DnAll K F vs ds → DnAll K F (vs.drop n) (ds.drop n)
  | _, _, 0, h => h
  | _, _, _ + 1, .nil => .nil
  | _, _, n + 1, .cons _ ha => ha.drop n
theorem DnAll.set {v : V} {d : D} (h : Dn K F v d) : ∀ {vs : List V} {ds : List D} (j : Nat), DnAll K F vs ds → DnAll K F (vs.set j v) (ds.set j d)
  | _, _, _, .nil => .nil
  | _, _, 0, .cons _ ha => .cons h ha
  | _, _, j + 1, .cons g ha => .cons g (ha.set h j)
theorem DnAll.rep {vs : List V} {ds : List D} (h : DnAll K F vs ds) : ∀ k : Nat, DnAll K F (List.replicate k vs).flatten (List.replicate k ds).flatten
  | 0 => .nil
  | k + 1 => by
    rw [List.replicate_succ, List.replicate_succ, List.flatten_cons, List.flatten_cons]
    exact h.append (h.rep k)
theorem DnAll.ints : ∀ {vs : List V} {ds : List D} {ns : List Int}, DnAll K F vs ds → allInts ds = some ns → vs = ns.map V.int ∧ ds = ns.map .int
  | _, _, ns, .nil, h => by
    simp only [allInts, Option.some.injEq] at h
    subst h
    exact ⟨rfl, rfl⟩
  | _, _, ns, .cons (d := d) h ha, e => by
    unfold allInts at e
    split at e
    · rename_i i l hl
      cases h
      obtain ⟨e1, e2⟩ := DnAll.ints ha hl
      simp only [Option.some.injEq] at e
      subst e
      exact ⟨by rw [e1] <;> rfl, by rw [e2] <;> rfl⟩
    · cases e
theorem DnAll.bools : ∀ {vs : List V} {ds : List D} {bs : List Bool}, DnAll K F vs ds → allBools ds = some bs → vs = bs.map V.bl ∧ ds = bs.map .bool
  | _, _, ns, .nil, h => by
    simp only [allBools, Option.some.injEq] at h
    subst h
    exact ⟨rfl, rfl⟩
  | _, _, ns, .cons (d := d) h ha, e => by
    unfold allBools at e
    split at e
    · rename_i i l hl
      cases h
      obtain ⟨e1, e2⟩ := DnAll.bools ha hl
      simp only [Option.some.injEq] at e
      subst e
      exact ⟨by rw [e1] <;> rfl, by rw [e2] <;> rfl⟩
    · cases e
theorem dnInts : ∀ ns : List Int, DnAll K F (ns.map V.int) (ns.map .int)
  | [] => .nil
  | n :: ns => .cons (.int n) (dnInts ns)
theorem DnAll.strs : ∀ {vs : List V} {ds : List D} {bs : List Str}, DnAll K F vs ds → allStrs ds = some bs → vs = bs.map V.str ∧ ds = bs.map .str
  | _, _, ns, .nil, h => by
    simp only [allStrs, Option.some.injEq] at h
    subst h
    exact ⟨rfl, rfl⟩
  | _, _, ns, .cons (d := d) h ha, e => by
    unfold allStrs at e
    split at e
    · rename_i i l hl
      cases h
      obtain ⟨e1, e2⟩ := DnAll.strs ha hl
      simp only [Option.some.injEq] at e
      subst e
      exact ⟨by rw [e1] <;> rfl, by rw [e2] <;> rfl⟩
    · cases e
/-! data that may be compared -/
mutual
theorem Dn.dp (s : Same F H) : ∀ {v : V} {d : D}, Dn K F v d → d.canLay0 = true → Dp K H v d
  | _, _, .non, _ => .non
  | _, _, .bl b, _ => .bl b
  | _, _, .int i, _ => .int i
  | _, _, .str x, _ => .str x
  | _, _, .lst h ha, c => .lst (SqL.of (s _ _ h)) (DnAll.dp s ha (by simpa [PyData.canLay0] using c))
  | _, _, .tup h ha, c => .tup (SqT.of (s _ _ h)) (DnAll.dp s ha (by simpa [PyData.canLay0] using c))
  | _, _, .scr h, c => by simp [PyData.canLay0] at c
theorem DnAll.dp (s : Same F H) : ∀ {vs : List V} {ds : List D}, DnAll K F vs ds → PyData.canLayAll0 ds = true → DpAll K H vs ds
  | _, _, .nil, _ => .nil
  | _, _, .cons h ha, c => by
    simp only [PyData.canLayAll0, Bool.and_eq_true] at c
    exact .cons (Dn.dp s h c.1) (DnAll.dp s ha c.2)
end
end

/-! ### heaps that grow -/
/-- F: what data lean on; it grows by what was there no object before -/
structure Grow (F H F' H' : Hp) : Prop where
  h : Same H H'
  f : Same F F'
  s : Same F' H'
  n : ∀ a, F' a ≠ none → F a ≠ none ∨ H a = none
section
variable {F H F1 H1 F2 H2 : Hp}
theorem Grow.refl (s : Same F H) : Grow F H F H := ⟨Same.refl _, Same.refl _, s, fun _ h => .inl h⟩
theorem Grow.trans (a : Grow F H F1 H1) (b : Grow F1 H1 F2 H2) : Grow F H F2 H2 :=
  ⟨a.h.trans b.h, a.f.trans b.f, b.s, fun x hx => (b.n x hx).elim (fun q => a.n x q) fun q => .inr (a.h.free q)⟩
theorem same_new {H : Hp} {p : Addr} {o : HO} (n : H p = none) : Same H (upd H p o) := fun b u e => by
  rw [upd_ne (ne_of_none e n)]
  exact e
/-- a new object for data -/
theorem Grow.new {p : Addr} {o : HO} (s : Same F H) (n : H p = none) : Grow F H (upd F p o) (upd H p o) := by
  refine ⟨same_new n, same_new (s.free n), fun b u e => ?_, fun b hb => ?_⟩
  · by_cases hp : b = p
    · subst hp
      rw [upd_same] at e ⊢
      exact e
    · rw [upd_ne hp] at e ⊢
      exact s _ _ e
  · by_cases hp : b = p
    · subst hp
      exact .inr n
    · rw [upd_ne hp] at hb
      exact .inl hb
/-- a new object that is no data's yet -/
theorem Grow.side {p : Addr} {o : HO} (s : Same F H) (n : H p = none) : Grow F H F (upd H p o) :=
  ⟨same_new n, Same.refl _, s.trans (same_new n), fun _ h => .inl h⟩
end

def LenOk (K : PySem.W.Frag) (H : Hp) : Prop := ∀ a xs, SqL K H a xs ∨ SqT K H a xs → xs.length ≤ sizeLine
theorem lenOk {X : Cx} {pins : List (Addr × Obj)} {σ : L2.St} {H : Hp} {s : Shared} (I : Inv X pins σ H s) : LenOk X.K H := fun a xs h => by
  rcases h with h | h
  · obtain ⟨_, _, _, z⟩ := I.list h
    exact z
  · obtain ⟨_, _, _, z⟩ := I.tuple h
    exact z

/-! ### the slots -/
structure EnvOk (K : PySem.W.Frag) (F0 H0 F H : Hp) (σ : L2.St) (ρ : En) : Prop where
  g : Grow F0 H0 F H
  len : σ.length = ρ.length
  py : ∀ (i : Nat) (d : D), ρ[i]? = some (.py d) → ∃ v, σ[i]? = some (some v) ∧ Dn K F v d
  own : ∀ (i : Nat) (ds : List D), ρ[i]? = some (.own ds) → ∃ a vs, σ[i]? = some (some (V.ref a)) ∧ H a = some (.lst vs) ∧ F a = none ∧ H0 a = none ∧ DnAll K F vs ds ∧
    ∀ (j : Nat) (ds' : List D), j ≠ i → ρ[j]? = some (.own ds') → σ[j]? ≠ some (some (V.ref a))
section
variable {K : PySem.W.Frag} {F0 H0 F H F' H' : Hp} {σ : L2.St} {ρ : En}
theorem EnvOk.s (E : EnvOk K F0 H0 F H σ ρ) : Same F H := E.g.s
theorem EnvOk.grow (E : EnvOk K F0 H0 F H σ ρ) (g : Grow F H F' H') : EnvOk K F0 H0 F' H' σ ρ := by
  refine ⟨E.g.trans g, E.len, fun i d e => ?_, fun i ds e => ?_⟩
  · obtain ⟨v, h1, h2⟩ := E.py i d e
    exact ⟨v, h1, h2.same g.f⟩
  · obtain ⟨a, vs, h1, h2, h3, h4, h5, h6⟩ := E.own i ds e
    refine ⟨a, vs, h1, g.h _ _ h2, ?_, h4, h5.same g.f, h6⟩
    cases q : F' a with
    | none => rfl
    | some o =>
      rcases g.n a (by rw [q]; simp) with z | z
      · exact absurd h3 z
      · rw [h2] at z
        cases z
end

/-- what is wanted behind a piece that ends so -/
def FinG {α β : Type} (K : PySem.W.Frag) (W : WX) (cl : Nat → Addr) (rel : Hp → β → α → Prop) (σ : L2.St) (F H : Hp) (o : Out α) (Q : β → Hp → Prop) : Prop :=
  match o with
  | .bad => False
  | .ok d => ∀ v F' H', LenOk K H' → Grow F H F' H' → rel F' v d → Q v H'
  | .exc c => ∀ F' H', Grow F H F' H' → W (.ref (cl c)) none σ H'
section
variable {α β γ δ : Type} {K : PySem.W.Frag} {W : WX} {cl : Nat → Addr} {rel : Hp → β → α → Prop} {rel2 : Hp → δ → γ → Prop} {σ : L2.St} {F H F1 H1 : Hp} {o : Out α} {k : α → Out γ} {Q : δ → Hp → Prop} {R : β → Hp → Prop}
theorem FinG.grow (g : Grow F H F1 H1) {Q : β → Hp → Prop} (h : FinG K W cl rel σ F H o Q) : FinG K W cl rel σ F1 H1 o Q := by
  cases o with
  | bad => exact h
  | ok d => exact fun v F' H' l g' r => h v F' H' l (g.trans g') r
  | exc c => exact fun F' H' g' => h F' H' (g.trans g')
theorem fin_bnd (h : FinG K W cl rel2 σ F H (o.bnd k) Q)
    (f : ∀ d v F1 H1, o = .ok d → LenOk K H1 → Grow F H F1 H1 → rel F1 v d → FinG K W cl rel2 σ F1 H1 (k d) Q → R v H1) : FinG K W cl rel σ F H o R := by
  cases o with
  | bad => exact h
  | ok d => exact fun v F' H' l g r => f d v F' H' rfl l g r (FinG.grow g h)
  | exc c => exact h
/-- the end of a step that made it itself -/
theorem fin_end {d : α} {v : β} {F' H' : Hp} {Q : β → Hp → Prop} (h : FinG K W cl rel σ F H (.ok d) Q) (l : LenOk K H') (g : Grow F H F' H') (r : rel F' v d) : Q v H' := h v F' H' l g r
end
abbrev relE (K : PySem.W.Frag) : Hp → V → D → Prop := fun F v d => Dn K F v d
abbrev relA (K : PySem.W.Frag) : Hp → List V → List D → Prop := fun F v d => DnAll K F v d
abbrev relB : Hp → Bool → Bool → Prop := fun _ b k => b = k
abbrev relO : Hp → Option Int → Option Int → Prop := fun _ b k => b = k
section
variable (K : PySem.W.Frag) (W : WX) (cl : Nat → Addr) (cal : Nat → List D → Out D)
def tE (m : M) : TE := fun σ H Q => ∃ F0 H0 ρ F, EnvOk K F0 H0 F H σ ρ ∧ FinG K W cl (relE K) σ F H (evE cal ρ m) Q
def tT (m : M) : TT := fun σ H Q => ∃ F0 H0 ρ F, EnvOk K F0 H0 F H σ ρ ∧ FinG K W cl relB σ F H (asB (evE cal ρ m)) Q
def tA (m : M) : TA := fun σ H Q => ∃ F0 H0 ρ F, EnvOk K F0 H0 F H σ ρ ∧ FinG K W cl (relA K) σ F H (evA cal ρ m) Q
def tO (m : M) : TO := fun σ H Q => ∃ F0 H0 ρ F, EnvOk K F0 H0 F H σ ρ ∧ FinG K W cl relO σ F H (evO cal ρ m) Q
end

/-! ### weaker readings; what the state knows of lengths -/
section
variable {X : Cx} {e : Expr} {es : List Expr}
theorem PE.by {t t' : TE} (h : PE X e t) (f : ∀ σ H Q, t' σ H Q → t σ H fun v H' => LenOk X.K H' → Q v H') : PE X e t' :=
  ⟨fun pins s σ H Q I q => thn (h.run pins s σ H _ I (f σ H Q q)) fun _ _ ⟨v, H', I', r, k⟩ => ⟨v, H', I', r, k (lenOk I')⟩⟩
theorem PT.by {t t' : TT} (h : PT X e t) (f : ∀ σ H Q, t' σ H Q → t σ H fun v H' => LenOk X.K H' → Q v H') : PT X e t' :=
  ⟨fun pins s σ H Q I q => thn (h.run pins s σ H _ I (f σ H Q q)) fun _ _ ⟨H', I', k⟩ => ⟨H', I', k (lenOk I')⟩⟩
theorem PW.by {t t' : TT} (h : PW X e t) (f : ∀ σ H Q, t' σ H Q → t σ H fun v H' => LenOk X.K H' → Q v H') : PW X e t' :=
  ⟨fun wh pins s σ H Q I q => thn (h.run wh pins s σ H _ I (f σ H Q q)) fun _ _ ⟨H', I', k⟩ => ⟨H', I', k (lenOk I')⟩⟩
theorem PA.by {t t' : TA} (h : PA X es t) (f : ∀ σ H Q, t' σ H Q → t σ H fun v H' => LenOk X.K H' → Q v H') : PA X es t' :=
  ⟨fun pos pins s σ H Q I q => thn (h.run pos pins s σ H _ I (f σ H Q q)) fun _ _ ⟨v, H', I', r, k⟩ => ⟨v, H', I', r, k (lenOk I')⟩⟩
theorem PO.by {e : Option Expr} {t t' : TO} (h : PO X e t) (f : ∀ σ H Q, t' σ H Q → t σ H fun v H' => LenOk X.K H' → Q v H') : PO X e t' :=
  ⟨fun pins s σ H Q I q => thn (h.run pins s σ H _ I (f σ H Q q)) fun _ _ ⟨v, H', I', r, k⟩ => ⟨v, H', I', r, k (lenOk I')⟩⟩
end

/-! ### two operands -/
/-- by values: the operands are worth x and y over F; the end is wanted -/
def r2 (K : PySem.W.Frag) (f : D → D → Out D) : R2 := fun x y H Q => ∃ F dx dy dz, Same F H ∧ Dn K F x dx ∧ Dn K F y dy ∧ f dx dy = .ok dz ∧ ∀ v F' H', LenOk K H' → Grow F H F' H' → Dn K F' v dz → Q v H'
theorem r2_imp {K : PySem.W.Frag} {f : D → D → Out D} {r : R2} {X : Cx} {g : Value → Value → Sem Value} (hK : X.K = K)
    (h : ∀ (pins : List (Addr × Obj)) (s : Shared) (σ : L2.St) (H : Hp) (x y : V) (v u : Value) (Q : VK), Inv X pins σ H s → RelV x v → RelV y u → r2 K f x y H Q → wpAny (model X.prog X.w) X.A (g v u) (EP X pins σ Q) X.xe s) : OpR X g (r2 K f) := h
/-- a rule, its answer with the state's lengths -/
theorem opR_by {X : Cx} {g : Value → Value → Sem Value} {r : R2} (h : OpR X g r) {pins : List (Addr × Obj)} {s : Shared} {σ : L2.St} {H : Hp} {x y : V} {v u : Value} {Q : VK} (I : Inv X pins σ H s) (rx : RelV x v) (ry : RelV y u)
    (q : r x y H fun v H' => LenOk X.K H' → Q v H') : wpAny (model X.prog X.w) X.A (g v u) (EP X pins σ Q) X.xe s :=
  thn (h pins s σ H x y v u _ I rx ry q) fun _ _ ⟨v, H', I', r, k⟩ => ⟨v, H', I', r, k (lenOk I')⟩
theorem sz_eq : SZ = sizeLine := by rw [sizeLine_eq] <;> rfl
theorem nat64 {i : Int} (h0 : 0 ≤ i) (h : i < two64) : i.natAbs < 2 ^ 64 := by
  unfold two64 at h
  have e : (2 : Nat) ^ 64 = 18446744073709551616 := by decide
  omega
theorem fold_len (a : Array Nat) : ∀ (n : Nat) (b : Array Nat), ((List.replicate n a).foldl (· ++ ·) b).size = b.size + n * a.size
  | 0, b => by simp
  | n + 1, b => by
    rw [List.replicate_succ, List.foldl_cons, fold_len a n (b ++ a), Array.size_append, Nat.succ_mul]
    omega
theorem op_mul_str {X : Cx} : OpR X (binaryOp .Mult) (fun x y H Q => ∃ z n, x = .str z ∧ y = .int n ∧ (2 ≤ n ∧ n ≤ 1000 ∧ 1 ≤ z.length ∧ z.length ≤ 1000) ∧ Q (.str ⟨(List.replicate n.toNat z.cps).foldl (· ++ ·) #[]⟩) H) := by
  intro pins s σ H x y v u Q I rx ry h
  obtain ⟨z, n, rfl, rfl, ⟨h1, h2, h3, h4⟩, q⟩ := h
  obtain ⟨t, rfl⟩ := rx
  obtain ⟨t', rfl⟩ := ry
  have hn1 : ¬ n < 1 := by omega
  have e1 : (n == 1) = false := by
    rw [beq_eq_false_iff_ne]
    omega
  have e2 : (z.length == 0) = false := by
    rw [beq_eq_false_iff_ne]
    omega
  have hlen : z.length * n.toNat ≤ 1000000 := by
    have := Nat.mul_le_mul h4 (show n.toNat ≤ 1000 by omega)
    omega
  have tl : Builtin.Str.tooLong (z.length * n.toNat) = false := by
    unfold Builtin.Str.tooLong
    rw [decide_eq_false_iff_not, sizeLine_eq]
    omega
  refine PySem.P.mul_str (by
    rw [decide_eq_false (by omega), decide_eq_false (by omega)] <;> rfl) (fun _ _ => ?_) (fun _ _ => tl) ?_
  · have : (1001 : Int) ≤ (2 ^ 63 - 1) / n := Int.le_ediv_of_mul_le (by omega) (by omega)
    omega
  · rw [if_neg hn1, e1, e2]
    refine ⟨?_, ⟨.str _, H, I.tok _, ⟨_, rfl⟩, q⟩⟩
    show ((List.replicate n.toNat z.cps).foldl (· ++ ·) #[]).size ≤ sizeLine
    rw [fold_len, sizeLine_eq, Nat.mul_comm]
    have e3 : z.length = z.cps.size := rfl
    rw [e3] at hlen
    show 0 + _ ≤ _
    omega
theorem opBin_ok (X : Cx) (op : Operator) : OpR X (binaryOp op) (r2 X.K (opBin op)) := by
  intro pins s σ H x y v u Q I rx ry ⟨F, dx, dy, dz, sm, hx, hy, e, q⟩
  have z := sz_eq
  unfold opBin at e
  split at e <;> try (cases e; done)
  · cases e; cases hx; cases hy
    exact opR_by op_add I rx ry ⟨_, _, rfl, rfl, fun l => q _ F H l (.refl sm) (.int _)⟩
  · split at e <;> cases e
    rename_i hle
    cases hx with
    | lst h1 a1 =>
      cases hy with
      | lst h2 a2 =>
        refine opR_by op_cat I rx ry ⟨_, _, _, _, rfl, rfl, sm _ _ h1, sm _ _ h2, by rw [a1.length, a2.length, ← z]; exact hle, fun p np l => q _ (upd F p _) _ l (Grow.new sm np) (.lst upd_same ?_)⟩
        exact (a1.append a2).same (same_new (sm.free np))
  · split at e <;> cases e
    rename_i hle
    cases hx with
    | tup h1 a1 =>
      cases hy with
      | tup h2 a2 =>
        refine opR_by op_catA I rx ry ⟨_, _, _, _, rfl, rfl, SqT.of (sm _ _ h1), SqT.of (sm _ _ h2), by rw [a1.length, a2.length, ← z]; exact hle, fun e0 l => ?_, fun _ e0 l => ?_, fun _ _ p np l => ?_⟩
        · subst e0
          cases a1
          exact q _ F H l (.refl sm) (.tup h2 a2)
        · subst e0
          cases a2
          rw [List.append_nil] at q
          exact q _ F H l (.refl sm) (.tup h1 a1)
        · exact q _ (upd F p _) _ l (Grow.new sm np) (.tup upd_same ((a1.append a2).same (same_new (sm.free np))))
  · split at e <;> cases e
    rename_i hle
    cases hx; cases hy
    exact opR_by op_add_str I rx ry ⟨_, _, rfl, rfl, by rw [← z]; exact hle, fun l => q _ F H l (.refl sm) (.str _)⟩
  · cases e; cases hx; cases hy
    exact opR_by op_sub I rx ry ⟨_, _, rfl, rfl, fun l => q _ F H l (.refl sm) (.int _)⟩
  · split at e <;> cases e
    rename_i hc
    cases hx; cases hy
    exact opR_by op_mul I rx ry ⟨_, _, rfl, rfl, hc, fun l => q _ F H l (.refl sm) (.int _)⟩
  · split at e <;> cases e
    rename_i hc
    obtain ⟨h0, h1, h2⟩ := hc
    cases hy
    cases hx with
    | lst h a =>
      unfold two62 at h1
      refine opR_by op_rep I rx ry ⟨_, _, _, rfl, rfl, sm _ _ h, by omega, by omega, by rw [a.length, ← z]; exact h2, fun p np l => q _ (upd F p _) _ l (Grow.new sm np) (.lst upd_same ?_)⟩
      exact (a.rep _).same (same_new (sm.free np))
  · split at e <;> cases e
    rename_i hc
    cases hx; cases hy
    exact opR_by op_mul_str I rx ry ⟨_, _, rfl, rfl, hc, fun l => q _ F H l (.refl sm) (.str _)⟩
  · split at e <;> cases e
    rename_i hc
    cases hx; cases hy
    exact opR_by op_fdivW I rx ry ⟨_, _, rfl, rfl, wide_div hc.1 (nat64 (by omega) hc.2) (by decide) (by decide), fun l => q _ F H l (.refl sm) (.int _)⟩
  · split at e <;> cases e
    rename_i hc
    cases hx; cases hy
    exact opR_by op_mod I rx ry ⟨_, _, rfl, rfl, hc, fun l => q _ F H l (.refl sm) (.int _)⟩
  · split at e <;> cases e
    rename_i hc
    obtain ⟨h1, h2, h3, h4⟩ := hc
    cases hx; cases hy
    exact opR_by op_pow I rx ry ⟨_, _, rfl, rfl, ⟨h1, by omega, nat64 h3 h4⟩, fun l => q _ F H l (.refl sm) (.int _)⟩
end Mz

/-! Part 4: comparisons, places, slices, built-ins. -/
namespace Mz
open PySem PySem.Spec PyProof.Rows L2

theorem lexI_eq : ∀ l m : List Int, lexI l m = HT.lexLt l m
  | [], [] => rfl
  | [], _ :: _ => rfl
  | _ :: _, [] => rfl
  | x :: xs, y :: ys => by rw [HT.lexLt_cons, lexI, lexI_eq xs ys]
def rCmp (K : PySem.W.Frag) (f : D → D → Out Bool) : R2 := fun x y H Q => ∃ F dx dy k, Same F H ∧ Dn K F x dx ∧ Dn K F y dy ∧ f dx dy = .ok k ∧ Q (.bl k) H
section
variable {K : PySem.W.Frag} {F H : Hp}
theorem flat_dn : ∀ {v : V} {d : D}, Dn K F v d → flatD d = true → flatV v = true
  | _, _, .non, _ => rfl
  | _, _, .bl b, _ => rfl
  | _, _, .int i, _ => rfl
  | _, _, .str x, _ => rfl
  | _, _, .lst _ _, h => by cases h
  | _, _, .tup _ _, h => by cases h
  | _, _, .scr _, h => by cases h
theorem flat_all : ∀ {vs : List V} {ds : List D}, DnAll K F vs ds → ds.all flatD = true → vs.all flatV = true
  | _, _, .nil, _ => rfl
  | _, _, .cons h ha, e => by
    rw [List.all_cons, Bool.and_eq_true] at e
    rw [List.all_cons, Bool.and_eq_true]
    exact ⟨flat_dn h e.1, flat_all ha e.2⟩
theorem eqV_dn {v w : V} {d e : D} (h : Dn K F v d) (g : Dn K F w e) (fd : flatD d = true) (fe : flatD e = true) : eqV v w = PyData.eqv d e := by
  cases h <;> first | cases fd | skip
  all_goals (cases g <;> first | cases fe | skip)
  all_goals simp [eqV, PyData.eqv]
theorem inV_dn {v : V} {d : D} (h : Dn K F v d) (fd : flatD d = true) : ∀ {vs : List V} {ds : List D}, DnAll K F vs ds → ds.all flatD = true → inV v vs = memD d ds
  | _, _, .nil, _ => rfl
  | _, _, .cons g ga, e => by
    rw [List.all_cons, Bool.and_eq_true] at e
    unfold inV memD
    rw [List.any_cons, List.any_cons, eqV_dn g h e.1 fd]
    exact congrArg _ (inV_dn h fd ga e.2)
end
theorem opCmp_ok (X : Cx) (op : CmpOp) (hu : X.A.units + 65 < cLine) : OpR X (compareOp op) (rCmp X.K (opCmp op)) := by
  intro pins s σ H x y v u Q I rx ry ⟨F, dx, dy, k, sm, hx, hy, e, q⟩
  unfold opCmp at e
  split at e <;> try (cases e; done)
  · cases e; cases hx; cases hy
    exact op_lt pins s σ H _ _ v u Q I rx ry ⟨_, _, rfl, rfl, q⟩
  · cases e; cases hx; cases hy
    exact op_le pins s σ H _ _ v u Q I rx ry ⟨_, _, rfl, rfl, q⟩
  · cases e; cases hx; cases hy
    exact op_gt pins s σ H _ _ v u Q I rx ry ⟨_, _, rfl, rfl, q⟩
  · cases e; cases hx; cases hy
    exact op_ge pins s σ H _ _ v u Q I rx ry ⟨_, _, rfl, rfl, q⟩
  · cases hx with
    | tup h1 a1 =>
      cases hy with
      | tup h2 a2 =>
        split at e <;> cases e
        rename_i l m e1 e2
        obtain ⟨z1, _⟩ := a1.ints e1
        obtain ⟨z2, _⟩ := a2.ints e2
        subst z1 z2
        rw [lexI_eq] at q
        exact op_ltT (by omega) pins s σ H _ _ v u Q I rx ry ⟨_, _, _, _, rfl, rfl, SqT.of (sm _ _ h1), SqT.of (sm _ _ h2), q⟩
  · split at e <;> cases e
    rename_i c
    obtain ⟨c2, c1⟩ := Bool.and_eq_true_iff.mp c
    cases hx with
    | scr h =>
      refine op_neD (by omega) pins s σ H _ _ v u Q I rx ry ⟨.list _, .list _, .lst (sm.seq h) (DnAll.dp (Same.refl H) (dnInts _) (by simpa [PyData.canLay0] using SeqAt.canLay_of_shaped c2)), hy.dp sm (SeqAt.canLay_of_shaped c1), c2, c1, q⟩
  · split at e <;> cases e
    rename_i c
    obtain ⟨c1, c2⟩ := Bool.and_eq_true_iff.mp c
    exact op_eqD (by omega) pins s σ H _ _ v u Q I rx ry ⟨_, _, hx.dp sm (SeqAt.canLay_of_shaped c1), hy.dp sm (SeqAt.canLay_of_shaped c2), c1, c2, q⟩
  · split at e <;> cases e
    rename_i c
    obtain ⟨c1, c2⟩ := Bool.and_eq_true_iff.mp c
    exact op_neD (by omega) pins s σ H _ _ v u Q I rx ry ⟨_, _, hx.dp sm (SeqAt.canLay_of_shaped c1), hy.dp sm (SeqAt.canLay_of_shaped c2), c1, c2, q⟩
  · split at e <;> cases e
    rename_i c
    obtain ⟨c1, c2⟩ := Bool.and_eq_true_iff.mp c
    exact op_inD hu pins s σ H _ _ v u Q I rx ry ⟨_, _, hx.dp sm (SeqAt.canLay_of_shaped c1), hy.dp sm (SeqAt.canLay_of_shaped c2), c1, c2, q⟩
  · split at e <;> cases e
    rename_i c
    obtain ⟨c1, c2⟩ := Bool.and_eq_true_iff.mp c
    exact op_notInD hu pins s σ H _ _ v u Q I rx ry ⟨_, _, hx.dp sm (SeqAt.canLay_of_shaped c1), hy.dp sm (SeqAt.canLay_of_shaped c2), c1, c2, q⟩
  · split at e <;> cases e
    rename_i c
    obtain ⟨c1, c2⟩ := Bool.and_eq_true_iff.mp c
    cases hy with
    | tup h2 a2 =>
      refine op_in_seq pins s σ H _ _ v u Q I rx ry ⟨_, _, rfl, .inr (SqT.of (sm _ _ h2)), flat_dn hx c1, flat_all a2 c2, ?_⟩
      rw [inV_dn hx c1 a2 c2]
      exact q
  · split at e <;> cases e
    rename_i c
    obtain ⟨c1, c2⟩ := Bool.and_eq_true_iff.mp c
    cases hy with
    | tup h2 a2 =>
      refine op_notIn_seq pins s σ H _ _ v u Q I rx ry ⟨_, _, rfl, .inr (SqT.of (sm _ _ h2)), flat_dn hx c1, flat_all a2 c2, ?_⟩
      rw [inV_dn hx c1 a2 c2]
      exact q
  · cases e; cases hx; cases hy
    exact op_in_str pins s σ H _ _ v u Q I rx ry ⟨_, _, rfl, rfl, q⟩
  · cases e; cases hx; cases hy
    exact op_notin_str pins s σ H _ _ v u Q I rx ry ⟨_, _, rfl, rfl, q⟩
  · cases e; cases hx; cases hy
    exact op_isBl pins s σ H _ _ v u Q I rx ry ⟨_, _, rfl, rfl, q⟩
  · cases e; cases hx; cases hy
    exact op_notBl pins s σ H _ _ v u Q I rx ry ⟨_, _, rfl, rfl, q⟩
  · cases e; cases hy
    refine op_isN pins s σ H _ _ v u Q I rx ry ⟨rfl, ?_⟩
    cases hx <;> exact q
  · cases e; cases hy
    refine op_notN pins s σ H _ _ v u Q I rx ry ⟨rfl, ?_⟩
    cases hx <;> exact q

/-! ### places -/
theorem atI_dn {K : PySem.W.Frag} {F : Hp} {vs : List V} {ds : List D} {k : Int} {d : D} (a : DnAll K F vs ds) (h : atI ds k = some d) : ∃ v, atI vs k = some v ∧ Dn K F v d := by
  unfold atI at h ⊢
  rw [a.length]
  cases e : ixN ds.length k with
  | none =>
    rw [e] at h
    cases h
  | some j =>
    rw [e] at h
    exact a.getD h
theorem opIx_ok (X : Cx) : IxR X (r2 X.K opIx) := by
  intro va sl pins s σ H x y v u Q I rx ry ⟨F, dx, dy, dz, sm, hx, hy, e, q⟩ hsl
  unfold opIx at e
  split at e <;> try (cases e; done)
  · split at e <;> cases e
    rename_i hat
    cases hy
    cases hx with
    | lst h a =>
      obtain ⟨w', h1, h2⟩ := atI_dn a hat
      exact ix_list va sl pins s σ H _ _ v u Q I rx ry ⟨_, _, _, _, rfl, rfl, SqL.of (sm _ _ h), h1, q _ F H (lenOk I) (.refl sm) h2⟩ hsl
  · split at e <;> cases e
    rename_i hat
    cases hy
    cases hx with
    | tup h a =>
      obtain ⟨w', h1, h2⟩ := atI_dn a hat
      exact ix_tup va sl pins s σ H _ _ v u Q I rx ry ⟨_, _, _, _, rfl, rfl, SqT.of (sm _ _ h), h1, q _ F H (lenOk I) (.refl sm) h2⟩ hsl
  · split at e <;> cases e
    rename_i hat
    cases hy
    cases hx with
    | scr h =>
      obtain ⟨w', h1, h2⟩ := atI_dn (dnInts (K := X.K) (F := F) _) hat
      exact ix_list va sl pins s σ H _ _ v u Q I rx ry ⟨_, _, _, _, rfl, rfl, sm.seq h, h1, q _ F H (lenOk I) (.refl sm) h2⟩ hsl
  · split at e <;> try (cases e; done)
    rename_i hat
    split at e <;> cases e
    rename_i hl
    cases hx
    cases hy
    exact ix_str va sl pins s σ H _ _ v u Q I rx ry ⟨_, _, _, rfl, rfl, by rw [← sz_eq]; exact hl, hat, q _ F H (lenOk I) (.refl sm) (.str _)⟩ hsl

/-! ### slices -/
theorem cut_dn {K : PySem.W.Frag} {F : Hp} {vs : List V} {ds : List D} (a : DnAll K F vs ds) (lo hi : Option Int) : DnAll K F (cutV vs lo hi) (cutD ds lo hi) := by
  unfold cutV cutD
  rw [a.length]
  exact (a.drop _).take _
def rSlc (K : PySem.W.Frag) : V → Option Int → Option Int → Hp → VK → Prop := fun x lo hi H Q => ∃ F dx dz, Same F H ∧ Dn K F x dx ∧ opSlc dx lo hi = .ok dz ∧ ∀ v F' H', Grow F H F' H' → Dn K F' v dz → Q v H'
theorem opSlc_ok (X : Cx) : SlR X (rSlc X.K) := by
  intro pins s σ H x v vl vu lo hi sl Q I rx hs pl pu ⟨F, dx, dz, sm, hx, e, q⟩
  unfold opSlc at e
  split at e <;> try (cases e; done)
  rotate_left 2
  · split at e <;> cases e
    rename_i hl
    cases hx
    exact sl_str pins s σ H _ v vl vu lo hi sl Q I rx hs pl pu ⟨_, rfl, by rw [← sz_eq]; exact hl, q _ F H (.refl sm) (.str _)⟩
  all_goals cases e
  · cases hx with
    | lst h a =>
      exact sl_list pins s σ H _ v vl vu lo hi sl Q I rx hs pl pu ⟨_, _, rfl, SqL.of (sm _ _ h), fun p np => q _ (upd F p _) _ (Grow.new sm np) (.lst upd_same ((cut_dn a lo hi).same (same_new (sm.free np))))⟩
  · cases hx with
    | tup h a =>
      rename_i xs
      refine sl_tupA pins s σ H _ v vl vu lo hi sl Q I rx hs pl pu ⟨_, _, rfl, SqT.of (sm _ _ h), fun hw => ?_, fun _ p np => q _ (upd F p _) _ (Grow.new sm np) (.tup upd_same ((cut_dn a lo hi).same (same_new (sm.free np))))⟩
      refine q _ F H (.refl sm) (.tup h ?_)
      have c := cut_dn a lo hi
      have e1 : cutV xs lo hi = xs := by
        unfold cutV
        rw [hw.1, hw.2, Nat.sub_zero, List.drop_zero, List.take_length]
      rw [e1] at c
      exact c

/-! ### built-ins -/
def rCall (K : PySem.W.Frag) (f : List D → Out D) : List V → Hp → VK → Prop := fun xs H Q => ∃ F ds dz, Same F H ∧ DnAll K F xs ds ∧ f ds = .ok dz ∧ ∀ v F' H', LenOk K H' → Grow F H F' H' → Dn K F' v dz → Q v H'
theorem callR_by {X : Cx} {f : Value} {r : List V → Hp → VK → Prop} (h : CallR X f r) {pins : List (Addr × Obj)} {s : Shared} {σ : L2.St} {H : Hp} {xs : List V} {us : List Value} {Q : VK} (I : Inv X pins σ H s) (rx : Vals xs us)
    (q : r xs H fun v H' => LenOk X.K H' → Q v H') : wpAny (model X.prog X.w) X.A (call f us) (EP X pins σ Q) X.xe s :=
  thn (h pins s σ H xs us _ I rx q) fun _ _ ⟨v, H', I', r, k⟩ => ⟨v, H', I', r, k (lenOk I')⟩
theorem isort_uniq {l m : List Int} (p : m.Perm l) (s : m.Pairwise (· ≤ ·)) : m = isort ltI l := by
  have pi : ∀ (x : Int) (l : List Int), (ins ltI x l).Perm (x :: l) := fun x l => by
    induction l with
    | nil => exact List.Perm.refl _
    | cons y r ih =>
      unfold ins
      split
      · exact (ih.cons y).trans (List.Perm.swap x y r)
      · exact List.Perm.refl _
  have ps : ∀ l : List Int, (isort ltI l).Perm l := fun l => by
    induction l with
    | nil => exact List.Perm.refl _
    | cons x r ih => exact (pi x _).trans (ih.cons x)
  have si : ∀ (x : Int) (l : List Int), l.Pairwise (· ≤ ·) → (ins ltI x l).Pairwise (· ≤ ·) := fun x l => by
    induction l with
    | nil => exact fun _ => List.pairwise_singleton _ _
    | cons y r ih =>
      intro h
      obtain ⟨h1, h2⟩ := List.pairwise_cons.mp h
      unfold ins ltI
      split
      · rename_i c
        have c' : y < x := of_decide_eq_true c
        refine List.pairwise_cons.mpr ⟨fun z hz => ?_, ih h2⟩
        rcases List.mem_cons.mp ((pi x r).mem_iff.mp hz) with e | e
        · omega
        · exact h1 z e
      · rename_i c
        have c' : x ≤ y := by
          simp only [decide_eq_true_eq] at c
          omega
        refine List.pairwise_cons.mpr ⟨fun z hz => ?_, h⟩
        rcases List.mem_cons.mp hz with e | e
        · omega
        · have := h1 z e
          omega
  have ss : ∀ l : List Int, (isort ltI l).Pairwise (· ≤ ·) := fun l => by
    induction l with
    | nil => exact List.Pairwise.nil
    | cons x r ih => exact si x _ ih
  exact (p.trans (ps l).symm).eq_of_pairwise (fun a b _ _ h1 h2 => by omega) s (ss l)
theorem minBy_spec : ∀ {l : List Int} {m : Int}, minBy ltI l = some m → m ∈ l ∧ ∀ y ∈ l, m ≤ y := by
  intro l m h
  cases l with
  | nil => cases h
  | cons x r =>
    have e : r.foldl (fun m y => if ltI y m then y else m) x = m := Option.some.inj h
    subst e
    clear h
    induction r generalizing x with
    | nil => simp
    | cons y r ih =>
      rw [List.foldl_cons]
      obtain ⟨h1, h2⟩ := ih (if ltI y x = true then y else x)
      have h3 := h2 _ List.mem_cons_self
      by_cases c : ltI y x = true
      · have c' : y < x := of_decide_eq_true c
        rw [if_pos c] at h1 h2 h3 ⊢
        refine ⟨List.mem_cons_of_mem _ h1, fun z hz => ?_⟩
        rcases List.mem_cons.mp hz with e | hz
        · omega
        · exact h2 z hz
      · have c' : x ≤ y := by
          unfold ltI at c
          simp only [decide_eq_true_eq] at c
          omega
        rw [if_neg c] at h1 h2 h3 ⊢
        refine ⟨?_, fun z hz => ?_⟩
        · rcases List.mem_cons.mp h1 with e | e
          · rw [e]
            exact List.mem_cons_self
          · exact List.mem_cons_of_mem _ (List.mem_cons_of_mem _ e)
        · rcases List.mem_cons.mp hz with e | hz
          · omega
          · rcases List.mem_cons.mp hz with e | hz
            · omega
            · exact h2 z (List.mem_cons_of_mem _ hz)
theorem maxBy_spec : ∀ {l : List Int} {m : Int}, maxBy ltI l = some m → m ∈ l ∧ ∀ y ∈ l, y ≤ m := by
  intro l m h
  cases l with
  | nil => cases h
  | cons x r =>
    have e : r.foldl (fun m y => if ltI m y then y else m) x = m := Option.some.inj h
    subst e
    clear h
    induction r generalizing x with
    | nil => simp
    | cons y r ih =>
      rw [List.foldl_cons]
      obtain ⟨h1, h2⟩ := ih (if ltI x y = true then y else x)
      have h3 := h2 _ List.mem_cons_self
      by_cases c : ltI x y = true
      · have c' : x < y := of_decide_eq_true c
        rw [if_pos c] at h1 h2 h3 ⊢
        refine ⟨List.mem_cons_of_mem _ h1, fun z hz => ?_⟩
        rcases List.mem_cons.mp hz with e | hz
        · omega
        · exact h2 z hz
      · have c' : y ≤ x := by
          unfold ltI at c
          simp only [decide_eq_true_eq] at c
          omega
        rw [if_neg c] at h1 h2 h3 ⊢
        refine ⟨?_, fun z hz => ?_⟩
        · rcases List.mem_cons.mp h1 with e | e
          · rw [e]
            exact List.mem_cons_self
          · exact List.mem_cons_of_mem _ (List.mem_cons_of_mem _ e)
        · rcases List.mem_cons.mp hz with e | hz
          · omega
          · rcases List.mem_cons.mp hz with e | hz
            · omega
            · exact h2 z (List.mem_cons_of_mem _ hz)
theorem minBy_some {l : List Int} {m : Int} (h : minBy ltI l = some m) : 0 < l.length := by
  cases l with
  | nil => cases h
  | cons x r => exact Nat.succ_pos _
theorem maxBy_some {l : List Int} {m : Int} (h : maxBy ltI l = some m) : 0 < l.length := by
  cases l with
  | nil => cases h
  | cons x r => exact Nat.succ_pos _
end Mz

/-! Part 4b: sorted, of a tuple of ints; of a list of data. -/
namespace Mz
open PySem PySem.Spec PyProof.Rows L2
theorem colTup {prog : Program} {w : World} {A : Around} {E : Value → Shared → Prop} {s : Shared} {l : Addr} {vs : List Value} {Q : List Value → Shared → Prop} (hl : IsTup s.heap l vs.toArray) (hsz : vs.length ≤ sizeLine)
    (h : Q vs { s with heap := (s.heap.push (seqObj "list" #[] 0)).update s.heap.objs.size (Obj.mapSeq (· ++ vs.toArray)) }) : wpAny (model prog w) A (collect (.ref l)) Q E s := by
  obtain ⟨o, ho, hc, n, hd⟩ := id hl
  unfold collect
  refine wpAny_bind (wpAny_runValue (codeAny_builtin PyProof.Rows.entry_proto_collect' ?_))
  show wpAny _ _ (do again (.builtin "list.__iadd__" ⟨[← newList [], .ref l], []⟩)) _ _ s
  refine wpAny_bind (wpAny_newList (wpAny_pure ⟨Code.quiet_builtin _ (by decide +kernel), codeAny_builtin PyProof.Rows.entry_list_iadd' ?_⟩))
  show wpAny _ _ (Builtin.List.listExtendWith (.ref s.heap.objs.size) (.ref l) (.ref s.heap.objs.size)) _ _ { s with heap := s.heap.push (seqObj "list" #[] 0) }
  unfold Builtin.List.listExtendWith
  have ho' : (s.heap.push (seqObj "list" #[] 0)).get? l = some o := Heap.get?_push_of_some _ ho
  refine wpAny_bind (wpAny_typeOf (T := "tuple") ⟨o, ho', hc⟩ ?_)
  have ht : (Value.type "tuple" == Value.type "tuple") = true := rfl
  rw [if_pos (by rw [ht]; simp)]
  refine wpAny_bind (listItems_at ho' hd ?_)
  refine wpAny_bind (listItems_at (xs := #[]) (n := 0) (Heap.get?_push_size _ rfl) rfl ?_)
  rw [if_neg (by simp)]
  refine wpAny_bind (listUpdate_at (xs := #[]) (n := 0) (Heap.get?_push_size _ rfl) rfl ?_ (Nat.zero_le _) (by
    show (#[] ++ vs.toArray).size ≤ sizeLine + 1
    simp only [Array.size_append, List.size_toArray, List.length_nil]
    omega))
  refine wpAny_pure ?_
  show wpAny (model prog w) A (do
      let o ← load s.heap.objs.size
      match o.data with
      | .seq xs _ => pure xs.toList
      | _ => unsupported "internal:collect") Q E { s with heap := (s.heap.push (seqObj "list" #[] 0)).update s.heap.objs.size (Obj.mapSeq (· ++ vs.toArray)) }
  refine wpAny_bind (wpAny_load (get?_update_seq (Heap.get?_push_size _ rfl) _) ?_)
  show wpAny _ _ (pure ((#[] : Array Value) ++ vs.toArray).toList) Q E _
  rw [show ((#[] : Array Value) ++ vs.toArray).toList = vs by simp]
  exact wpAny_pure h
/-- sorted(t), a tuple of ints -/
theorem sortTup {X : Cx} {pins : List (Addr × Obj)} {σ : L2.St} {H : Hp} {s : Shared} {a : Addr} {ns : List Int} {Q : VK} (I : Inv X pins σ H s) (h : SqT X.K H a (ns.map V.int))
    (q : ∀ (ns' : List Int) (p : Addr), ns'.Perm ns → ns'.Pairwise (· ≤ ·) → H p = none → LenOk X.K (upd H p (.lst (ns'.map V.int))) → Q (.ref p) (upd H p (.lst (ns'.map V.int)))) : wpAny (model X.prog X.w) X.A (call (.builtin "sorted") [.ref a]) (EP X pins σ Q) X.xe s := by
  obtain ⟨vs, rv, hl, hz⟩ := I.tuple h
  have hi := rv.ints
  have hz' : vs.length ≤ sizeLine := by
    have := rv.length
    rw [← this]
    exact hz
  refine Calls.call_function_entry PyProof.Rows.kind_sorted PyProof.Rows.plain_sorted PyProof.Rows.entry_sorted (PyProof.Rows.args_sorted1 _) ?_
  unfold Builtin.«sorted»
  refine wpAny_bind (m := checkCount "sorted" 1 1 _) (wpAny_pure ?_)
  refine wpAny_bind (colTup hl hz' ?_)
  refine wpAny_bind (wpAny_newList ?_ hz')
  obtain ⟨h1, eh1⟩ : ∃ h1, (s.heap.push (seqObj "list" #[] 0)).update s.heap.objs.size (Obj.mapSeq (· ++ vs.toArray)) = h1 := ⟨_, rfl⟩
  have z1 : h1.objs.size = s.heap.objs.size + 1 := by rw [← eh1, Heap.size_update, size_push']
  have new : (h1.push (seqObj "list" vs.toArray 0)).get? (s.heap.objs.size + 1) = some (seqObj "list" vs.toArray 0) := by
    rw [← z1]
    exact Heap.get?_push_size _ rfl
  show wpAny _ _ _ _ _ { s with heap := ((s.heap.push (seqObj "list" #[] 0)).update s.heap.objs.size (Obj.mapSeq (· ++ vs.toArray))).push (seqObj "list" vs.toArray 0) }
  rw [eh1]
  rw [z1]
  have fin : ∀ out : List Value, SrtO.Srtd SrtO.ltIv out → SrtO.Stb SrtO.ltIv out vs → EP X pins σ Q (.ref (s.heap.objs.size + 1)) { s with heap := sortedAll s.heap vs out.toArray } := fun out a1 a2 => by
    obtain ⟨k1, k2, k3⟩ := SrtO.ints_out hi a1 a2
    obtain ⟨ep, he'⟩ := PyProof.Rows.sortedAll_at s.heap vs out.toArray
    have hlen : ((out.map SrtO.iv).map V.int).length ≤ sizeLine := by
      rw [List.length_map, k2.length_eq]
      rw [List.length_map] at hz
      exact hz
    have I2 : Inv X pins σ (upd H (s.heap.objs.size + 1) (.lst ((out.map SrtO.iv).map V.int))) { s with heap := sortedAll s.heap vs out.toArray } := I.laid (t' := s.toks) (fun _ _ => PyProof.Rows.sortedAll_old) (Nat.le_succ _) ⟨hlen, out, ep, vals_of_ints k1, he'⟩
    exact ⟨.ref _, _, I2, rfl, q _ _ k2 k3 (I.hok.fresh (Nat.le_succ _)) (lenOk I2)⟩
  refine wpAny_bind (wpAny_holding (wpAny_call_entry PyProof.Rows.slot_list_sort ⟨_, new, rfl⟩ PyProof.Rows.entry_list_sort (SrtO.list_sort_ord SrtO.swo_int new hz' (fun h2 => SrtO.ints_sortable hi h2) fun out hs hb => ⟨_, rfl, ?_⟩) (PyProof.Rows.args_list_sort _)))
  refine wpAny_pure ⟨_, rfl, ?_⟩
  have := fin out hs hb
  rw [← eh1] 
  exact this
theorem each_dn {K : PySem.W.Frag} {F : Hp} : ∀ {vs : List V} {its : List Value} {ds : List D}, Vals vs its → DnAll K F vs ds → PySem.W.EachIs (fun u d => ∃ x, RelV x u ∧ Dn K F x d) its ds
  | _, _, _, .nil, .nil => .nil
  | _, _, _, .cons r rs, .cons h hs => .cons ⟨_, r, h⟩ (each_dn rs hs)
theorem dn_each {K : PySem.W.Frag} {F : Hp} : ∀ {out : List Value} {ds : List D}, PySem.W.EachIs (fun u d => ∃ x, RelV x u ∧ Dn K F x d) out ds → ∃ xs, Vals xs out ∧ DnAll K F xs ds
  | _, _, .nil => ⟨[], .nil, .nil⟩
  | _, _, .cons ⟨x, r, h⟩ t => by
    obtain ⟨xs, rs, hs⟩ := dn_each t
    exact ⟨x :: xs, .cons r rs, .cons h hs⟩
theorem each_mem {α β : Type} {R S : α → β → Prop} : ∀ {as : List α} {bs : List β}, PySem.W.EachIs R as bs → (∀ a b, b ∈ bs → R a b → S a b) → PySem.W.EachIs S as bs
  | _, _, .nil, _ => .nil
  | _, _, .cons h t, f => .cons (f _ _ List.mem_cons_self h) (each_mem t fun a b hb => f a b (List.mem_cons_of_mem _ hb))
theorem sortD {X : Cx} {pins : List (Addr × Obj)} {σ : L2.St} {H F : Hp} {s : Shared} {a : Addr} {vs : List V} {ds : List D} {Q : VK} (hu : X.A.units + 65 + 2 < cLine) (I : Inv X pins σ H s) (sm : Same F H) (h : F a = some (.lst vs)) (ha : DnAll X.K F vs ds)
    (hal : PySem.W.AllAlike ds) (hk : PySem.W.Sortable ds) (hc : ∀ d ∈ ds, SeqAt.shaped d = true)
    (q : ∀ (xs : List V) (p : Addr), LenOk X.K (upd H p (.lst xs)) → DnAll X.K F xs (ds.mergeSort (PySem.W.dataLe false fun d => d)) → H p = none → Q (.ref p) (upd H p (.lst xs))) :
    wpAny (model X.prog X.w) X.A (call (.builtin "sorted") [.ref a]) (EP X pins σ Q) X.xe s := by
  obtain ⟨its, rv, hl, hz⟩ := I.list (SqL.of (sm _ _ h))
  have e := each_dn rv ha
  have em : ds.map (fun d => d) = ds := List.map_id' ds
  refine PySem.W.sorted_data (enc := fun d => d) hl.isList e (each_mem e fun u d hd ⟨x, r, hx⟩ => Dp.reads I d x u (hx.dp sm (SeqAt.canLay_of_shaped (hc d hd))) r) (by rw [em]; exact hal) (by rw [em]; exact hk) (by rw [← e.length, ← rv.length]; exact hz) (fun d hd => by
    have := SeqAt.depth_of_shaped (hc d hd)
    omega) fun out ho hs => ?_
  obtain ⟨xs, r2, h2⟩ := dn_each hs
  obtain ⟨ep, he'⟩ := PyProof.Rows.sortedAll_at s.heap its out.toArray
  have hlen : xs.length ≤ sizeLine := by
    rw [r2.length, ho, ← e.length, ← rv.length]
    exact hz
  have I2 : Inv X pins σ (upd H (s.heap.objs.size + 1) (.lst xs)) { s with heap := sortedAll s.heap its out.toArray } := I.laid (t' := s.toks) (fun _ _ => PyProof.Rows.sortedAll_old) (Nat.le_succ _) ⟨hlen, out, ep, r2, he'⟩
  exact ⟨.ref _, _, I2, rfl, q xs _ (lenOk I2) h2 (I.hok.fresh (Nat.le_succ _))⟩
end Mz

/-! Part 5: min of tuples; the built-ins by name; isinstance. -/
namespace Mz
open PySem PySem.Spec PyProof.Rows L2

/-! ### min over a list whose items are compared by what stands in the heap -/
section
variable {prog : Program} {w : World} {A : Around} {R : Result → Shared → Prop} {I : Addr} {fp wr : List Addr} {n : Nat} {P : Nat → Value → Prop} {St : Nat → Heap → Prop} {Hk : Heap → Prop}
/-- as CmpOf, where Hk holds -/
def CmpH (prog : Program) (w : World) (A : Around) (Hk : Heap → Prop) (P : Nat → Value → Prop) (bt : Nat → Nat → Bool) : Prop :=
  ∀ i j vi vj (s : Shared) (Q : Value → Shared → Prop) (E : Value → Shared → Prop), Hk s.heap → P i vi → P j vj → Q (.bool (bt i j)) s → wpAny (model prog w) A (richCompare .Lt vi vj) Q E s
theorem minName : (toString "min" ++ toString ".loop" : String) = "min.loop" := by decide
theorem minLoop (W : Walks prog w A.in1 I fp wr n P St) (bt : Nat → Nat → Bool) (S : Addr) (hSf : S ∉ fp)
    (kp : ∀ h h' : Heap, Hk h → (∀ b o, b ∉ wr → b ≠ S → h.get? b = some o → h'.get? b = some o) → Hk h') (cm : CmpH prog w A.in1 Hk P bt) :
    ∀ (k j : Nat) (s : Shared) (vb : Value) (c : Nat), n - (j + 1) = k → j + 1 ≤ n → Hk s.heap → St (j + 1) s.heap → P (argBest bt j) vb → s.heap.get? S = some { cls := .type "list", dict := none, data := .seq #[vb, vb] c, slots := #[] } →
      (∀ v h' tk, P (argBest bt (n - 1)) v → (∀ b o, b ∉ wr → b ≠ S → s.heap.get? b = some o → h'.get? b = some o) → R (.ok (.ret v)) { s with heap := h', toks := tk }) → codeAny (model prog w) A (.builtin "min.loop" ⟨[.ref I, .none, .ref S], []⟩) R s := by
  have hSw : S ∉ wr := fun h => hSf (W.sub _ h)
  have upS : ∀ (h : Heap) (f : Obj → Obj) b o, b ≠ S → h.get? b = some o → (h.update S f).get? b = some o := fun h f b o nb e => (Heap.get?_update_other h f (Ne.symm nb)).trans e
  intro k
  induction k with
  | zero =>
    intro j s vb c hk hj hh hst hP hS hR
    have hin : j + 1 = n := by omega
    refine codeAny_builtin F.entry_min_loop ?_; rw [Around.under_plainId F.plain_min_loop _]
    show wpAny _ A.in1 (seqItems? (.ref S) >>= fun _ => _) _ _ s
    refine wpAny_bind (wpAny_seqItems hS rfl ?_); show wpAny _ A.in1 (tryCatch (pyNext (.ref I)) _ >>= fun _ => _) _ _ s
    refine wpAny_bind (wpAny_tryCatch (W.done s _ _ (hin ▸ hst) fun h1 t1 k1 => ?_))
    show wpAny _ A.in1 (updateSeq S (fun _ => #[]) >>= fun _ => _) _ _ _
    refine wpAny_bind (wpAny_updateSeq (k1 S _ hSw hS) rfl (wpAny_bind (wpAny_letGo (wpAny_pure ?_))))
    exact hR vb _ t1 (by rw [← hin]; exact hP) fun b o nw nS e => upS _ _ b o nS (k1 b o nw e)
  | succ k ih =>
    intro j s vb c hk hj hh hst hP hS hR
    have hlt : j + 1 < n := by omega
    refine codeAny_builtin F.entry_min_loop ?_; rw [Around.under_plainId F.plain_min_loop _]
    show wpAny _ A.in1 (seqItems? (.ref S) >>= fun _ => _) _ _ s
    refine wpAny_bind (wpAny_seqItems hS rfl ?_); show wpAny _ A.in1 (tryCatch (pyNext (.ref I)) _ >>= fun _ => _) _ _ s
    refine wpAny_bind (wpAny_tryCatch (W.item (j + 1) s _ _ hlt hst fun v h1 t1 hv st1 k1 => ?_))
    have hS1 := k1 S _ hSw hS; have hh1 : Hk h1 := kp _ _ hh fun b o nw _ e => k1 b o nw e
    show wpAny _ A.in1 (tryCatch (holding [v, v] (richCompare .Lt v vb >>= fun _ => _)) _ >>= fun _ => _) _ _ _
    refine wpAny_bind (wpAny_tryCatch (wpAny_holding (wpAny_bind (cm (j + 1) (argBest bt j) v vb _ _ _ hh1 hv hP ?_))))
    refine wpAny_bind (wpAny_holding (wpAny_truthy_bool ?_)); refine wpAny_bind (wpAny_letGo (wpAny_pure ?_))
    cases hb : bt (j + 1) (argBest bt j) with
    | true =>
      simp only [if_true]
      refine wpAny_bind (wpAny_updateSeq hS1 rfl (wpAny_bind (wpAny_letGo ?_))); rw [minName]
      refine wpAny_pure ⟨plainId_quiet F.plain_min_loop _, ih (j + 1) _ v _ (by omega) hlt (kp _ _ hh1 fun b o _ nS e => upS _ _ b o nS e) (W.frame _ _ _ st1 fun b hbf o e => upS _ _ b o (fun z => hSf (by rw [← z]; exact hbf)) e)
        (by simp only [argBest, hb, if_true]; exact hv) (Heap.get?_update_self _ hS1 rfl) fun v' h'' tk'' hP' hk'' => hR v' h'' tk'' hP' fun b o nw nS e => hk'' b o nw nS (upS _ _ b o nS (k1 b o nw e))⟩
    | false =>
      simp only [Bool.false_eq_true, if_false]
      refine wpAny_bind (wpAny_letGo ?_); rw [minName]
      exact wpAny_pure ⟨plainId_quiet F.plain_min_loop _, ih (j + 1) _ vb c (by omega) hlt hh1 st1 (by simp only [argBest, hb, Bool.false_eq_true, if_false]; exact hP) hS1 fun v' h'' tk'' hP' hk'' => hR v' h'' tk'' hP' fun b o nw nS e => hk'' b o nw nS (k1 b o nw e)⟩
theorem minFirst (W : Walks prog w A.in1 I fp wr n P St) (bt : Nat → Nat → Bool) (S : Addr) (hSf : S ∉ fp)
    (kp : ∀ h h' : Heap, Hk h → (∀ b o, b ∉ wr → b ≠ S → h.get? b = some o → h'.get? b = some o) → Hk h') (cm : CmpH prog w A.in1 Hk P bt) (hn : 0 < n) {s : Shared} {c : Nat} (hh : Hk s.heap) (hst : St 0 s.heap)
    (hS : s.heap.get? S = some { cls := .type "list", dict := none, data := .seq #[] c, slots := #[] })
    (hR : ∀ v h' tk, P (argBest bt (n - 1)) v → (∀ b o, b ∉ wr → b ≠ S → s.heap.get? b = some o → h'.get? b = some o) → R (.ok (.ret v)) { s with heap := h', toks := tk }) : codeAny (model prog w) A (.builtin "min.loop" ⟨[.ref I, .none, .ref S], []⟩) R s := by
  have hSw : S ∉ wr := fun h => hSf (W.sub _ h)
  have upS : ∀ (h : Heap) (f : Obj → Obj) b o, b ≠ S → h.get? b = some o → (h.update S f).get? b = some o := fun h f b o nb e => (Heap.get?_update_other h f (Ne.symm nb)).trans e
  refine codeAny_builtin F.entry_min_loop ?_; rw [Around.under_plainId F.plain_min_loop _]
  show wpAny _ A.in1 (seqItems? (.ref S) >>= fun _ => _) _ _ s
  refine wpAny_bind (wpAny_seqItems hS rfl ?_); show wpAny _ A.in1 (tryCatch (pyNext (.ref I)) _ >>= fun _ => _) _ _ s
  refine wpAny_bind (wpAny_tryCatch (W.item 0 s _ _ hn hst fun v h1 t1 hv st1 k1 => ?_))
  have hS1 := k1 S _ hSw hS; have hh1 : Hk h1 := kp _ _ hh fun b o nw _ e => k1 b o nw e
  show wpAny _ A.in1 (updateSeq S (fun _ => #[v, v]) >>= fun _ => _) _ _ _
  refine wpAny_bind (wpAny_updateSeq hS1 rfl ?_); rw [minName]
  refine wpAny_pure ⟨plainId_quiet F.plain_min_loop _, minLoop W bt S hSf kp cm _ 0 _ v _ rfl hn (kp _ _ hh1 fun b o _ nS e => upS _ _ b o nS e) (W.frame _ _ _ st1 fun b hbf o e => upS _ _ b o (fun z => hSf (by rw [← z]; exact hbf)) e) hv (Heap.get?_update_self _ hS1 rfl) fun v' h'' tk'' hP' hk'' => ?_⟩
  exact hR v' h'' tk'' hP' fun b o nw nS e => hk'' b o nw nS (upS _ _ b o nS (k1 b o nw e))
end
section
variable {prog : Program} {w : World} {A : Around} {E : Value → Shared → Prop} {s : Shared}
theorem minCall {x : Value} {Q : Value → Shared → Prop}
    (h : wpAny (model prog w) A.in1 (pyIter x) (fun it s₂ => ∃ I fp wr n P St bt Hk, it = .ref I ∧ Walks prog w A.in1 I fp wr n P St ∧ St 0 s₂.heap ∧ (∀ b ∈ fp, b < s₂.heap.objs.size) ∧ 0 < n ∧ CmpH prog w A.in1 Hk P bt ∧ Hk s₂.heap ∧
      (∀ S h h' : Heap, True) ∧ (∀ (S : Addr) (h h' : Heap), s₂.heap.objs.size ≤ S → Hk h → (∀ b o, b ∉ wr → b ≠ S → h.get? b = some o → h'.get? b = some o) → Hk h') ∧
      ∀ v h' tk, P (argBest bt (n - 1)) v → (∀ b o, b ∉ wr → s₂.heap.get? b = some o → h'.get? b = some o) → Q v { s₂ with heap := h', toks := tk }) E s) : wpAny (model prog w) A (call (.builtin "min") [x]) Q E s := by
  refine call_function_tree F.kind_min F.plain_min F.entry_min (F.args_min1 _) ?_
  show wpAny _ A.in1 (Builtin.Builtins.bindParams "min" ["key", "default"] 0 ⟨[], []⟩ >>= fun _ => _) _ _ s
  refine wpAny_bind (wpAny_of_eq (show Builtin.Builtins.bindParams "min" ["key", "default"] 0 ⟨[], []⟩ = pure [none, none] from rfl) (wpAny_bind (wpAny_pure (wpAny_bind (wpAny_mono h (fun it s₂ h₂ => ?_) fun _ _ e => e)))))
  obtain ⟨I, fp, wr, n, P, St, bt, Hk, rfl, W, hst, hfp, hn, hcmp, hh, _, kp, hQ⟩ := h₂
  refine wpAny_bind (wpAny_newObj_type ?_)
  have hSf : s₂.heap.objs.size ∉ fp := fun hm => Nat.lt_irrefl _ (hfp _ hm)
  rw [minName]
  refine wpAny_pure ⟨plainId_quiet F.plain_min_loop _, minFirst (Hk := Hk) W bt s₂.heap.objs.size hSf (fun h h' a b => kp _ h h' (Nat.le_refl _) a b) hcmp hn (kp _ _ _ (Nat.le_refl _) hh fun b o _ _ e => Heap.get?_push_of_some _ e) (W.frame _ _ _ hst fun b _ o e => Heap.get?_push_of_some _ e) (Heap.get?_push_size _ rfl) fun v h' tk hP hk => ?_⟩
  exact hQ v h' tk hP fun b o hbw e => hk b o hbw (Nat.ne_of_lt (Heap.lt_size e)) (Heap.get?_push_of_some _ e)
end
/-- the least by argBest is the one by the fold -/
theorem argBest_fold {α : Type} (lt : α → α → Bool) (l : List α) (d : α) : ∀ k, k < l.length → l.getD (argBest (fun i j => lt (l.getD i d) (l.getD j d)) k) d = ((l.take (k + 1)).drop 1).foldl (fun m y => if lt y m then y else m) (l.getD 0 d) := by
  intro k
  induction k with
  | zero =>
    intro h
    cases l with
    | nil => simp at h
    | cons x r => rfl
  | succ k ih =>
    intro h
    have e := ih (by omega)
    have t : ((l.take (k + 1 + 1)).drop 1) = (l.take (k + 1)).drop 1 ++ [l.getD (k + 1) d] := by
      rw [List.take_succ, List.getElem?_eq_getElem h, List.drop_append_of_le_length (by rw [List.length_take]; omega)]
      simp [List.getD_eq_getElem?_getD, List.getElem?_eq_getElem h]
    rw [t, List.foldl_append, ← e]
    simp only [List.foldl_cons, List.foldl_nil, argBest]
    split <;> rfl
theorem min_fold {α : Type} (lt : α → α → Bool) (l : List α) (d m : α) (h : minBy lt l = some m) : l.getD (argBest (fun i j => lt (l.getD i d) (l.getD j d)) (l.length - 1)) d = m := by
  cases l with
  | nil => cases h
  | cons x r =>
    have e : r.foldl (fun m y => if lt y m then y else m) x = m := Option.some.inj h
    rw [argBest_fold lt (x :: r) d _ (by simp)]
    rw [← e]
    simp
theorem DnAll.tups {K : PySem.W.Frag} {F : Hp} : ∀ {vs : List V} {ds : List D} {ts : List (List Int)}, DnAll K F vs ds → allTups ds = some ts → ds = ts.map tupI ∧ vs.length = ts.length ∧ ∀ (i : Nat) (t : List Int), ts[i]? = some t → ∃ a, vs[i]? = some (V.ref a) ∧ F a = some (.tup (t.map V.int))
  | _, _, ts, .nil, h => by
    simp only [allTups, Option.some.injEq] at h
    subst h
    exact ⟨rfl, rfl, fun i t e => by simp at e⟩
  | _, _, ts, .cons h ha, e => by
    unfold allTups at e
    split at e
    · rename_i b l hl
      split at e <;> cases e
      rename_i ns hns
      obtain ⟨e1, e2, e3⟩ := DnAll.tups ha hl
      cases h with
      | tup hs hd =>
        obtain ⟨z1, z2⟩ := hd.ints hns
        subst z1 z2
        refine ⟨by rw [e1] <;> rfl, by simp [e2], fun i t q => ?_⟩
        cases i with
        | zero =>
          simp at q
          subst q
          exact ⟨_, rfl, hs⟩
        | succ i =>
          obtain ⟨a, h1, h2⟩ := e3 i t (by simpa using q)
          exact ⟨a, by simpa using h1, h2⟩
    · cases e
/-- min(xs), xs a list of tuples of ints -/
theorem cr_minT {X : Cx} (hc : X.calm = true) (hu : X.A.units + 65 < cLine) {pins : List (Addr × Obj)} {s : Shared} {σ : L2.St} {H F : Hp} {a : Addr} {vs : List V} {ds : List D} {ts : List (List Int)} {m : List Int} {Q : VK} (I : Inv X pins σ H s) (sm : Same F H)
    (h : F a = some (.lst vs)) (ha : DnAll X.K F vs ds) (e : allTups ds = some ts) (hm : minBy lexI ts = some m) (q : ∀ p, F p = some (.tup (m.map V.int)) → Q (.ref p) H) :
    wpAny (model X.prog X.w) X.A (call (.builtin "min") [.ref a]) (EP X pins σ Q) X.xe s := by
  obtain ⟨_, el, at_⟩ := ha.tups e
  obtain ⟨its, rv, pl, hz⟩ := I.list (SqL.of (sm _ _ h))
  have hpos : 0 < ts.length := by
    cases ts with
    | nil => cases hm
    | cons x r => exact Nat.succ_pos _
  have il : its.length = ts.length := by rw [← rv.length]; exact el
  have hlt : a < s.heap.objs.size := by
    obtain ⟨o, n, ho, _⟩ := pl
    exact Heap.lt_size ho
  let Hk : Heap → Prop := fun h => ∀ (i : Nat) (t : List Int), ts[i]? = some t → ∃ (p : Addr) (w : Array Value), its[i]? = some (Value.ref p) ∧ IsTup h p w ∧ IntsAre w.toList t
  have hk0 : Hk s.heap := fun i t hi => by
    obtain ⟨p, h1, h2⟩ := at_ i t hi
    obtain ⟨u, h3, h4⟩ := rv.get h1
    obtain rfl : u = Value.ref p := h4
    obtain ⟨w, r2, tp, _⟩ := I.tuple (SqT.of (sm _ _ h2))
    exact ⟨p, w.toArray, h3, tp, by simpa using r2.ints⟩
  have keep : ∀ (h h' : Heap), Hk h → (∀ (p : Addr) (o : Obj), (∃ i : Nat, its[i]? = some (Value.ref p)) → h.get? p = some o → h'.get? p = some o) → Hk h' := fun h h' k z i t hi => by
    obtain ⟨p, w, h1, ⟨o, ho, r⟩, h3⟩ := k i t hi
    exact ⟨p, w, h1, ⟨o, z p o ⟨i, h1⟩ ho, r⟩, h3⟩
  have old : ∀ p, (∃ i : Nat, its[i]? = some (Value.ref p)) → p < s.heap.objs.size := fun p ⟨i, hi⟩ => by
    have hi2 : i < ts.length := by
      rw [← il]
      exact (List.getElem?_eq_some_iff.mp hi).1
    obtain ⟨p', w, h1, h2, _⟩ := hk0 i _ (List.getElem?_eq_getElem hi2)
    rw [hi] at h1
    cases h1
    obtain ⟨o, ho, _⟩ := h2
    exact Heap.lt_size ho
  have fp : ∀ b, b ∈ [s.heap.objs.size, a] → b < (s.heap.push { cls := .type "list_iterator", data := .fields #[.ref a, .int 0 0] }).objs.size := fun b hb => by
    rw [Heap.size_push]
    rcases List.mem_cons.mp hb with z | z
    · rw [z]
      exact Nat.lt_succ_self _
    · rcases List.mem_cons.mp z with z | z
      · rw [z]
        exact Nat.lt_succ_of_lt hlt
      · cases z
  refine minCall (wpAny_pyIter_list pl.isList ?_)
  refine ⟨s.heap.objs.size, _, _, _, _, _, fun i j => lexI (ts.getD i []) (ts.getD j []), Hk, rfl, Walks.list (A := X.A.in1) (I.ok.hd hc) _ a (Nat.ne_of_lt hlt) its.toArray, ⟨⟨_, Heap.get?_push_size _ rfl, rfl, rfl⟩, pl.isList.push _⟩, fp, by simpa [il] using hpos, ?_, keep _ _ hk0 fun p o _ z => Heap.get?_push_of_some _ z, fun _ _ _ => trivial, ?_, ?_⟩
  · intro i j vi vj s1 Q1 E1 k hi hj hq
    have hi1 : its[i]? = some vi := by simpa using hi
    have hj1 : its[j]? = some vj := by simpa using hj
    have hi2 : i < ts.length := by
      rw [← il]
      exact (List.getElem?_eq_some_iff.mp hi1).1
    have hj2 : j < ts.length := by
      rw [← il]
      exact (List.getElem?_eq_some_iff.mp hj1).1
    obtain ⟨p, w, h1, h2, h3⟩ := k i _ (List.getElem?_eq_getElem hi2)
    obtain ⟨p', w', g1, g2, g3⟩ := k j _ (List.getElem?_eq_getElem hj2)
    rw [hi1] at h1
    rw [hj1] at g1
    cases h1
    cases g1
    have hu1 : X.A.in1.units < cLine := by
      show X.A.units + 1 < cLine
      omega
    have ei : ts.getD i [] = ts[i] := by simp [List.getD_eq_getElem?_getD, List.getElem?_eq_getElem hi2]
    have ej : ts.getD j [] = ts[j] := by simp [List.getD_eq_getElem?_getD, List.getElem?_eq_getElem hj2]
    have hq : Q1 (Value.bool (lexI (ts.getD i []) (ts.getD j []))) s1 := hq
    rw [ei, ej, lexI_eq] at hq
    exact HT.lt_tupInts h2 g2 h3 g3 hu1 hq
  · intro S h h' hS k z
    refine keep _ _ k fun p o hp ho => z p o ?_ ?_ ho
    · intro hm'
      have := old p hp
      rw [List.mem_singleton.mp hm'] at this
      exact absurd this (Nat.lt_irrefl _)
    · intro e2
      have := old p hp
      rw [e2] at this
      rw [show (s.heap.push { cls := .type "list_iterator", data := .fields #[.ref a, .int 0 0] } : Heap).objs.size = s.heap.objs.size + 1 from Heap.size_push ..] at hS
      exact absurd (Nat.lt_of_lt_of_le this (Nat.le_of_succ_le hS)) (Nat.lt_irrefl _)
  · intro v h' tk hP hkp
    have hsz : its.toArray.size = ts.length := by rw [List.size_toArray, il]
    rw [hsz] at hP
    have mf := min_fold lexI ts [] m hm
    generalize argBest (fun i j => lexI (ts.getD i []) (ts.getD j [])) (ts.length - 1) = b at hP mf
    have hb1 : its[b]? = some v := by simpa using hP
    have hb2 : b < ts.length := by
      rw [← il]
      exact (List.getElem?_eq_some_iff.mp hb1).1
    have eb : ts.getD b [] = ts[b] := by simp [List.getD_eq_getElem?_getD, List.getElem?_eq_getElem hb2]
    obtain ⟨p, h1, h2⟩ := at_ b _ (List.getElem?_eq_getElem hb2)
    rw [← eb, mf] at h2
    obtain ⟨u, h3, h4⟩ := rv.get h1
    rw [hb1] at h3
    cases h3
    exact ⟨.ref p, H, I.kept (t' := tk) (PySem.old_kept (l := a) hkp), h4, q p h2⟩

theorem DnAll.dps {K : PySem.W.Frag} {F H : Hp} (sm : Same F H) : ∀ {vs : List V} {ds : List D}, DnAll K F vs ds → (∀ d ∈ ds, SeqAt.shaped d = true) → DpAll K H vs ds
  | _, _, .nil, _ => .nil
  | _, _, .cons h ha, c => .cons (h.dp sm (SeqAt.canLay_of_shaped (c _ List.mem_cons_self))) (DnAll.dps sm ha fun d hd => c d (List.mem_cons_of_mem _ hd))
/-- min(xs), xs a list of data -/
theorem cr_minD {X : Cx} (hc : X.calm = true) (hu : X.A.units + 67 < cLine) {pins : List (Addr × Obj)} {s : Shared} {σ : L2.St} {H F : Hp} {a : Addr} {vs : List V} {x : D} {xs : List D} {Q : VK} (I : Inv X pins σ H s) (sm : Same F H)
    (h : F a = some (.lst vs)) (ha : DnAll X.K F vs (x :: xs)) (al : PySem.W.AlikeAll (x :: xs)) (sh : ∀ d ∈ x :: xs, SeqAt.shaped d = true) (q : ∀ v, Dn X.K F v (PySem.W.minD x xs) → Q v H) :
    wpAny (model X.prog X.w) X.A (call (.builtin "min") [.ref a]) (EP X pins σ Q) X.xe s := by
  obtain ⟨its, rv, pl, hz⟩ := I.list (SqL.of (sm _ _ h))
  obtain ⟨as, hr⟩ := Dp.readsAll I _ _ _ (ha.dps sm sh) rv
  have hr' : ReadsAll s.heap its.toArray.toList (x :: xs) as := by simpa using hr
  have el : its.toArray.size = xs.length + 1 := PySem.W.readsAll_len hr'
  refine PySem.call_min_walkH (PySem.W.iter_listW (A := X.A.in1) (I.ok.hd hc) (l := a) (vs := its.toArray) pl.isList fun s₂ e W st hfp hw hk => ?_)
  refine ⟨_, _, _, _, _, _, _, s.heap, fun i j => PySem.W.dataLt ((x :: xs).getD i .none) ((x :: xs).getD j .none), rfl, W, st, hfp, by omega, hw, hk, fun i j vi vj s' Q E hk hi hj hq => ?_, fun v s' hP m => ?_⟩
  · obtain ⟨as1, r1, _, m1, d1⟩ := PySem.W.readsAll_atA hr' i vi hi
    obtain ⟨as2, r2, _, m2, d2⟩ := PySem.W.readsAll_atA hr' j vj hj
    refine PySem.W.rcLt_alike _ _ X.A.in1 s' vi vj _ _ (PySem.W.reads_keeps hk r1) (PySem.W.reads_keeps hk r2) (al.1 _ m1 _ m2) (al.2 _ m1) ?_ X.prog X.w E Q hq
    have h1 := Nat.min_le_left ((x :: xs).getD i .none).depth ((x :: xs).getD j .none).depth
    have h2 := SeqAt.depth_of_shaped (sh _ m1)
    show X.A.units + 1 + _ < cLine
    omega
  · obtain ⟨h', tk, rfl, hk'⟩ := PySem.W.moved_old e rfl m
    have e1 : its.toArray.size - 1 = xs.length := by omega
    rw [e1] at hP
    have e2 := (PySem.W.argBest_fold PySem.W.dataLt PyData.none x xs xs.length (Nat.le_refl _))
    rw [List.take_length] at e2
    obtain ⟨e3, e2⟩ := e2
    generalize argBest (fun i j => PySem.W.dataLt ((x :: xs).getD i .none) ((x :: xs).getD j .none)) xs.length = b at hP e2 e3
    have hb : b < (x :: xs).length := by
      rw [List.length_cons]
      omega
    have eb : (x :: xs)[b]? = some (PySem.W.minD x xs) := by
      rw [List.getElem?_eq_getElem hb]
      rw [List.getD_eq_getElem?_getD, List.getElem?_eq_getElem hb] at e2
      exact congrArg some e2
    obtain ⟨y, hy, dy⟩ := ha.getD eb
    obtain ⟨u, h3, h4⟩ := rv.get hy
    have hb1 : its[b]? = some v := by simpa using hP
    rw [hb1] at h3
    cases h3
    exact ⟨y, H, I.kept (t' := tk) hk', h4, q y dy⟩

/-! ### the built-ins -/
theorem DnAll.one {K : PySem.W.Frag} {F : Hp} {xs : List V} {d : D} (h : DnAll K F xs [d]) : ∃ v, xs = [v] ∧ Dn K F v d := by
  cases h with
  | cons h1 h2 =>
    cases h2
    exact ⟨_, rfl, h1⟩
theorem DnAll.two {K : PySem.W.Frag} {F : Hp} {xs : List V} {d e : D} (h : DnAll K F xs [d, e]) : ∃ v w, xs = [v, w] ∧ Dn K F v d ∧ Dn K F w e := by
  cases h with
  | cons h1 h2 =>
    obtain ⟨w, e, h3⟩ := h2.one
    subst e
    exact ⟨_, _, rfl, h1, h3⟩
def Bl.val : Bl → Value
  | .tuple => .type "tuple"
  | .list => .type "list"
  | b => .builtin (match b with | .len => "len" | .sorted => "sorted" | .min => "min" | .max => "max" | .sum => "sum" | .all => "all" | _ => "any")
theorem opBl_ok (X : Cx) (b : Bl) (hc : X.calm = true) (hu2 : X.A.units + 67 < cLine) : CallR X b.val (rCall X.K (opBl b)) := by
  intro pins s σ H xs us Q I rx ⟨F, ds, dz, sm, hx, e, q⟩
  have hu : X.A.units + 65 < cLine := by omega
  unfold opBl at e
  split at e <;> try (cases e; done)
  · -- len
    obtain ⟨v, rfl, h⟩ := hx.one
    unfold opLen at e
    split at e <;> try (cases e; done)
    rotate_left 3
    · split at e <;> cases e
      rename_i hl
      cases h
      exact callR_by call_len_str I rx ⟨_, rfl, by rw [← sz_eq]; exact hl, fun l => q _ F H l (.refl sm) (.int _)⟩
    all_goals cases e
    · cases h with
      | lst h a => exact callR_by call_len_seq I rx ⟨_, _, rfl, .inl (SqL.of (sm _ _ h)), fun l => q _ F H l (.refl sm) (by rw [a.length]; exact .int _)⟩
    · cases h with
      | tup h a => exact callR_by call_len_seq I rx ⟨_, _, rfl, .inr (SqT.of (sm _ _ h)), fun l => q _ F H l (.refl sm) (by rw [a.length]; exact .int _)⟩
    · cases h with
      | scr h => exact callR_by call_len_seq I rx ⟨_, _, rfl, .inl (sm.seq h), fun l => q _ F H l (.refl sm) (by rw [List.length_map, List.length_map]; exact .int _)⟩
  · -- sorted
    obtain ⟨v, rfl, h⟩ := hx.one
    unfold opSorted at e
    split at e <;> try (cases e; done)
    · split at e
      · cases e
        rename_i ns hns
        cases h with
        | lst h a =>
          obtain ⟨e1, _⟩ := a.ints hns
          subst e1
          refine callR_by cr_sortedI I rx ⟨_, _, rfl, SqL.of (sm _ _ h), fun ns' p hp hs np l => ?_⟩
          rw [isort_uniq hp hs] at l ⊢
          exact q _ (upd F p _) _ l (Grow.new sm np) (.lst upd_same (dnInts _))
      · split at e
        · rename_i hso
          cases e
          unfold srtOk at hso
          simp only [Bool.and_eq_true, List.all_eq_true] at hso
          obtain ⟨⟨o1, o2⟩, o3⟩ := hso
          cases h with
          | lst h a =>
            have e1 := Vals.ref1 rx
            subst e1
            refine sortD (by omega) I sm h a (fun d hd e he => o1 d hd e he) (.inl fun d hd => ?_) o3 fun xs p l hx hp => ?_
            · have := o2 d hd
              split at this
              · exact ⟨_, _, rfl⟩
              · cases this
            · exact q _ (upd F p _) _ l (Grow.new sm hp) (.lst upd_same (hx.same (same_new (sm.free hp))))
        · cases e
    · split at e <;> cases e
      rename_i ns hns
      cases h with
      | tup h a =>
        obtain ⟨e1, e2⟩ := a.ints hns
        subst e1 e2
        have e1 := Vals.ref1 rx
        subst e1
        refine sortTup I (SqT.of (sm _ _ h)) fun ns' p hp hs np l => ?_
        rw [isort_uniq hp hs] at l ⊢
        exact q _ (upd F p _) _ l (Grow.new sm np) (.lst upd_same (dnInts _))
  · obtain ⟨v, w', rfl, h1, h2⟩ := hx.two
    cases e; cases h1; cases h2
    exact callR_by (call_min2 hc) I rx ⟨_, _, rfl, fun l => q _ F H l (.refl sm) (.int _)⟩
  · obtain ⟨v, w', rfl, h1, h2⟩ := hx.two
    cases e; cases h1; cases h2
    exact callR_by (call_max2 hc) I rx ⟨_, _, rfl, fun l => q _ F H l (.refl sm) (.int _)⟩
  · -- min
    obtain ⟨v, rfl, h⟩ := hx.one
    split at e
    · rename_i ns hns
      split at e <;> cases e
      rename_i m hm
      cases h with
      | lst h a =>
        obtain ⟨e1, _⟩ := a.ints hns
        subst e1
        refine callR_by (cr_min hc) I rx ⟨_, _, rfl, SqL.of (sm _ _ h), minBy_some hm, fun m' h1 h2 l => ?_⟩
        obtain ⟨g1, g2⟩ := minBy_spec hm
        have em : m' = m := by
          have z1 := h2 m g1
          have z2 := g2 m' h1
          omega
        subst em
        exact q _ F H l (.refl sm) (.int _)
    · split at e
      rotate_left
      · split at e
        · rename_i hso
          unfold srtOk at hso
          simp only [Bool.and_eq_true, List.all_eq_true] at hso
          obtain ⟨⟨o1, o2⟩, o3⟩ := hso
          cases h with
          | lst h a =>
            have e1 := Vals.ref1 rx
            subst e1
            unfold minR at e
            split at e <;> cases e
            rename_i d0 ds0
            exact cr_minD hc hu2 I sm h a ⟨fun d hd e he => o1 d hd e he, fun d hd z => by
              have := o2 d hd
              rw [z] at this
              cases this⟩ o3 fun v hv => q v F H (lenOk I) (.refl sm) hv
        · cases e
      rename_i ts hts
      split at e <;> cases e
      rename_i m hm
      cases h with
      | lst h a =>
        have e1 := Vals.ref1 rx
        subst e1
        exact cr_minT hc hu I sm h a hts hm fun p hp => q _ F H (lenOk I) (.refl sm) (.tup hp (dnInts _))
  · obtain ⟨v, rfl, h⟩ := hx.one
    split at e <;> try (cases e; done)
    rename_i ns hns
    split at e <;> cases e
    rename_i m hm
    cases h with
    | lst h a =>
      obtain ⟨e1, _⟩ := a.ints hns
      subst e1
      refine callR_by (cr_max hc) I rx ⟨_, _, rfl, SqL.of (sm _ _ h), maxBy_some hm, fun m' h1 h2 l => ?_⟩
      obtain ⟨g1, g2⟩ := maxBy_spec hm
      have em : m' = m := by
        have z1 := h2 m g1
        have z2 := g2 m' h1
        omega
      subst em
      exact q _ F H l (.refl sm) (.int _)
  · obtain ⟨v, rfl, h⟩ := hx.one
    split at e <;> cases e
    rename_i ns hns
    cases h with
    | lst h a =>
      obtain ⟨e1, _⟩ := a.ints hns
      subst e1
      exact callR_by (cr_sum hc) I rx ⟨_, _, rfl, SqL.of (sm _ _ h), fun l => q _ F H l (.refl sm) (.int _)⟩
  · obtain ⟨v, rfl, h⟩ := hx.one
    split at e <;> cases e
    rename_i ns hns
    cases h with
    | lst h a =>
      obtain ⟨e1, _⟩ := a.bools hns
      subst e1
      exact callR_by (cr_all hc) I rx ⟨_, _, rfl, SqL.of (sm _ _ h), fun l => q _ F H l (.refl sm) (.bl _)⟩
  · obtain ⟨v, rfl, h⟩ := hx.one
    split at e <;> cases e
    rename_i ns hns
    cases h with
    | lst h a =>
      obtain ⟨e1, _⟩ := a.bools hns
      subst e1
      exact callR_by (cr_any hc) I rx ⟨_, _, rfl, SqL.of (sm _ _ h), fun l => q _ F H l (.refl sm) (.bl _)⟩
  · obtain ⟨v, rfl, h⟩ := hx.one
    cases e
    cases h with
    | lst h a => exact callR_by call_tuple_of I rx ⟨_, _, rfl, .inl ⟨SqL.of (sm _ _ h), fun p np l => q _ (upd F p _) _ l (Grow.new sm np) (.tup upd_same (a.same (same_new (sm.free np))))⟩⟩
  · obtain ⟨v, rfl, h⟩ := hx.one
    cases e
    cases h with
    | tup h a => exact callR_by call_tuple_of I rx ⟨_, _, rfl, .inr ⟨SqT.of (sm _ _ h), fun l => q _ F H l (.refl sm) (.tup h a)⟩⟩
  · obtain ⟨v, rfl, h⟩ := hx.one
    cases e
    cases h with
    | lst h a => exact callR_by call_list_of I rx ⟨_, _, rfl, .inl (SqL.of (sm _ _ h)), fun p np l => q _ (upd F p _) _ l (Grow.new sm np) (.lst upd_same (a.same (same_new (sm.free np))))⟩
  · obtain ⟨v, rfl, h⟩ := hx.one
    cases e
    cases h with
    | tup h a => exact callR_by call_list_of I rx ⟨_, _, rfl, .inr (SqT.of (sm _ _ h)), fun p np l => q _ (upd F p _) _ l (Grow.new sm np) (.lst upd_same (a.same (same_new (sm.free np))))⟩

/-! ### isinstance -/
theorem tyX_dn {K : PySem.W.Frag} {F H : Hp} (sm : Same F H) {v : V} {d : D} (h : Dn K F v d) (c : Cl) (b : Bool) (e : isD c d = .ok b) : ∃ t, TyX K H v t ∧ PySem.W.kitOne K t (.type c.nm) = some b := by
  have tt : ∀ (T : String), (∀ c : Cl, PySem.W.kitOne K (.type T) (.type c.nm) = some (match T, c with
      | "bool", .int => true | "bool", .bool => true | "int", .int => true | "str", .str => true | "list", .list => true | "tuple", .tuple => true | _, _ => false)) → True := fun _ _ => trivial
  cases h with
  | non => cases e; exact ⟨_, .base .non, kit_ty (by cases c <;> decide +kernel)⟩
  | bl x =>
    cases e
    refine ⟨_, .base (.bl x), ?_⟩
    cases c <;> exact kit_ty (by decide +kernel)
  | int i =>
    cases e
    refine ⟨_, .base (.int i), ?_⟩
    cases c <;> exact kit_ty (by decide +kernel)
  | str x =>
    cases e
    refine ⟨_, .base (.str x), ?_⟩
    cases c <;> exact kit_ty (by decide +kernel)
  | lst h a =>
    cases e
    refine ⟨_, .base (.lst (sm _ _ h)), ?_⟩
    cases c <;> exact kit_ty (by decide +kernel)
  | tup h a =>
    cases e
    have hk : PySem.W.kitOne K (.type "tuple") (.type c.nm) = some (match c with | .tuple => true | _ => false) := by cases c <;> exact kit_ty (by decide +kernel)
    exact ⟨_, .base (.tup (sm _ _ h)), hk⟩
  | scr h => cases e
end Mz

/-! Part 6: the machine agrees with the evaluator on expressions. -/
namespace Mz
open PySem PySem.Spec PyProof.Rows L2

/-- a def's promise: what the evaluator says -/
def spD (K : PySem.W.Frag) (cl : Nat → Addr) (np : Nat) (g : List D → Out D) : Sp := fun vs H Q E => ∃ F ds, vs.length = np ∧ Same F H ∧ DnAll K F vs ds ∧ match g ds with
  | .ok d => ∀ v F' H', Grow F H F' H' → Dn K F' v d → Q v H'
  | .exc c => ∀ F' H', Grow F H F' H' → E (.ref (cl c)) none H'
  | .bad => False
def blNames : List Str := ["len", "sorted", "min", "max", "sum", "all", "any", "tuple", "list", "range", "enumerate", "zip", "isinstance", "int", "bool", "str", "set"]
/-- the errors, caught by their base class B and asked for -/
def ExFacts (g : Pg) (K : PySem.W.Frag) (mg : Str → Option Value) (cl : Nat → Addr) : Prop := ∃ B : Addr, mg g.bx = some (.ref B) ∧ ∀ (c : Nat) (x : Str), g.ex[c]? = some x → PySem.W.exmOne K (.ref (cl c)) (.ref B) = some true ∧ ExcC K (cl c) ∧
  ∀ (c' : Nat) (x' : Str), g.ex[c']? = some x' → PySem.W.kitOne K (.ref (cl c)) (.ref (cl c')) = some (decide (c = c'))
/-! a def with a table of known answers -/
/-- what is known of the answers: all that c says; one answer each -/
structure AnOk (c : List D → Out D) (an : D → List Int → D → Prop) : Prop where
  of : ∀ dt ns d, c [dt, tupI ns] = .ok d → an dt ns d
  one : ∀ dt ns d d', an dt ns d → an dt ns d' → d = d'
/-- the table holds answers, at parts of L0 -/
structure MemoOk (an : D → List Int → D → Prop) (dt : D) (L0 : List Int) (kvs : List (List Key × V)) : Prop where
  nd : (kvs.map (·.1)).Nodup
  at_ : ∀ k v, (k, v) ∈ kvs → ∃ (ns : List Int) (i : Int), k = ns.map (fun n => (.inl n : Key)) ∧ ns.Sublist L0 ∧ v = .int i ∧ an dt ns (.int i)
/-- heaps that grow, but for the table at p -/
structure GrowX (p : Addr) (F H F' H' : Hp) : Prop where
  h : ∀ b u, b ≠ p → H b = some u → H' b = some u
  f : Same F F'
  s : Same F' H'
  n : ∀ a, F' a ≠ none → F a ≠ none ∨ H a = none
  p : H' p ≠ none
/-- its promise: the answer; the table holds answers still -/
def spM (K : PySem.W.Frag) (an : D → List Int → D → Prop) (c : List D → Out D) : Sp := fun vs H Q E => ∃ (F : Hp) (v1 v2 : V) (p : Addr) (kvs : List (List Key × V)) (dt : D) (ns L0 : List Int) (d : D), vs = [v1, v2, .ref p] ∧ Same F H ∧ F p = none ∧ H p = some (.dT kvs) ∧
  Dn K F v1 dt ∧ Dn K F v2 (tupI ns) ∧ ns.Sublist L0 ∧ L0.length ≤ 12 ∧ MemoOk an dt L0 kvs ∧ c [dt, tupI ns] = .ok d ∧
  ∀ v F' H' kvs', GrowX p F H F' H' → F' p = none → H' p = some (.dT kvs') → MemoOk an dt L0 kvs' → Dn K F' v d → Q v H'
/-- the facts of the text behind the top; the callees' promises at level k -/
structure Fc (g : Pg) (P : Program) (w : World) (K : PySem.W.Frag) (mg : Str → Option Value) (base : Heap) (cl : Nat → Addr) (k : Nat) (cal : Nat → List D → Out D) : Prop where
  fn : ∀ (j : Nat) (x : Str), g.fn[j]? = some x → ∃ (f : Addr) (fd : FuncData) (ps : List Str), mg x = some (.ref f) ∧ PySem.W.keepIn K (.ref f) = true ∧ Binds K fd ps [] ∧ FnOk P w K mg base (L2.CX P w) k f fd ps (spD K cl ps.length (cal j)) ∧ ∀ ds, cal j ds ≠ .bad → ds.length = ps.length
  cs : ∀ (x : Str) (v : Int), g.cs.lookup x = some v → ∃ t, mg x = some (.int v t)
  ct : ∀ (x v : Str), g.ct.lookup x = some v → ∃ t, mg x = some (.str v t)
  bl : ∀ x ∈ blNames, mg x = none
  ex : ∀ (c : Nat) (x : Str), g.ex[c]? = some x → mg x = some (.ref (cl c)) ∧ PySem.W.excIn K (cl c) [.type "ValueError", .type "Exception", .type "BaseException", .type "object"] "ValueError.__new__" = true ∧ PySem.W.keepIn K (.ref (cl c)) = true ∧
    PySem.W.subIn K (.ref (cl c)) (.type "BaseException") = some true ∧ PySem.W.typeIn K (.ref (cl c)) = some (.type "type")
  hx : g.hx = true → ExFacts g K mg cl
  mf : ∀ (j : Nat) (x : Str), g.mf = some (j, x) → ∃ (f : Addr) (fd : FuncData) (ps : List Str), mg x = some (.ref f) ∧ PySem.W.keepIn K (.ref f) = true ∧ Binds K fd ps [] ∧ ∀ an, AnOk (cal j) an → FnOk P w K mg base (L2.CX P w) k f fd ps (spM K an (cal j))
/-- where a piece stands -/
structure Ck (g : Pg) (N : List Str) (cl : Nat → Addr) (k : Nat) (cal : Nat → List D → Out D) (X : Cx) (W : WX) (sc : Scope) : Prop where
  eN : X.N = N
  nd : N.Nodup
  eS : X.env.scope = sc
  calm : X.calm = true
  room : Room k X.A
  tk : Takes X W
  fc : Fc g X.prog X.w X.K X.mg X.base cl k cal
abbrev W0 : WX := fun _ _ _ _ => False
section
variable {g : Pg} {N : List Str} {cl : Nat → Addr} {k : Nat} {cal : Nat → List D → Out D} {X : Cx} {W : WX} {sc : Scope}
theorem Ck.hu (C : Ck g N cl k cal X W sc) : X.A.units + 65 < cLine := by
  have := C.room.un
  omega
theorem Ck.blk (C : Ck g N cl k cal X W sc) (s : Shared) (H : Hp) (scope : Scope) (ce : Addr) (cls : List (Str × Addr)) (fp : List Addr) : Ck g N cl k cal (X.blk s H scope (compEnvC scope cls ce X.env) fp) W0 (relS scope sc) :=
  ⟨C.eN, C.nd, by rw [← C.eS] <;> rfl, C.calm, C.room, takes0, C.fc⟩
theorem Ck.gl (C : Ck g N cl k cal X W sc) {x : Str} (h : glB sc x = true) : Gl X x ∧ (x == ("__debug__" : Str)) = false ∧ x ≠ "__name__" := by
  unfold glB at h
  simp only [Bool.and_eq_true, Bool.not_eq_true', decide_eq_true_eq] at h
  obtain ⟨⟨h1, h2⟩, h3⟩ := h
  refine ⟨?_, h2, h3⟩
  unfold Gl Env.kindOf
  rw [C.eS]
  split at h1
  · assumption
  · cases h1
theorem Ck.vis (C : Ck g N cl k cal X W sc) {x : Str} (h : visB sc x = true) : Vis X.env.scope x := by
  rw [C.eS]
  unfold visB at h
  unfold Vis
  split at h
  · exact .inl (by assumption)
  · exact .inr (.inl (by assumption))
  · exact .inr (.inr (by assumption))
  · cases h
theorem Ck.loc (C : Ck g N cl k cal X W sc) {x : Str} (h : locB sc x = true) : L2.Loc X.env.scope x := by
  rw [C.eS]
  unfold locB at h
  unfold L2.Loc
  split at h
  · exact .inl (by assumption)
  · exact .inr (by assumption)
  · cases h
/-! what an expression is not -/
theorem star_ok {m : M} {e : Expr} (h : mE g N sc m e = true) (es : List Expr) (env : Env) : starEach (e :: es) env = (false, eval e env) :: starEach es env := by
  cases e <;> first | rfl | (cases m <;> simp [mE] at h)
theorem slice_ok {m : M} {e : Expr} (h : mE g N sc m e = true) : PlainIx e := by
  cases e <;> first | exact (fun _ _ => rfl) | (cases m <;> simp [mE] at h)
theorem set_ok {m : M} {e : Expr} (h : mE g N sc m e = true) (op : CmpOp) : behindInMarks op e = false := by
  cases e <;> first | rfl | (cases m <;> simp [mE] at h)
theorem fold_ok {m : M} {e : Expr} (h : mE g N sc m e = true) (env : Env) : ∀ x, foldedSetIterable e env x = pure x := by
  cases e <;> first | exact (fun _ => rfl) | (cases m <;> simp [mE] at h)
theorem stars_ok : ∀ {m : M} {es : List Expr}, mA g N sc m es = true → ∀ (pos : Pos) (env : Env), (backTo pos (starEach es env)).any (·.1) = false
  | m, [], _, _, _ => rfl
  | m, e :: es, h, pos, env => by
    cases m <;> simp only [mA, Bool.false_eq_true] at h
    simp only [Bool.and_eq_true] at h
    rw [star_ok h.1]
    have := stars_ok h.2 pos env
    unfold backTo at this ⊢
    rw [List.map_cons, List.any_cons, this] <;> rfl
theorem lenA {ρ : En} : ∀ {m : M} {es : List Expr} {ds : List D}, mA g N sc m es = true → evA cal ρ m = .ok ds → ds.length = es.length
  | m, [], ds, h, e => by
    cases m <;> simp only [mA, Bool.false_eq_true] at h
    simp only [evA, Out.ok.injEq] at e
    subst e
    rfl
  | m, x :: es, ds, h, e => by
    cases m <;> simp only [mA, Bool.false_eq_true] at h
    rename_i a as
    simp only [Bool.and_eq_true] at h
    simp only [evA] at e
    cases h1 : evE cal ρ a with
    | bad => rw [h1] at e; cases e
    | exc c => rw [h1] at e; cases e
    | ok d =>
      rw [h1] at e
      simp only [bnd_ok] at e
      cases h2 : evA cal ρ as with
      | bad => rw [h2] at e; cases e
      | exc c => rw [h2] at e; cases e
      | ok l =>
        rw [h2] at e
        simp only [bnd_ok, Out.ok.injEq] at e
        subst e
        exact congrArg (· + 1) (lenA h.2 h2)
end

/-! ### readings -/
section
variable {K : PySem.W.Frag} {W : WX} {cl : Nat → Addr} {cal : Nat → List D → Out D} {σ : L2.St} {H : Hp} {Q : VK}
theorem te_of {m : M} {F0 H0 F : Hp} {ρ : En} {R : VK} (E : EnvOk K F0 H0 F H σ ρ) (f : FinG K W cl (relE K) σ F H (evE cal ρ m) R) : tE K W cl cal m σ H R := ⟨F0, H0, ρ, F, E, f⟩
/-- one part, then what follows -/
theorem te_bnd {γ δ : Type} {rel2 : Hp → δ → γ → Prop} {m : M} {F0 H0 F : Hp} {ρ : En} {k : D → Out γ} {Q : δ → Hp → Prop} {R : VK} (E : EnvOk K F0 H0 F H σ ρ) (h : FinG K W cl rel2 σ F H ((evE cal ρ m).bnd k) Q)
    (f : ∀ d v F1 H1, LenOk K H1 → Grow F H F1 H1 → Dn K F1 v d → EnvOk K F0 H0 F1 H1 σ ρ → FinG K W cl rel2 σ F1 H1 (k d) Q → R v H1) : tE K W cl cal m σ H R :=
  te_of E (fin_bnd h fun d v F1 H1 _ l g r q => f d v F1 H1 l g r (E.grow g) q)
theorem tt_bnd {γ δ : Type} {rel2 : Hp → δ → γ → Prop} {m : M} {F0 H0 F : Hp} {ρ : En} {k : Bool → Out γ} {Q : δ → Hp → Prop} {R : Bool → Hp → Prop} (E : EnvOk K F0 H0 F H σ ρ) (h : FinG K W cl rel2 σ F H ((asB (evE cal ρ m)).bnd k) Q)
    (f : ∀ b F1 H1, LenOk K H1 → Grow F H F1 H1 → EnvOk K F0 H0 F1 H1 σ ρ → FinG K W cl rel2 σ F1 H1 (k b) Q → R b H1) : tT K W cl cal m σ H R :=
  ⟨F0, H0, ρ, F, E, fin_bnd h fun d v F1 H1 _ l g r q => by
    have r' : v = d := r
    subst r'
    exact f v F1 H1 l g (E.grow g) q⟩
theorem ta_bnd {γ δ : Type} {rel2 : Hp → δ → γ → Prop} {m : M} {F0 H0 F : Hp} {ρ : En} {k : List D → Out γ} {Q : δ → Hp → Prop} {R : List V → Hp → Prop} (E : EnvOk K F0 H0 F H σ ρ) (h : FinG K W cl rel2 σ F H ((evA cal ρ m).bnd k) Q)
    (f : ∀ ds vs F1 H1, evA cal ρ m = .ok ds → LenOk K H1 → Grow F H F1 H1 → DnAll K F1 vs ds → EnvOk K F0 H0 F1 H1 σ ρ → FinG K W cl rel2 σ F1 H1 (k ds) Q → R vs H1) : tA K W cl cal m σ H R :=
  ⟨F0, H0, ρ, F, E, fin_bnd h fun d v F1 H1 e l g r q => f d v F1 H1 e l g r (E.grow g) q⟩
theorem to_bnd {γ δ : Type} {rel2 : Hp → δ → γ → Prop} {m : M} {F0 H0 F : Hp} {ρ : En} {k : Option Int → Out γ} {Q : δ → Hp → Prop} {R : Option Int → Hp → Prop} (E : EnvOk K F0 H0 F H σ ρ) (h : FinG K W cl rel2 σ F H ((evO cal ρ m).bnd k) Q)
    (f : ∀ o F1 H1, LenOk K H1 → Grow F H F1 H1 → EnvOk K F0 H0 F1 H1 σ ρ → FinG K W cl rel2 σ F1 H1 (k o) Q → R o H1) : tO K W cl cal m σ H R :=
  ⟨F0, H0, ρ, F, E, fin_bnd h fun d v F1 H1 _ l g r q => by
    have r' : v = d := r
    subst r'
    exact f v F1 H1 l g (E.grow g) q⟩
/-- a test, as the value's reading -/
theorem tT_tE {m : M} {Q : Bool → Hp → Prop} (h : tT K W cl cal m σ H Q) : tE K W cl cal m σ H fun x H1 => ∃ c, x = .bl c ∧ Q c H1 := by
  obtain ⟨F0, H0, ρ, F, E, f⟩ := h
  refine te_of E ?_
  cases e : evE cal ρ m with
  | bad => rw [e] at f; exact f
  | exc c => rw [e] at f; exact f
  | ok d =>
    rw [e] at f
    cases d <;> first | exact False.elim f | skip
    rename_i b
    intro v F' H' l g' r
    cases r
    exact ⟨b, rfl, f b F' H' l g' rfl⟩
theorem asB_ok {o : Out Bool} : asB (o.bnd fun k => .ok (.bool k)) = o := by cases o <;> rfl
theorem asB_bnd {α : Type} (o : Out α) (k : α → Out D) : asB (o.bnd k) = o.bnd fun x => asB (k x) := by cases o <;> rfl
theorem asB_b (k : Bool) (o : Out D) (b : Bool) : asB (if k = true then o else .ok (.bool b)) = if k = true then asB o else .ok b := by cases k <;> rfl
theorem asB_b2 (k : Bool) (o : Out D) (b : Bool) : asB (if k = true then .ok (.bool b) else o) = if k = true then .ok b else asB o := by cases k <;> rfl
theorem bnd_bool (o : Out D) : ((asB o).bnd fun k => Out.ok k) = asB o := by cases h : asB o <;> rfl
end
end Mz

/-! Part 7: each construct's rule. -/
namespace Mz
open PySem PySem.Spec PyProof.Rows L2
section
variable {g : Pg} {N : List Str} {cl : Nat → Addr} {k : Nat} {cal : Nat → List D → Out D} {X : Cx} {W : WX} {sc : Scope} {a b c m : M} {e l r : Expr} {es : List Expr} {pos : Pos}

/-! ### names, constants -/
theorem s_nm (C : Ck g N cl k cal X W sc) {i : Nat} {x : Str} (h : mE g N sc (.nm i) (.Name x pos) = true) : PE X (.Name x pos) (tE X.K W cl cal (.nm i)) := by
  simp only [mE, Bool.and_eq_true, decide_eq_true_eq] at h
  obtain ⟨⟨h1, h2⟩, h3⟩ := h
  unfold plainNm at h3
  simp only [Bool.and_eq_true, Bool.not_eq_true'] at h3
  refine PE.by (pe_var (i := i) (by rw [C.eN]; exact h1) (C.vis h2) h3.1 h3.2) fun σ H Q ⟨F0, H0, ρ, F, E, f⟩ => ?_
  simp only [evE] at f
  split at f
  · rename_i d hd
    obtain ⟨v, h4, h5⟩ := E.py i d hd
    exact ⟨v, h4, fun L => f v F H L (.refl E.s) h5⟩
  · exact False.elim f
theorem s_const {v : V} {d : D} (h : PE X e (tC v)) (hd : ∀ F, Dn X.K F v d) (hm : ∀ ρ, evE cal ρ m = .ok d) : PE X e (tE X.K W cl cal m) :=
  PE.by h fun σ H Q ⟨F0, H0, ρ, F, E, f⟩ => by
    rw [hm] at f
    exact fun L => f v F H L (.refl E.s) (hd F)
theorem s_gi (C : Ck g N cl k cal X W sc) {x y : Str} {v : Int} (h : mE g N sc (.gi x v) (.Name y pos) = true) : PE X (.Name y pos) (tE X.K W cl cal (.gi x v)) := by
  simp only [mE, Bool.and_eq_true, decide_eq_true_eq] at h
  obtain ⟨⟨_, h2⟩, h3⟩ := h
  obtain ⟨h4, h5, _⟩ := C.gl h2
  obtain ⟨t, ht⟩ := C.fc.cs y v h3
  exact s_const (v := .int v) (pe_glob h4 ht ⟨t, rfl⟩ h5) (fun _ => .int v) fun _ => rfl

theorem s_gs (C : Ck g N cl k cal X W sc) {x y v : Str} (h : mE g N sc (.gs x v) (.Name y pos) = true) : PE X (.Name y pos) (tE X.K W cl cal (.gs x v)) := by
  simp only [mE, Bool.and_eq_true, decide_eq_true_eq] at h
  obtain ⟨⟨_, h2⟩, h3⟩ := h
  obtain ⟨h4, h5, _⟩ := C.gl h2
  obtain ⟨t, ht⟩ := C.fc.ct y v h3
  exact s_const (v := .str v) (pe_glob h4 ht ⟨t, rfl⟩ h5) (fun _ => .str v) fun _ => rfl

/-! ### operators -/
theorem s_bin (C : Ck g N cl k cal X W sc) {op : Operator} (ha : PE X l (tE X.K W cl cal a)) (hb : PE X r (tE X.K W cl cal b)) : PE X (.BinOp l op r pos) (tE X.K W cl cal (.bin op a b)) :=
  PE.by (pe_op (opBin_ok X op) ha hb) fun σ H Q ⟨F0, H0, ρ, F, E, f⟩ => by
    simp only [evE] at f
    refine te_bnd E f fun dx x F1 H1 _ g1 r1 E1 f1 => te_bnd E1 f1 fun dy y F2 H2 L2 g2 r2 E2 f2 => ?_
    cases h : opBin op dx dy with
    | bad => rw [h] at f2; exact False.elim f2
    | exc c => exact absurd h (by unfold opBin; split <;> first | (intro z; cases z; done) | (split <;> intro z <;> cases z))
    | ok dz =>
      rw [h] at f2
      exact ⟨F2, dx, dy, dz, E2.s, r1.same g2.f, r2, h, fun v F' H' L g' r' _ => f2 v F' H' L g' r'⟩
theorem s_neg (C : Ck g N cl k cal X W sc) (ha : PE X e (tE X.K W cl cal a)) : PE X (.UnaryOp .USub e pos) (tE X.K W cl cal (.neg a)) :=
  PE.by (pe_un un_neg ha) fun σ H Q ⟨F0, H0, ρ, F, E, f⟩ => by
    simp only [evE] at f
    refine te_bnd E f fun dx x F1 H1 L g1 r1 E1 f1 => ?_
    cases r1 <;> first | exact False.elim f1 | skip
    exact ⟨_, rfl, fun _ => f1 _ F1 H1 L (.refl E1.s) (.int _)⟩
/-- a comparison's reading -/
theorem rd_cmp {op : CmpOp} {σ : L2.St} {H : Hp} {Q : VK} (h : tE X.K W cl cal (.cmp op a b) σ H Q) : tOp (rCmp X.K (opCmp op)) (tE X.K W cl cal a) (tE X.K W cl cal b) σ H Q := by
  obtain ⟨F0, H0, ρ, F, E, f⟩ := h
  simp only [evE] at f
  refine te_bnd E f fun dx x F1 H1 _ g1 r1 E1 f1 => te_bnd E1 f1 fun dy y F2 H2 L2 g2 r2 E2 f2 => ?_
  cases h : opCmp op dx dy with
  | bad => rw [h] at f2; exact False.elim f2
  | exc c => exact absurd h (by unfold opCmp; split <;> first | (intro z; cases z; done) | (split <;> intro z <;> cases z))
  | ok kk =>
    rw [h] at f2
    exact ⟨F2, dx, dy, kk, E2.s, r1.same g2.f, r2, h, f2 _ F2 H2 L2 (.refl E2.s) (.bl kk)⟩
theorem s_cmp (C : Ck g N cl k cal X W sc) {op : CmpOp} (ha : PE X l (tE X.K W cl cal a)) (hb : PE X r (tE X.K W cl cal b)) (hm : behindInMarks op r = false) : PE X (.Compare l [op] [r] pos) (tE X.K W cl cal (.cmp op a b)) :=
  ⟨fun pins s σ H Q I h => (pe_cmpR (opCmp_ok X op C.hu) ha hb hm).run pins s σ H Q I (rd_cmp h)⟩
theorem t_cmp (C : Ck g N cl k cal X W sc) {op : CmpOp} (ha : PE X l (tE X.K W cl cal a)) (hb : PE X r (tE X.K W cl cal b)) (hm : behindInMarks op r = false) : PT X (.Compare l [op] [r] pos) (tT X.K W cl cal (.cmp op a b)) :=
  ⟨fun pins s σ H Q I h => (pt_cmpR (opCmp_ok X op C.hu) ha hb hm).run pins s σ H Q I (rd_cmp (tT_tE h))⟩
theorem rd_chn {op op' : CmpOp} {σ : L2.St} {H : Hp} {Q : VK} (h : tE X.K W cl cal (.chn op op' a b c) σ H Q) : tChain (rCmp X.K (opCmp op)) (rCmp X.K (opCmp op')) (tE X.K W cl cal a) (tE X.K W cl cal b) (tE X.K W cl cal c) σ H Q := by
  obtain ⟨F0, H0, ρ, F, E, f⟩ := h
  have noexc : ∀ (op : CmpOp) (x y : D) (z : Nat), opCmp op x y ≠ .exc z := fun op x y z => by unfold opCmp; split <;> first | (intro z; cases z; done) | (split <;> intro z <;> cases z)
  simp only [evE] at f
  refine te_bnd E f fun dx x F1 H1 _ g1 r1 E1 f1 => te_bnd E1 f1 fun dy y F2 H2 L2 g2 r2 E2 f2 => ?_
  cases h : opCmp op dx dy with
  | bad => rw [h] at f2; exact False.elim f2
  | exc z => exact absurd h (noexc _ _ _ _)
  | ok kk =>
    rw [h] at f2
    refine ⟨F2, dx, dy, kk, E2.s, r1.same g2.f, r2, h, kk, rfl, ?_⟩
    simp only [bnd_ok] at f2
    cases kk with
    | false => exact f2 _ F2 H2 L2 (.refl E2.s) (.bl false)
    | true =>
      refine te_bnd E2 f2 fun dz z F3 H3 L3 g3 r3 E3 f3 => ?_
      cases h' : opCmp op' dy dz with
      | bad => rw [h'] at f3; exact False.elim f3
      | exc z => exact absurd h' (noexc _ _ _ _)
      | ok kk =>
        rw [h'] at f3
        exact ⟨F3, dy, dz, kk, E3.s, r2.same g3.f, r3, h', f3 _ F3 H3 L3 (.refl E3.s) (.bl kk)⟩
theorem s_chn (C : Ck g N cl k cal X W sc) {op op' : CmpOp} {r' : Expr} (ha : PE X l (tE X.K W cl cal a)) (hb : PE X r (tE X.K W cl cal b)) (hc : PE X r' (tE X.K W cl cal c)) (hm : lastMarks [op, op'] [r, r'] = false) :
    PE X (.Compare l [op, op'] [r, r'] pos) (tE X.K W cl cal (.chn op op' a b c)) :=
  ⟨fun pins s σ H Q I h => (pe_chain (opCmp_ok X op C.hu) (opCmp_ok X op' C.hu) ha hb hc hm).run pins s σ H Q I (rd_chn h)⟩
theorem t_chn (C : Ck g N cl k cal X W sc) {op op' : CmpOp} {r' : Expr} (ha : PE X l (tE X.K W cl cal a)) (hb : PE X r (tE X.K W cl cal b)) (hc : PE X r' (tE X.K W cl cal c)) (hm : lastMarks [op, op'] [r, r'] = false) :
    PT X (.Compare l [op, op'] [r, r'] pos) (tT X.K W cl cal (.chn op op' a b c)) :=
  ⟨fun pins s σ H Q I h => (pt_chain (opCmp_ok X op C.hu) (opCmp_ok X op' C.hu) ha hb hc hm).run pins s σ H Q I (rd_chn (tT_tE h))⟩

/-! ### and, or, not, if -/
theorem te_tB {σ : L2.St} {H : Hp} {ρ : En} {F0 H0 F : Hp} {γ δ : Type} {rel2 : Hp → δ → γ → Prop} {kf : Bool → Out γ} {Q : δ → Hp → Prop} {R : VK} (E : EnvOk X.K F0 H0 F H σ ρ) (h : FinG X.K W cl rel2 σ F H ((asB (evE cal ρ m)).bnd kf) Q)
    (f : ∀ b F1 H1, LenOk X.K H1 → Grow F H F1 H1 → EnvOk X.K F0 H0 F1 H1 σ ρ → FinG X.K W cl rel2 σ F1 H1 (kf b) Q → R (.bl b) H1) : tE X.K W cl cal m σ H R := by
  have q := tT_tE (tt_bnd (R := fun b H1 => R (.bl b) H1) E h f)
  obtain ⟨F0', H0', ρ', F', E', f'⟩ := q
  refine ⟨F0', H0', ρ', F', E', ?_⟩
  cases o : evE cal ρ' m with
  | bad => rw [o] at f'; exact f'
  | exc c => rw [o] at f'; exact f'
  | ok d =>
    rw [o] at f'
    intro v F2 H2 L g2 r2
    obtain ⟨c, e, q⟩ := f' v F2 H2 L g2 r2
    subst e
    exact q
theorem s_band {v1 v2 : Expr} {rest : List Expr} (ha : PE X v1 (tE X.K W cl cal a)) (hb : PE X (.BoolOp .And (v2 :: rest) pos) (tE X.K W cl cal b)) : PE X (.BoolOp .And (v1 :: v2 :: rest) pos) (tE X.K W cl cal (.band a b)) :=
  PE.by (pe_and ha hb) fun σ H Q ⟨F0, H0, ρ, F, E, f⟩ => by
    simp only [evE] at f
    refine te_tB E f fun kk F1 H1 L1 g1 E1 f1 => ⟨kk, rfl, ?_⟩
    cases kk with
    | false => exact fun _ => f1 _ F1 H1 L1 (.refl E1.s) (.bl false)
    | true => exact te_tB (R := fun v H' => LenOk X.K H' → Q v H') E1 f1 fun kk F2 H2 L2 g2 E2 f2 _ => f2 _ F2 H2 L2 (.refl E2.s) (.bl kk)
theorem s_bor {v1 v2 : Expr} {rest : List Expr} (ha : PE X v1 (tE X.K W cl cal a)) (hb : PE X (.BoolOp .Or (v2 :: rest) pos) (tE X.K W cl cal b)) : PE X (.BoolOp .Or (v1 :: v2 :: rest) pos) (tE X.K W cl cal (.bor a b)) :=
  PE.by (pe_or ha hb) fun σ H Q ⟨F0, H0, ρ, F, E, f⟩ => by
    simp only [evE] at f
    refine te_tB E f fun kk F1 H1 L1 g1 E1 f1 => ⟨kk, rfl, ?_⟩
    cases kk with
    | true => exact fun _ => f1 _ F1 H1 L1 (.refl E1.s) (.bl true)
    | false => exact te_tB (R := fun v H' => LenOk X.K H' → Q v H') E1 f1 fun kk F2 H2 L2 g2 E2 f2 _ => f2 _ F2 H2 L2 (.refl E2.s) (.bl kk)
theorem s_bnot (ha : PE X e (tE X.K W cl cal a)) : PE X (.UnaryOp .Not e pos) (tE X.K W cl cal (.bnot a)) :=
  PE.by (pe_not ha) fun σ H Q ⟨F0, H0, ρ, F, E, f⟩ => by
    simp only [evE] at f
    exact te_tB E f fun kk F1 H1 L1 g1 E1 f1 => ⟨kk, rfl, fun _ => f1 _ F1 H1 L1 (.refl E1.s) (.bl (!kk))⟩
theorem s_ite {t x y : Expr} (hc : PT X t (tT X.K W cl cal c)) (ha : PE X x (tE X.K W cl cal a)) (hb : PE X y (tE X.K W cl cal b)) : PE X (.IfExp t x y pos) (tE X.K W cl cal (.ite c a b)) :=
  PE.by (pe_ifExp hc ha hb) fun σ H Q ⟨F0, H0, ρ, F, E, f⟩ => by
    simp only [evE] at f
    refine tt_bnd E f fun kk F1 H1 L1 g1 E1 f1 => ?_
    cases kk with
    | true => exact ⟨F0, H0, ρ, F1, E1, by
        refine fin_bnd (k := .ok) (rel2 := relE X.K) (Q := Q) ?_ fun d v F2 H2 e L g2 r2 f2 _ => f2 v F2 H2 L (.refl g2.s) r2
        have e : (evE cal ρ a).bnd Out.ok = evE cal ρ a := by cases evE cal ρ a <;> rfl
        rw [e]
        exact f1⟩
    | false => exact ⟨F0, H0, ρ, F1, E1, by
        refine fin_bnd (k := .ok) (rel2 := relE X.K) (Q := Q) ?_ fun d v F2 H2 e L g2 r2 f2 _ => f2 v F2 H2 L (.refl g2.s) r2
        have e : (evE cal ρ b).bnd Out.ok = evE cal ρ b := by cases evE cal ρ b <;> rfl
        rw [e]
        exact f1⟩
theorem tt_end {σ : L2.St} {H : Hp} {ρ : En} {F0 H0 F : Hp} {Q : Bool → Hp → Prop} (E : EnvOk X.K F0 H0 F H σ ρ) (h : FinG X.K W cl relB σ F H (asB (evE cal ρ m)) Q) : tT X.K W cl cal m σ H fun v H' => LenOk X.K H' → Q v H' :=
  ⟨F0, H0, ρ, F, E, by
    cases o : asB (evE cal ρ m) with
    | bad => rw [o] at h; exact h
    | exc c => rw [o] at h; exact h
    | ok d =>
      rw [o] at h
      exact fun v F' H' L g' r' _ => h v F' H' L g' r'⟩
theorem asB_k (o : Out D) (b : Bool) : asB ((asB o).bnd fun k' => Out.ok (.bool k')) = asB o := by cases h : asB o <;> rfl
theorem w_band {v1 v2 : Expr} {rest : List Expr} (ha : PT X v1 (tT X.K W cl cal a)) (hb : PW X (.BoolOp .And (v2 :: rest) pos) (tT X.K W cl cal b)) : PW X (.BoolOp .And (v1 :: v2 :: rest) pos) (tT X.K W cl cal (.band a b)) :=
  PW.by (pw_and ha hb) fun σ H Q ⟨F0, H0, ρ, F, E, f⟩ => by
    simp only [evE, asB_bnd] at f
    refine tt_bnd E f fun kk F1 H1 L1 g1 E1 f1 => ?_
    cases kk with
    | false => exact fun _ => f1 _ F1 H1 L1 (.refl E1.s) rfl
    | true =>
      simp only [if_true, asB_k _ true] at f1
      exact tt_end E1 f1
theorem w_bor {v1 v2 : Expr} {rest : List Expr} (ha : PT X v1 (tT X.K W cl cal a)) (hb : PW X (.BoolOp .Or (v2 :: rest) pos) (tT X.K W cl cal b)) : PW X (.BoolOp .Or (v1 :: v2 :: rest) pos) (tT X.K W cl cal (.bor a b)) :=
  PW.by (pw_or ha hb) fun σ H Q ⟨F0, H0, ρ, F, E, f⟩ => by
    simp only [evE, asB_bnd] at f
    refine tt_bnd E f fun kk F1 H1 L1 g1 E1 f1 => ?_
    cases kk with
    | true => exact fun _ => f1 _ F1 H1 L1 (.refl E1.s) rfl
    | false =>
      simp only [Bool.false_eq_true, if_false, asB_k _ true] at f1
      exact tt_end E1 f1
theorem t_bnot (ha : PT X e (tT X.K W cl cal a)) : PT X (.UnaryOp .Not e pos) (tT X.K W cl cal (.bnot a)) :=
  PT.by (pt_not ha) fun σ H Q ⟨F0, H0, ρ, F, E, f⟩ => by
    simp only [evE, asB_bnd] at f
    exact tt_bnd E f fun kk F1 H1 L1 g1 E1 f1 _ => f1 _ F1 H1 L1 (.refl E1.s) rfl
theorem t_ite {t x y : Expr} (hc : PT X t (tT X.K W cl cal c)) (ha : PT X x (tT X.K W cl cal a)) (hb : PT X y (tT X.K W cl cal b)) : PT X (.IfExp t x y pos) (tT X.K W cl cal (.ite c a b)) :=
  ⟨fun pins s σ H Q I ⟨F0, H0, ρ, F, E, f⟩ => by
    simp only [evE, asB_bnd] at f
    refine isTrue_IfExp (thn (hc.run pins s σ H (fun kk H1 => if kk = true then tT X.K W cl cal a σ H1 Q else tT X.K W cl cal b σ H1 Q) I ?_) fun kk s1 ⟨H1, I1, q1⟩ => ?_)
    · refine tt_bnd E f fun kk F1 H1 L1 g1 E1 f1 => ?_
      cases kk with
      | true => exact ⟨F0, H0, ρ, F1, E1, f1⟩
      | false => exact ⟨F0, H0, ρ, F1, E1, f1⟩
    · cases kk with
      | true => exact ha.run pins s1 σ H1 Q I1 q1
      | false => exact hb.run pins s1 σ H1 Q I1 q1⟩
/-- a test of another form -/
theorem t_val (h : PE X e (tE X.K W cl cal m)) (he : ∀ whole, isTrue e X.env whole = (do let v ← whole; standAt e.pos; holding [v] (truthy v))) : PT X e (tT X.K W cl cal m) :=
  ⟨fun pins s σ H Q I q => (pt_val h he).run pins s σ H Q I (tT_tE q)⟩
end
end Mz

/-! Part 8: displays, places, calls, what is walked, comprehensions. -/
namespace Mz
open PySem PySem.Spec PyProof.Rows L2
section
variable {g : Pg} {N : List Str} {cl : Nat → Addr} {k : Nat} {cal : Nat → List D → Out D} {X : Cx} {W : WX} {sc : Scope} {a b c m as lo hi : M} {e l r : Expr} {es : List Expr} {pos : Pos}

theorem a_nil : PA X [] (tA X.K W cl cal .nil) :=
  PA.by pa_nil fun σ H Q ⟨F0, H0, ρ, F, E, f⟩ L => by
    simp only [evA] at f
    exact f [] F H L (.refl E.s) .nil
theorem a_cons (ha : PE X e (tE X.K W cl cal a)) (hs : PA X es (tA X.K W cl cal as)) (st : starEach (e :: es) X.env = (false, eval e X.env) :: starEach es X.env) : PA X (e :: es) (tA X.K W cl cal (.cons a as)) :=
  PA.by (pa_cons ha hs st) fun σ H Q ⟨F0, H0, ρ, F, E, f⟩ => by
    simp only [evA] at f
    refine te_bnd E f fun d v F1 H1 L1 g1 r1 E1 f1 => ta_bnd E1 f1 fun ds vs F2 H2 _ L2 g2 r2 E2 f2 => ?_
    exact fun _ => f2 _ F2 H2 L2 (.refl E2.s) (.cons (r1.same g2.f) r2)
theorem s_tup {kk} (h : PA X es (tA X.K W cl cal as)) : PE X (.Tuple es kk pos) (tE X.K W cl cal (.tup as)) :=
  PE.by (pe_tup h) fun σ H Q ⟨F0, H0, ρ, F, E, f⟩ => by
    simp only [evE] at f
    refine ta_bnd E f fun ds vs F1 H1 _ L1 g1 r1 E1 f1 => ?_
    split at f1
    · rename_i hz
      refine ⟨by rw [r1.length, ← sz_eq]; exact hz, fun p np L => ?_⟩
      exact f1 _ (upd F1 p _) _ L (Grow.new E1.s np) (.tup upd_same (r1.same (same_new (E1.s.free np))))
    · exact False.elim f1
theorem s_lst (h : PA X es (tA X.K W cl cal as)) : PE X (.List es pos) (tE X.K W cl cal (.lst as)) :=
  PE.by (pe_lst h) fun σ H Q ⟨F0, H0, ρ, F, E, f⟩ => by
    simp only [evE] at f
    refine ta_bnd E f fun ds vs F1 H1 _ L1 g1 r1 E1 f1 => ?_
    split at f1
    · rename_i hz
      refine ⟨by rw [r1.length, ← sz_eq]; exact hz, fun p np L => ?_⟩
      exact f1 _ (upd F1 p _) _ L (Grow.new E1.s np) (.lst upd_same (r1.same (same_new (E1.s.free np))))
    · exact False.elim f1
theorem s_sub (ha : PE X l (tE X.K W cl cal a)) (hb : PE X r (tE X.K W cl cal b)) (hp : PlainIx r) : PE X (.Subscript l r pos) (tE X.K W cl cal (.sub a b)) :=
  PE.by (pe_ix (opIx_ok X) ha hb hp) fun σ H Q ⟨F0, H0, ρ, F, E, f⟩ => by
    simp only [evE] at f
    refine te_bnd E f fun dx x F1 H1 _ g1 r1 E1 f1 => te_bnd E1 f1 fun dy y F2 H2 L2 g2 r2 E2 f2 => ?_
    cases h : opIx dx dy with
    | bad => rw [h] at f2; exact False.elim f2
    | exc c => exact absurd h (by unfold opIx; (repeat' split) <;> (intro z; cases z))
    | ok dz =>
      rw [h] at f2
      exact ⟨F2, dx, dy, dz, E2.s, r1.same g2.f, r2, h, fun v F' H' L g' r' _ => f2 v F' H' L g' r'⟩
theorem s_slc {p2 : Pos} {elo ehi : Option Expr} (ha : PE X l (tE X.K W cl cal a)) (hl : PO X elo (tO X.K W cl cal lo)) (hh : PO X ehi (tO X.K W cl cal hi)) : PE X (.Subscript l (.Slice elo ehi none p2) pos) (tE X.K W cl cal (.slc a lo hi)) :=
  PE.by (pe_slice (opSlc_ok X) ha hl hh) fun σ H Q ⟨F0, H0, ρ, F, E, f⟩ => by
    simp only [evE] at f
    refine te_bnd E f fun dx x F1 H1 _ g1 r1 E1 f1 => to_bnd E1 f1 fun ol F2 H2 _ g2 E2 f2 => to_bnd E2 f2 fun oh F3 H3 L3 g3 E3 f3 => ?_
    cases h : opSlc dx ol oh with
    | bad => rw [h] at f3; exact False.elim f3
    | exc c => exact absurd h (by unfold opSlc; (repeat' split) <;> (intro z; cases z))
    | ok dz =>
      rw [h] at f3
      exact ⟨F3, dx, dz, E3.s, (r1.same g2.f).same g3.f, h, fun v F' H' g' r' L => f3 v F' H' L g' r'⟩
theorem o_nil : PO X none (tO X.K W cl cal .nil) :=
  PO.by po_none fun σ H Q ⟨F0, H0, ρ, F, E, f⟩ L => by
    simp only [evO] at f
    exact f none F H L (.refl E.s) rfl
theorem o_some (ha : PE X e (tE X.K W cl cal a)) : PO X (some e) (tO X.K W cl cal (.b1 a)) :=
  PO.by (po_some ha) fun σ H Q ⟨F0, H0, ρ, F, E, f⟩ => by
    simp only [evO] at f
    refine te_bnd E f fun dx x F1 H1 L g1 r1 E1 f1 => ?_
    cases r1 <;> first | exact False.elim f1 | skip
    exact ⟨_, rfl, fun _ => f1 _ F1 H1 L (.refl E1.s) rfl⟩

/-! ### calls -/
theorem s_blt (C : Ck g N cl k cal X W sc) {bl : Bl} {x : Str} {p : Pos} (hx : x = bl.nm) (hg : glB sc x = true) (hs : PA X (e :: es) (tA X.K W cl cal as)) (st : starEach (e :: es) X.env = (false, eval e X.env) :: starEach es X.env)
    (sr : (backTo pos (starEach es X.env)).any (·.1) = false) : PE X (.Call (.Name x p) (e :: es) [] pos) (tE X.K W cl cal (.blt bl as)) := by
  obtain ⟨h1, h2, h3⟩ := C.gl hg
  have hm : X.mg x = none := C.fc.bl x (by rw [hx]; cases bl <;> simp [blNames, Bl.nm])
  have rd : ∀ σ H Q, tE X.K W cl cal (.blt bl as) σ H Q → tCB (rCall X.K (opBl bl)) (tA X.K W cl cal as) σ H fun v H' => LenOk X.K H' → Q v H' := fun σ H Q ⟨F0, H0, ρ, F, E, f⟩ => by
    simp only [evE] at f
    refine ta_bnd E f fun ds vs F1 H1 _ L1 g1 r1 E1 f1 => ?_
    cases h : opBl bl ds with
    | bad => rw [h] at f1; exact False.elim f1
    | exc c =>
      refine absurd h ?_
      unfold opBl opLen opSorted minR
      repeat' split
      all_goals (intro z; cases z)
    | ok dz =>
      rw [h] at f1
      exact ⟨F1, ds, dz, E1.s, r1, h, fun v F' H' L g' r' _ => f1 v F' H' L g' r'⟩
  have cr := opBl_ok X bl C.calm (by have := C.room.un; omega)
  subst hx
  cases bl
  case tuple => exact PE.by (pe_callTy (T := "tuple") cr h1 hm boot_tuple hs h3 h2 st sr) rd
  case list => exact PE.by (pe_callTy (T := "list") cr h1 hm boot_list hs h3 h2 st sr) rd
  all_goals exact PE.by (pe_callB cr h1 hm (by decide +kernel) hs h3 h2 st sr) rd
theorem s_isi (C : Ck g N cl k cal X W sc) {f y : Str} {ct : Cl} {p p2 : Pos} (hf : f = "isinstance") (gf : glB sc f = true) (hy : y = ((ct.nm : String) : Str)) (gy : glB sc y = true) (ha : PE X e (tE X.K W cl cal a))
    (st : ∀ es env, starEach (e :: es) env = (false, eval e env) :: starEach es env) : PE X (.Call (.Name f p) [e, .Name y p2] [] pos) (tE X.K W cl cal (.isi a ct)) := by
  obtain ⟨h1, h2, h3⟩ := C.gl gf
  obtain ⟨h4, h5, h6⟩ := C.gl gy
  have hm : X.mg f = none := C.fc.bl f (by rw [hf]; simp [blNames])
  have hm2 : X.mg y = none := C.fc.bl y (by rw [hy]; cases ct <;> simp [blNames, Cl.nm])
  have hv : bootBuiltins y = some (.type ct.nm) := by
    rw [hy]
    cases ct <;> decide +kernel
  subst hf
  refine PE.by (pe_callB (call_isi (X := X)) h1 hm (by decide +kernel) (pa_cons ha (pa_cons (pe_bltn (v := .ty ct.nm) h4 hm2 hv rfl h6 h5) pa_nil) (st _ _)) h3 h2 (st _ _) (by rfl)) fun σ H Q ⟨F0, H0, ρ, F, E, f⟩ => ?_
  simp only [evE] at f
  refine te_bnd E f fun d v F1 H1 L1 g1 r1 E1 f1 => ?_
  cases h : isD ct d with
  | bad => rw [h] at f1; exact False.elim f1
  | exc c => exact absurd h (by unfold isD; split <;> (intro z; cases z))
  | ok bb =>
    rw [h] at f1
    obtain ⟨t, ty, kt⟩ := tyX_dn E1.s r1 ct bb h
    exact ⟨v, .ty ct.nm, t, .type ct.nm, bb, rfl, .ty _, ty, kt, fun L => f1 _ F1 H1 L (.refl E1.s) (.bl bb)⟩
theorem sp_of {K : PySem.W.Frag} {σ : L2.St} {H F : Hp} {Q : VK} {np : Nat} {vs : List V} {ds : List D} {o : Out D} (gg : List D → Out D) (hn : vs.length = np) (sm : Same F H) (ha : DnAll K F vs ds) (e : gg ds = o) (f : FinG K W cl (relE K) σ F H o Q) :
    spD K cl np gg vs H (fun v H' => LenOk K H' → Q v H') (WE W σ) := by
  refine ⟨F, ds, hn, sm, ha, ?_⟩
  rw [e]
  cases o with
  | bad => exact f
  | exc c => exact f
  | ok d => exact fun v F' H' g' r' L => f v F' H' L g' r'
theorem s_call (C : Ck g N cl k cal X W sc) {j : Nat} {x : Str} {p : Pos} (hx : g.fn[j]? = some x) (hg : glB sc x = true) (hm : mA g N sc as es = true) (hs : PA X es (tA X.K W cl cal as)) : PE X (.Call (.Name x p) es [] pos) (tE X.K W cl cal (.call j as)) := by
  obtain ⟨h1, h2, h3⟩ := C.gl hg
  obtain ⟨f, fd, ps, k1, k2, k3, k4, k5⟩ := C.fc.fn j x hx
  have len : ∀ {σ : L2.St} {H F : Hp} {Q : VK} {vs : List V} {ds : List D}, DnAll X.K F vs ds → FinG X.K W cl (relE X.K) σ F H (cal j ds) Q → vs.length = ps.length := fun {σ H F Q vs ds} r f => by
    rw [r.length]
    refine k5 ds fun z => ?_
    rw [z] at f
    exact f
  cases es with
  | nil =>
    cases as <;> simp only [mA, Bool.false_eq_true] at hm
    refine ⟨fun pins s σ H Q I ⟨F0, H0, ρ, F, E, fq⟩ => ?_⟩
    simp only [evE, evA, bnd_ok] at fq
    refine wpAny_Call_Name_kw (ld_glob I h1 k1 ?_ h2)
    refine PySem.W.callWith_K0 I.kIn k2 (thn (run_fnS k4 C.room k3 (passAt C.tk σ) I .nil (Q := fun v H' => LenOk X.K H' → Q v H') (sp_of (cal j) (len .nil fq) E.s .nil rfl fq)) fun _ _ ⟨v, H', I', r, q⟩ => ⟨v, H', I', r, q (lenOk I')⟩)
  | cons e es =>
    cases as <;> simp only [mA, Bool.false_eq_true] at hm
    rename_i a0 as0
    simp only [Bool.and_eq_true] at hm
    refine PE.by (pe_callS k4 C.room h1 k1 k2 k3 (fun σ => passAt C.tk σ) hs h2 (star_ok hm.1 _ _) (stars_ok hm.2 _ _)) fun σ H Q ⟨F0, H0, ρ, F, E, fq⟩ => ?_
    simp only [evE] at fq
    refine ta_bnd E fq fun ds vs F1 H1 hev L1 g1 r1 E1 f1 => ?_
    exact sp_of (cal j) (len r1 f1) E1.s r1 rfl f1
theorem allInts_eq : ∀ {ts : List D} {ns : List Int}, allInts ts = some ns → ts = ns.map .int
  | [], ns, e => by
    cases e
    rfl
  | x :: r, ns, e => by
    unfold allInts at e
    split at e
    · rename_i i l hl
      cases e
      rw [List.map_cons, ← allInts_eq hl]
    · cases e
theorem opCC_ok {o : Out D} {y d : D} (h : opCC o y = .ok d) : ∃ ns : List Int, y = tupI ns ∧ ns.length ≤ 12 ∧ o = .ok d := by
  unfold opCC at h
  cases y <;> first | (cases h; done) | skip
  rename_i ts
  simp only at h
  cases e : allInts ts with
  | none => rw [e] at h; cases h
  | some ns =>
    rw [e] at h
    simp only at h
    split at h
    · rename_i hl
      refine ⟨ns, by rw [allInts_eq e] <;> rfl, hl, ?_⟩
      cases o <;> first | (cases h; done) | skip
      cases h
      rfl
    · cases h
theorem opCC_nex {o : Out D} {y : D} {c : Nat} : opCC o y ≠ .exc c := by
  unfold opCC
  repeat' split
  all_goals (intro z; cases z)
/-- f(x, y, {}) -/
theorem s_cc (C : Ck g N cl k cal X W sc) {j : Nat} {x : Str} {p p2 : Pos} {e1 e2 : Expr} (hx : g.mf = some (j, x)) (hg : glB sc x = true) (m1 : mE g N sc a e1 = true) (m2 : mE g N sc b e2 = true) (ha : PE X e1 (tE X.K W cl cal a)) (hb : PE X e2 (tE X.K W cl cal b)) :
    PE X (.Call (.Name x p) [e1, e2, .Dict [] [] p2] [] pos) (tE X.K W cl cal (.cc j a b)) := by
  obtain ⟨h1, h2, h3⟩ := C.gl hg
  obtain ⟨f, fd, ps, k1, k2, k3, k4⟩ := C.fc.mf j x hx
  -- what is known: what the def itself says
  have an : AnOk (cal j) (fun dt ns d => cal j [dt, tupI ns] = .ok d) := ⟨fun _ _ _ h => h, fun _ _ _ _ h h' => by
    rw [h] at h'
    exact Out.ok.inj h'⟩
  have hs : PA X [e1, e2, .Dict [] [] p2] (tCons (tE X.K W cl cal a) (tCons (tE X.K W cl cal b) (tCons tDNewT tNil))) :=
    pa_cons ha (pa_cons hb (pa_cons pe_dnewT pa_nil (by rfl)) (star_ok m2 _ _)) (star_ok m1 _ _)
  refine PE.by (pe_callS (k4 _ an) C.room h1 k1 k2 k3 (fun σ => passAt C.tk σ) hs h2 (star_ok m1 _ _) (by
    unfold backTo
    rw [star_ok m2] <;> rfl)) fun σ H Q ⟨F0, H0, ρ, F, E, fq⟩ => ?_
  simp only [evE] at fq
  refine te_bnd E fq fun dx v1 F1 H1 _ g1 r1 E1 f1 => te_bnd E1 f1 fun dy v2 F2 H2 L2 g2 r2 E2 f2 => ?_
  cases o : opCC (cal j [dx, dy]) dy with
  | bad => rw [o] at f2; exact False.elim f2
  | exc c => exact absurd o opCC_nex
  | ok d =>
    rw [o] at f2
    obtain ⟨ns, e1, hl, e2⟩ := opCC_ok o
    subst e1
    intro q nq
    have nF : F2 q = none := E2.s.free nq
    have sm : Same F2 (upd H2 q (.dT [])) := E2.s.trans (same_new nq)
    refine ⟨F2, v1, v2, q, [], dx, ns, ns, d, rfl, sm, nF, upd_same, r1.same g2.f, r2, List.Sublist.refl _, hl, ⟨List.nodup_nil, fun _ _ z => absurd z (by simp)⟩, e2, fun v F' H' kvs' gx _ _ _ rv L => ?_⟩
    refine f2 v F' H' L ⟨fun b u e => gx.h b u (ne_of_none e nq) (by rw [upd_ne (ne_of_none e nq)]; exact e), gx.f, gx.s, fun b hb => ?_⟩ rv
    rcases gx.n b hb with z | z
    · exact .inl z
    · by_cases hq : b = q
      · rw [hq]
        exact .inr nq
      · rw [upd_ne hq] at z
        exact .inr z
/-! ranges as lists, tuples -/
theorem rgV_dn {K : PySem.W.Frag} {F : Hp} (x y : Int) : DnAll K F (rgV x y) (rngD x y) := by
  unfold rgV rngD
  induction List.range (y - x).toNat with
  | nil => exact .nil
  | cons i r ih => exact .cons (.int _) ih
theorem rng_ok {x y : Int} (h : rngOk x y = true) : RgOk x y := by
  unfold rngOk two62 SZ at h
  have h' := of_decide_eq_true h
  have e : (2 : Int) ^ 62 = 4611686018427387904 := by decide
  refine ⟨by omega, by omega, by omega, by omega, by omega⟩
def rngP (x y : D) : Out (Int × Int) := match x, y with
    | .int i, .int j => if rngOk i j then .ok (i, j) else .bad
    | _, _ => .bad
/-- the bounds of a range -/
def evR (cal : Nat → List D → Out D) (ρ : En) (a b : M) : Out (Int × Int) := (zOr a (evE cal ρ a)).bnd fun x => (evE cal ρ b).bnd fun y => rngP x y
def relR : Hp → Int × Int → Int × Int → Prop := fun _ v l => v = l ∧ rngOk v.1 v.2 = true
def tRg (K : PySem.W.Frag) (W : WX) (cl : Nat → Addr) (cal : Nat → List D → Out D) (a b : M) : L2.St → Hp → (Int → Int → Hp → Prop) → Prop := fun σ H R => ∃ F0 H0 ρ F, EnvOk K F0 H0 F H σ ρ ∧ FinG K W cl relR σ F H (evR cal ρ a b) (fun v H' => R v.1 v.2 H')
theorem rgd_bnd {γ : Type} (f : List D → Out γ) (x y : D) : ((opRng x y).bnd f) = (rngP x y).bnd fun v => f (rngD v.1 v.2) := by
  cases x <;> first | rfl | skip
  cases y <;> first | rfl | skip
  rename_i i j
  show Out.bnd (if rngOk i j = true then Out.ok (rngD i j) else Out.bad) f = Out.bnd (if rngOk i j = true then Out.ok (i, j) else Out.bad) _
  split <;> rfl
theorem bnd_assoc {α β γ : Type} (o : Out α) (f : α → Out β) (g : β → Out γ) : (o.bnd f).bnd g = o.bnd fun x => (f x).bnd g := by cases o <;> rfl
theorem evR_list {γ : Type} (cal : Nat → List D → Out D) (ρ : En) (a b : M) (f : List D → Out γ) : ((zOr a (evE cal ρ a)).bnd fun x => (evE cal ρ b).bnd fun y => (opRng x y).bnd f) = (evR cal ρ a b).bnd fun v => f (rngD v.1 v.2) := by
  unfold evR
  rw [bnd_assoc]
  congr 1
  funext x
  rw [bnd_assoc]
  congr 1
  funext y
  exact rgd_bnd f x y
theorem isNil_eq {a : M} (h : isNil a = true) : a = .nil := by cases a <;> first | rfl | cases h
theorem notNil {e : Expr} (h : mE g N sc a e = true) (o : Out D) : zOr a o = o := by
  cases a <;> first | rfl | (cases e <;> simp [mE] at h)
theorem s_rg (C : Ck g N cl k cal X W sc) {r : Str} {p : Pos} (hr : r = "range") (hg : glB sc r = true) (hm : (match es with
    | [y] => isNil a && mE g N sc b y
    | [x, y] => mE g N sc a x && mE g N sc b y
    | _ => false) = true) (ha : ∀ {e : Expr}, mE g N sc a e = true → PE X e (tE X.K W cl cal a)) (hb : ∀ {e : Expr}, mE g N sc b e = true → PE X e (tE X.K W cl cal b)) :
    PRg X (.Call (.Name r p) es [] pos) (fun σ H R => tRg X.K W cl cal a b σ H fun i j H' => LenOk X.K H' → R i j H') := by
  obtain ⟨h1, h2, h3⟩ := C.gl hg
  have mg : X.mg r = none := C.fc.bl r (by rw [hr]; simp [blNames])
  subst hr
  intro pins s σ H Q I ⟨F0, H0, ρ, F, E, f⟩
  match es, hm with
  | [y], hm =>
    simp only [Bool.and_eq_true] at hm
    have e0 := isNil_eq hm.1
    subst e0
    refine thn (prg_1 h1 mg (hb hm.2) (star_ok hm.2 _ _) pins s σ H (fun i j H' => LenOk X.K H' → Q i j H') I ?_) fun x s' ⟨rr, a', b', t, u, v, H', e1, e2, I', q⟩ => ⟨rr, a', b', t, u, v, H', e1, e2, I', q (lenOk I')⟩
    simp only [evR, zOr, bnd_ok] at f
    refine te_bnd E f fun d v F1 H1 L1 g1 r1 E1 f1 => ?_
    cases r1 <;> first | exact False.elim f1 | skip
    rename_i n
    simp only [rngP] at f1
    split at f1
    · rename_i ok
      exact ⟨n, rfl, f1 (0, n) F1 H1 L1 (.refl E1.s) ⟨rfl, ok⟩⟩
    · exact False.elim f1
  | [x, y], hm =>
    simp only [Bool.and_eq_true] at hm
    refine thn (prg_2 h1 mg (ha hm.1) (hb hm.2) (star_ok hm.1 _ _) (star_ok hm.2 _ _) (by rw [star_ok hm.2] <;> rfl) pins s σ H (fun i j H' => LenOk X.K H' → Q i j H') I ?_) fun x s' ⟨rr, a', b', t, u, v, H', e1, e2, I', q⟩ => ⟨rr, a', b', t, u, v, H', e1, e2, I', q (lenOk I')⟩
    unfold evR at f
    rw [notNil hm.1] at f
    refine te_bnd E f fun d v F1 H1 L1 g1 r1 E1 f1 => te_bnd E1 f1 fun d2 v2 F2 H2 L2 g2 r2 E2 f2 => ?_
    cases r1 <;> first | exact False.elim f2 | skip
    cases r2 <;> first | exact False.elim f2 | skip
    rename_i i j
    simp only [rngP] at f2
    split at f2
    · rename_i ok
      exact ⟨i, j, rfl, rfl, f2 (i, j) F2 H2 L2 (.refl E2.s) ⟨rfl, ok⟩⟩
    · exact False.elim f2
  | [], hm => exact absurd hm Bool.false_ne_true
  | _ :: _ :: _ :: _, hm => exact absurd hm Bool.false_ne_true
theorem s_lrg (C : Ck g N cl k cal X W sc) {r f : Str} {p p2 pos2 : Pos} (hf : f = "list") (gf : glB sc f = true) (he : PRg X (.Call (.Name r p2) es [] pos2) (fun σ H R => tRg X.K W cl cal a b σ H fun i j H' => LenOk X.K H' → R i j H')) :
    PE X (.Call (.Name f p) [.Call (.Name r p2) es [] pos2] [] pos) (tE X.K W cl cal (.lrg a b)) := by
  obtain ⟨h1, h2, h3⟩ := C.gl gf
  have mg : X.mg f = none := C.fc.bl f (by rw [hf]; simp [blNames])
  subst hf
  refine PE.by (pe_listRg C.calm h1 mg he) fun σ H Q ⟨F0, H0, ρ, F, E, f⟩ => ?_
  simp only [evE] at f
  rw [evR_list] at f
  refine ⟨F0, H0, ρ, F, E, fin_bnd f fun d v F1 H1 _ L1 g1 ⟨e1, ok⟩ f1 => fun _ => ⟨rng_ok ok, fun q nq L => ?_⟩⟩
  subst e1
  exact f1 _ (upd F1 q _) _ L (Grow.new (E.grow g1).s nq) (.lst upd_same (rgV_dn _ _))
theorem s_trg (C : Ck g N cl k cal X W sc) {r f : Str} {p p2 pos2 : Pos} (hf : f = "tuple") (gf : glB sc f = true) (he : PRg X (.Call (.Name r p2) es [] pos2) (fun σ H R => tRg X.K W cl cal a b σ H fun i j H' => LenOk X.K H' → R i j H')) :
    PE X (.Call (.Name f p) [.Call (.Name r p2) es [] pos2] [] pos) (tE X.K W cl cal (.trg a b)) := by
  obtain ⟨h1, h2, h3⟩ := C.gl gf
  have mg : X.mg f = none := C.fc.bl f (by rw [hf]; simp [blNames])
  subst hf
  refine PE.by (pe_tupRg C.calm h1 mg he) fun σ H Q ⟨F0, H0, ρ, F, E, f⟩ => ?_
  simp only [evE] at f
  rw [evR_list] at f
  refine ⟨F0, H0, ρ, F, E, fin_bnd f fun d v F1 H1 _ L1 g1 ⟨e1, ok⟩ f1 => fun _ => ⟨rng_ok ok, fun q nq L => ?_⟩⟩
  subst e1
  exact f1 _ (upd F1 q _) _ L (Grow.new (E.grow g1).s nq) (.tup upd_same (rgV_dn _ _))
/-! xs.index(y) -/
theorem s_idx (C : Ck g N cl k cal X W sc) {x : Expr} {mm : Str} {ap cp : Pos} (hmm : mm = "index") (hl : (ap.endLine == cp.line) = true) (hn : notCall e = true) (ha : PE X e (tE X.K W cl cal a)) (hb : PE X x (tE X.K W cl cal b)) (hmx : mE g N sc b x = true) :
    PE X (.Call (.Attribute e mm ap) [x] [] cp) (tE X.K W cl cal (.idx a b)) := by
  subst hmm
  have hbase : attributeBase e ("index" : Str) X.env (eval e X.env) = eval e X.env := by
    cases e <;> first | rfl | cases hn
  have hu := C.hu
  have hfew : ((backTo cp (starEach [x] X.env)).all (fun x => !x.1) && (backToKw cp (keywordEach [] X.env)).all (fun x => x.1.isSome)
      && decide ([x].length + ([] : List Keyword).length + (if ([] : List Keyword).isEmpty then 0 else 1) < 30)) = true := by
    rw [star_ok hmx]
    rfl
  refine PE.by (pe_bm PySem.F.plainAttrs_list PySem.F.slot_list_index PySem.F.type_list_index (mt_indexD hu) ha (pa_cons hb pa_nil (star_ok hmx _ _)) hbase hfew hl (star_ok hmx _ _) rfl) fun σ H Q ⟨F0, H0, ρ, F, E, f⟩ => ?_
  simp only [evE] at f
  refine te_bnd E f fun d v F1 H1 L1 g1 r1 E1 f1 => ?_
  cases r1 <;> first | exact False.elim f1 | skip
  rename_i p vs ds hp ha2
  have hs := E1.s
  refine ⟨.inl ⟨rfl, _, SqL.of (hs _ _ hp)⟩, ?_⟩
  refine te_bnd E1 f1 fun d2 v2 F2 H2 L2 g2 r2 E2 f2 => ?_
  unfold opIndex at f2
  split at f2
  · rename_i c
    obtain ⟨c1, c2⟩ := Bool.and_eq_true_iff.mp c
    split at f2
    · rename_i jj hj
      obtain ⟨hjl, hj1, hj2⟩ := List.findIdx?_eq_some_iff_getElem.mp hj
      have hd : Dn X.K F2 (.ref p) (.list ds) := .lst (g2.f _ _ hp) (ha2.same g2.f)
      refine ⟨p, v2, d2, ds, jj, ds[jj], rfl, rfl, hd.dp E2.s (SeqAt.canLay_of_shaped c1), r2.dp E2.s (SeqAt.canLay_of_shaped c2), c1, c2, List.getElem?_eq_getElem hjl, hj1, fun mm z' hm hz => ?_, fun _ => f2 _ F2 H2 L2 (.refl E2.s) (.int _)⟩
      have hml : mm < ds.length := by omega
      rw [List.getElem?_eq_getElem hml] at hz
      cases hz
      exact Bool.not_eq_true _ |>.mp (hj2 mm hm)
    · exact False.elim f2
  · exact False.elim f2
end
end Mz

/-! Part 9: what is walked; targets; comprehensions. -/
namespace Mz
open PySem PySem.Spec PyProof.Rows L2

/-! ### slots stored, forgotten -/
theorem wipe_get {σ : L2.St} : ∀ (vs : List Nat) (j : Nat), (wipe σ vs)[j]? = if j ∈ vs ∧ j < σ.length then some none else σ[j]?
  | [], j => by simp [wipe]
  | v :: vs, j => by
    unfold wipe
    rw [List.getElem?_set, wipe_get vs j, wipe_length]
    by_cases h : v = j
    · subst h
      by_cases hl : v < σ.length
      · simp [hl]
      · simp [hl]
    · rw [if_neg h]
      simp [Ne.symm h]
theorem fgt_length : ∀ (ρ : En) (vs : List Nat), (fgt ρ vs).length = ρ.length
  | ρ, [] => rfl
  | ρ, v :: vs => by
    unfold fgt
    rw [List.length_set, fgt_length ρ vs]
theorem fgt_get {ρ : En} : ∀ (vs : List Nat) (j : Nat), (fgt ρ vs)[j]? = if j ∈ vs ∧ j < ρ.length then some .un else ρ[j]?
  | [], j => by simp [fgt]
  | v :: vs, j => by
    unfold fgt
    rw [List.getElem?_set, fgt_get vs j, fgt_length]
    by_cases h : v = j
    · subst h
      by_cases hl : v < ρ.length
      · simp [hl]
      · simp [hl]
    · rw [if_neg h]
      simp [Ne.symm h]
theorem wipe_wipe (σ : L2.St) (vs : List Nat) : wipe (wipe σ vs) vs = wipe σ vs := by
  refine List.ext_getElem? fun j => ?_
  rw [wipe_get, wipe_length, wipe_get]
  by_cases h : j ∈ vs ∧ j < σ.length
  · simp [h]
  · simp [h]
theorem wipe_set {σ : L2.St} {vs : List Nat} {i : Nat} (h : i ∈ vs) (x : Option V) : wipe (σ.set i x) vs = wipe σ vs := by
  refine List.ext_getElem? fun j => ?_
  rw [wipe_get, wipe_get, List.length_set]
  by_cases hj : j ∈ vs ∧ j < σ.length
  · rw [if_pos hj, if_pos hj]
  · rw [if_neg hj, if_neg hj, List.getElem?_set]
    by_cases e : i = j
    · subst e
      have hl : ¬ i < σ.length := fun z => hj ⟨h, z⟩
      rw [if_pos rfl, if_neg hl, List.getElem?_eq_none (Nat.le_of_not_lt hl)]
    · rw [if_neg e]
section
variable {K : PySem.W.Frag} {F0 H0 F H F' H' : Hp} {σ : L2.St} {ρ : En}
theorem EnvOk.wipe (E : EnvOk K F0 H0 F H σ ρ) (vs : List Nat) : EnvOk K F0 H0 F H (wipe σ vs) (fgt ρ vs) := by
  refine ⟨E.g, by rw [wipe_length, fgt_length]; exact E.len, fun i d e => ?_, fun i ds e => ?_⟩
  · rw [fgt_get] at e
    split at e
    · cases e
    · rename_i hn
      obtain ⟨v, h1, h2⟩ := E.py i d e
      rw [← E.len] at hn
      exact ⟨v, by rw [wipe_get, if_neg hn]; exact h1, h2⟩
  · rw [fgt_get] at e
    split at e
    · cases e
    · rename_i hn
      obtain ⟨a, xs, h1, h2, h3, h4, h5, h6⟩ := E.own i ds e
      rw [← E.len] at hn
      refine ⟨a, xs, by rw [wipe_get, if_neg hn]; exact h1, h2, h3, h4, h5, fun j ds' hj hr z => ?_⟩
      rw [fgt_get] at hr
      split at hr
      · cases hr
      · rename_i hn2
        rw [← E.len] at hn2
        rw [wipe_get, if_neg hn2] at z
        exact h6 j ds' hj hr z
/-- slots forgotten, as the evaluator does, the state's kept -/
theorem EnvOk.fgt (E : EnvOk K F0 H0 F H σ ρ) (vs : List Nat) : EnvOk K F0 H0 F H σ (fgt ρ vs) := by
  refine ⟨E.g, by rw [fgt_length]; exact E.len, fun i d e => ?_, fun i ds e => ?_⟩
  · rw [fgt_get] at e
    split at e
    · cases e
    · exact E.py i d e
  · rw [fgt_get] at e
    split at e
    · cases e
    · obtain ⟨a, xs, h1, h2, h3, h4, h5, h6⟩ := E.own i ds e
      refine ⟨a, xs, h1, h2, h3, h4, h5, fun j ds' hj hr => ?_⟩
      rw [fgt_get] at hr
      split at hr
      · cases hr
      · exact h6 j ds' hj hr
theorem EnvOk.set {v : V} {d : D} (E : EnvOk K F0 H0 F H σ ρ) (h : Dn K F v d) (i : Nat) : EnvOk K F0 H0 F H (σ.set i (some v)) (ρ.set i (.py d)) := by
  refine ⟨E.g, by rw [List.length_set, List.length_set]; exact E.len, fun j d' e => ?_, fun j ds e => ?_⟩
  · rw [List.getElem?_set] at e
    rw [List.getElem?_set]
    split at e
    · rename_i hij
      split at e
      · rename_i hl
        cases e
        rw [if_pos hij, if_pos (by rw [E.len]; exact hl)]
        exact ⟨v, rfl, h⟩
      · cases e
    · rename_i hij
      rw [if_neg hij]
      exact E.py j d' e
  · rw [List.getElem?_set] at e
    split at e
    · split at e <;> cases e
    · rename_i hij
      obtain ⟨a, xs, h1, h2, h3, h4, h5, h6⟩ := E.own j ds e
      refine ⟨a, xs, by rw [List.getElem?_set, if_neg hij]; exact h1, h2, h3, h4, h5, fun j' ds' hj hr z => ?_⟩
      rw [List.getElem?_set] at hr
      split at hr
      · split at hr <;> cases hr
      · rename_i hij2
        rw [List.getElem?_set, if_neg hij2] at z
        exact h6 j' ds' hj hr z
/-- an object that is no slot's is laid or changed beside -/
theorem EnvOk.side {p : Addr} {o : HO} (E : EnvOk K F0 H0 F H σ ρ) (h0 : H0 p = none) (hF : F p = none) (hp : ∀ (i : Nat) (ds : List D), ρ[i]? = some (.own ds) → σ[i]? ≠ some (some (V.ref p))) : EnvOk K F0 H0 F (upd H p o) σ ρ := by
  have sm : Same F (upd H p o) := fun b u e => by
    rw [upd_ne (ne_of_none e hF)]
    exact E.s b u e
  refine ⟨⟨fun b u e => ?_, E.g.f, sm, E.g.n⟩, E.len, E.py, fun i ds e => ?_⟩
  · rw [upd_ne (ne_of_none e h0)]
    exact E.g.h b u e
  · obtain ⟨a, xs, h1, h2, h3, h4, h5, h6⟩ := E.own i ds e
    refine ⟨a, xs, h1, ?_, h3, h4, h5, h6⟩
    rw [upd_ne fun z => hp i ds e (by rw [h1, z])]
    exact h2
theorem Grow.keep (g : Grow F H F' H') {a : Addr} {o : HO} (hF : F a = none) (hH : H a = some o) : F' a = none := by
  cases q : F' a with
  | none => rfl
  | some u =>
    rcases g.n a (by rw [q]; simp) with z | z
    · exact absurd hF z
    · rw [hH] at z
      cases z
end

/-! ### targets -/
def gs : List Nat → TGs
  | [] => gNil
  | i :: is => gCons (gName i) (gs is)
def gUT (K : PySem.W.Frag) (n : Nat) (t : TGs) : TG := fun v σ H Q => gTup K n t v σ H Q ∨ gUnl K n t v σ H Q
theorem pg_ut {X : Cx} {pos : Pos} {es : List Expr} {k : Nat} {t : TGs} {n : Nat} (hc : X.calm = true) (h : PGs X es t)
    (hn : (assignEach es X.env).length = n) (hst : (assignEach es X.env).findIdx? (·.1) = none) : PG X (.Tuple es k pos) (gUT X.K n t) := by
  refine ⟨fun pins s σ H v u Q I r hw => ?_⟩
  rcases hw with hw | hw
  · exact (pg_tup hc h hn hst).run pins s σ H v u Q I r hw
  · exact (pg_unl hc h hn hst).run pins s σ H v u Q I r hw
def gT (K : PySem.W.Frag) : Tg → TG
  | .n i => gName i
  | .t is => gUT K is.length (gs is)
section
variable {X : Cx} {N : List Str} {fB : Str → Bool} {sc : Scope}
structure Tk (N : List Str) (fB : Str → Bool) (sc : Scope) (X : Cx) : Prop where
  eN : X.N = N
  nd : N.Nodup
  eS : X.env.scope = sc
  calm : X.calm = true
  fn : ∀ x, fB x = true → X.fn x = true
theorem tgN_ok (T : Tk N fB sc X) {i : Nat} {e : Expr} (h : tgN N fB sc i e = true) : PG X e (gName i) := by
  unfold tgN at h
  split at h
  · simp only [Bool.and_eq_true, Bool.or_eq_true, decide_eq_true_eq] at h
    obtain ⟨⟨h1, h2⟩, h3⟩ := h
    refine pg_name (by rw [T.eN]; exact T.nd) (by rw [T.eN]; exact h1) ?_ ?_
    · rw [T.eS]
      unfold locB at h2
      unfold L2.Loc
      split at h2
      · exact .inl (by assumption)
      · exact .inr (by assumption)
      · cases h2
    · rw [T.eS]
      rcases h3 with h3 | h3
      · exact .inl (T.fn _ h3)
      · exact .inr h3
  · cases h
theorem tgN_star {i : Nat} {e : Expr} (h : tgN N fB sc i e = true) (es : List Expr) (env : Env) : assignEach (e :: es) env = (false, assign e env) :: assignEach es env := by
  cases e <;> first | rfl | cases h
theorem tgL_ok (T : Tk N fB sc X) : ∀ {is : List Nat} {es : List Expr}, tgL N fB sc is es = true → PGs X es (gs is) ∧ (∀ env, (assignEach es env).length = is.length) ∧ ∀ env, (assignEach es env).findIdx? (·.1) = none
  | [], [], _ => ⟨pgs_nil, fun _ => rfl, fun _ => rfl⟩
  | i :: is, e :: es, h => by
    simp only [tgL, Bool.and_eq_true] at h
    obtain ⟨h1, h2, h3⟩ := tgL_ok T h.2
    refine ⟨pgs_cons (tgN_ok T h.1) h1 (by rw [tgN_star h.1] <;> rfl), fun env => ?_, fun env => ?_⟩
    · rw [tgN_star h.1, List.length_cons, h2 env] <;> rfl
    · rw [tgN_star h.1, List.findIdx?_cons, h3 env] <;> rfl
  | [], _ :: _, h => by cases h
  | _ :: _, [], h => by cases h
theorem mT_ok (T : Tk N fB sc X) {t : Tg} {e : Expr} (h : mT N fB sc t e = true) : PG X e (gT X.K t) := by
  unfold mT at h
  split at h
  · exact tgN_ok T h
  · obtain ⟨h1, h2, h3⟩ := tgL_ok T h
    exact pg_ut T.calm h1 (h2 _) (h3 _)
  · cases h
end
section
variable {K : PySem.W.Frag} {F0 H0 F H : Hp}
theorem gs_rd : ∀ {is : List Nat} {vs : List V} {ds : List D} {σ : L2.St} {ρ : En} {Q : L2.St → Hp → Prop}, DnAll K F vs ds → ds.length = is.length → EnvOk K F0 H0 F H σ ρ →
    (∀ σ2, EnvOk K F0 H0 F H σ2 (setE ρ is ds) → (∀ ws, (∀ i ∈ is, i ∈ ws) → wipe σ2 ws = wipe σ ws) → Q σ2 H) → gs is vs σ H Q
  | [], _, _, σ, ρ, Q, .nil, _, E, q => ⟨rfl, q σ E fun _ _ => rfl⟩
  | i :: is, _, _, σ, ρ, Q, .cons h ha, hl, E, q => by
    refine ⟨_, _, rfl, ?_⟩
    refine gs_rd (is := is) ha (by simpa using hl) (E.set h i) fun σ2 E2 w2 => q σ2 E2 fun ws hw => ?_
    rw [w2 ws fun j hj => hw j (List.mem_cons_of_mem _ hj), wipe_set (hw i List.mem_cons_self)]
  | [], _, _, _, _, _, .cons _ _, hl, _, _ => by cases hl
  | _ :: _, _, _, _, _, _, .nil, hl, _, _ => by cases hl
theorem gT_rd {t : Tg} {v : V} {d : D} {σ : L2.St} {ρ ρ' : En} {Q : L2.St → Hp → Prop} (h : asgT t d ρ = some ρ') (hd : Dn K F v d) (E : EnvOk K F0 H0 F H σ ρ)
    (q : ∀ σ2, EnvOk K F0 H0 F H σ2 ρ' → (∀ ow : List (Str × Nat), tgIn ow t = true → wipe σ2 (ow.map (·.2)) = wipe σ (ow.map (·.2))) → Q σ2 H) : gT K t v σ H Q := by
  cases t with
  | n i =>
    have e : ρ.set i (.py d) = ρ' := Option.some.inj h
    subst e
    exact q _ (E.set hd i) fun ow hw => wipe_set (of_decide_eq_true hw) _
  | t is =>
    simp only [asgT] at h
    split at h
    · split at h
      · rename_i hl
        cases h
        cases hd with
        | tup hs ha =>
          refine .inl ⟨_, _, rfl, SqT.of (E.s _ _ hs), by rw [ha.length]; exact hl, gs_rd ha hl E fun σ2 E2 w2 => q σ2 E2 fun ow hw => w2 _ fun i hi => ?_⟩
          exact of_decide_eq_true (List.all_eq_true.mp hw i hi)
      · cases h
    · split at h
      · rename_i hl
        cases h
        cases hd with
        | lst hs ha =>
          refine .inr ⟨_, _, rfl, SqL.of (E.s _ _ hs), by rw [ha.length]; exact hl, gs_rd ha hl E fun σ2 E2 w2 => q σ2 E2 fun ow hw => w2 _ fun i hi => ?_⟩
          exact of_decide_eq_true (List.all_eq_true.mp hw i hi)
      · cases h
    · cases h
end

/-! ### what is walked -/
def relI (K : PySem.W.Frag) : Hp → It → List D → Prop := fun F J ds => ds.length ≤ SZ ∧ Walk J ds.length (fun H => Same F H) fun i H x H' => ∀ F1, Same F F1 → Same F1 H → ∃ F2 d, Grow F1 H F2 H' ∧ ds[i]? = some d ∧ Dn K F2 x d
def tI (K : PySem.W.Frag) (W : WX) (cl : Nat → Addr) (cal : Nat → List D → Out D) (m : M) : TI := fun σ H R => ∃ F0 H0 ρ F, EnvOk K F0 H0 F H σ ρ ∧ FinG K W cl (relI K) σ F H (evI cal ρ m) R
theorem PI.by {X : Cx} {tg e : Expr} {w w' : TI} (h : PI X tg e w) (f : ∀ σ H R, w' σ H R → w σ H fun J H' => LenOk X.K H' → R J H') : PI X tg e w' :=
  ⟨fun pins s σ H R I q => thn (h.run pins s σ H _ I (f σ H R q)) fun _ _ h1 => thn h1 fun _ _ ⟨it, fp, tn, J, H', e, I', T, st, fo, k⟩ => ⟨it, fp, tn, J, H', e, I', T, st, fo, k (lenOk I')⟩⟩
section
variable {K : PySem.W.Frag} {F H : Hp} {a b : Addr} {xs ys : List V} {ds es : List D}
theorem walk_zipT {n : Nat} (hn : n = min xs.length ys.length) : Walk (RZ.ItzT K a b) n (fun H => SqT K H a xs ∧ SqT K H b ys) (YPair (fun i => xs[i]?) (fun i => ys[i]?)) := by
  subst hn
  refine ⟨fun i H hi q => ?_, fun H q => ⟨xs, ys, q.1, q.2, by omega⟩, fun i H v H' hi q y => ?_⟩
  · have h1 : i < xs.length := by omega
    have h2 : i < ys.length := by omega
    exact ⟨xs, ys, xs[i], ys[i], q.1, q.2, List.getElem?_eq_getElem h1, List.getElem?_eq_getElem h2⟩
  · obtain ⟨T, x, z, h1, h2, h3, h4, h5⟩ := y
    exact ⟨T, x, z, h1, h2, h3, h4 xs q.1, h5 ys q.2⟩
theorem relI_list (h : F a = some (.lst xs)) (ha : DnAll K F xs ds) (L : xs.length ≤ sizeLine) : relI K F (Itl K a) ds := by
  refine ⟨by rw [← ha.length, sz_eq]; exact L, ?_⟩
  rw [← ha.length]
  refine walk_list.mono (fun H s => SqL.of (s _ _ h)) fun i H x H' hi s y F1 s1 s2 => ?_
  obtain ⟨e, y⟩ := y
  subst e
  obtain ⟨d, h1, h2⟩ := ha.get y
  exact ⟨F1, d, .refl s2, h1, h2.same s1⟩
theorem relI_tup (h : F a = some (.tup xs)) (ha : DnAll K F xs ds) (L : xs.length ≤ sizeLine) : relI K F (Itt K a) ds := by
  refine ⟨by rw [← ha.length, sz_eq]; exact L, ?_⟩
  rw [← ha.length]
  refine walk_tup.mono (fun H s => SqT.of (s _ _ h)) fun i H x H' hi s y F1 s1 s2 => ?_
  obtain ⟨e, y⟩ := y
  subst e
  obtain ⟨d, h1, h2⟩ := ha.get y
  exact ⟨F1, d, .refl s2, h1, h2.same s1⟩
theorem rngD_length (x y : Int) : (rngD x y).length = (y - x).toNat := by
  unfold rngD
  rw [List.length_map, List.length_range]
theorem rngD_get (x y : Int) {i : Nat} (h : i < (y - x).toNat) : (rngD x y)[i]? = some (.int (x + (i : Int))) := by
  unfold rngD
  rw [List.getElem?_map, List.getElem?_range h] <;> rfl
theorem relI_rng {x y : Int} (h : rngOk x y = true) : relI K F (Itr x (y - x).toNat) (rngD x y) := by
  refine ⟨?_, ?_⟩
  · rw [rngD_length]
    unfold rngOk SZ at h
    have := of_decide_eq_true h
    unfold SZ
    omega
  · rw [rngD_length]
    refine walk_range.mono (fun _ _ => trivial) fun i H v H' hi s y F1 s1 s2 => ?_
    obtain ⟨e, y⟩ := y
    subst e y
    exact ⟨F1, _, .refl s2, rngD_get _ _ hi, .int _⟩
theorem relI_str {z : Str} (L : z.length ≤ SZ) : relI K F (Its z) (charsD z) := by
  have e : (charsD z).length = z.cps.size := by
    unfold charsD
    rw [List.length_map, Array.length_toList]
  refine ⟨by rw [e]; exact L, ?_⟩
  rw [e]
  refine walk_str.mono (fun _ _ => trivial) fun i H v H' hi s y F1 s1 s2 => ?_
  obtain ⟨e1, c, hc, e2⟩ := y
  subst e1 e2
  refine ⟨F1, .str ⟨#[c]⟩, .refl s2, ?_, .str _⟩
  unfold charsD
  rw [List.getElem?_map, Array.getElem?_toList, hc] <;> rfl
theorem enmD_get : ∀ (k : Nat) (ds : List D) (i : Nat) (d : D), ds[i]? = some d → (enmD k ds)[i]? = some (.tuple [.int ((k + i : Nat) : Int), d])
  | _, [], _, _, h => by simp at h
  | k, x :: r, 0, d, h => by
    simp at h
    subst h
    rfl
  | k, x :: r, i + 1, d, h => by
    have q := enmD_get (k + 1) r i d (by simpa using h)
    rw [show k + 1 + i = k + (i + 1) by omega] at q
    simpa [enmD] using q
theorem enmD_length : ∀ (k : Nat) (ds : List D), (enmD k ds).length = ds.length
  | _, [] => rfl
  | k, x :: r => congrArg (· + 1) (enmD_length (k + 1) r)
theorem pair_dn {H H' F1 : Hp} {T : Addr} {x y : V} {d e : D} (s : Same F1 H) (n : H T = none) (e2 : H' = upd H T (.tup [x, y])) (h1 : Dn K F1 x d) (h2 : Dn K F1 y e) :
    ∃ F2, Grow F1 H F2 H' ∧ Dn K F2 (.ref T) (.tuple [d, e]) := by
  subst e2
  refine ⟨upd F1 T (.tup [x, y]), Grow.new s n, .tup upd_same ?_⟩
  have z := same_new (o := .tup [x, y]) (s.free n)
  exact .cons (h1.same z) (.cons (h2.same z) .nil)
theorem relI_enm (h : F a = some (.lst xs)) (ha : DnAll K F xs ds) (L : xs.length ≤ sizeLine) : relI K F (Ite K a) (enmD 0 ds) := by
  refine ⟨by rw [enmD_length, ← ha.length, sz_eq]; exact L, ?_⟩
  rw [enmD_length, ← ha.length]
  refine walk_enum.mono (fun H s => SqL.of (s _ _ h)) fun i H v H' hi s y F1 s1 s2 => ?_
  obtain ⟨T, x, z, e1, n, e2, e3, e4⟩ := y
  subst e1
  obtain ⟨d, h1, h2⟩ := ha.get e4
  have e3' : V.int (i : Nat) = x := Option.some.inj e3
  subst e3'
  obtain ⟨F2, g2, r2⟩ := pair_dn s2 n e2 (.int (i : Nat)) (h2.same s1)
  refine ⟨F2, _, g2, enmD_get 0 ds i d h1, ?_⟩
  rw [Nat.zero_add]
  exact r2
theorem zipD_get : ∀ (ds es : List D) (i : Nat) (d e : D), ds[i]? = some d → es[i]? = some e → (zipD ds es)[i]? = some (.tuple [d, e])
  | [], _, _, _, _, h, _ => by simp at h
  | _ :: _, [], _, _, _, _, h => by simp at h
  | x :: a, y :: b, 0, d, e, h1, h2 => by
    simp at h1 h2
    subst h1 h2
    rfl
  | x :: a, y :: b, i + 1, d, e, h1, h2 => by
    have q := zipD_get a b i d e (by simpa using h1) (by simpa using h2)
    simpa [zipD] using q
theorem zipD_length : ∀ (ds es : List D), (zipD ds es).length = min ds.length es.length
  | [], _ => by simp [zipD]
  | _ :: _, [] => by simp [zipD]
  | x :: a, y :: b => by
    simp only [zipD, List.length_cons, zipD_length a b]
    omega
theorem relI_zip (h : F a = some (.lst xs)) (ha : DnAll K F xs ds) (h' : F b = some (.lst ys)) (hb : DnAll K F ys es) (L : xs.length ≤ sizeLine) : relI K F (Itz K a b) (zipD ds es) := by
  have z := sz_eq
  have l1 := ha.length
  have l2 := hb.length
  refine ⟨by rw [zipD_length]; omega, ?_⟩
  refine (walk_zip (n := (zipD ds es).length) (by rw [zipD_length, l1, l2])).mono (fun H s => ⟨SqL.of (s _ _ h), SqL.of (s _ _ h')⟩) fun i H v H' hi s y F1 s1 s2 => ?_
  obtain ⟨T, x, w, e1, n, e2, e3, e4⟩ := y
  subst e1
  obtain ⟨d, h1, h2⟩ := ha.get e3
  obtain ⟨e, h3, h4⟩ := hb.get e4
  obtain ⟨F2, g2, r2⟩ := pair_dn s2 n e2 (h2.same s1) (h4.same s1)
  exact ⟨F2, _, g2, zipD_get _ _ _ _ _ h1 h3, r2⟩
theorem relI_zipT (h : F a = some (.tup xs)) (ha : DnAll K F xs ds) (h' : F b = some (.tup ys)) (hb : DnAll K F ys es) (L : xs.length ≤ sizeLine) : relI K F (RZ.ItzT K a b) (zipD ds es) := by
  have z := sz_eq
  have l1 := ha.length
  have l2 := hb.length
  refine ⟨by rw [zipD_length]; omega, ?_⟩
  refine (walk_zipT (n := (zipD ds es).length) (by rw [zipD_length, l1, l2])).mono (fun H s => ⟨SqT.of (s _ _ h), SqT.of (s _ _ h')⟩) fun i H v H' hi s y F1 s1 s2 => ?_
  obtain ⟨T, x, w, e1, n, e2, e3, e4⟩ := y
  subst e1
  obtain ⟨d, h1, h2⟩ := ha.get e3
  obtain ⟨e, h3, h4⟩ := hb.get e4
  obtain ⟨F2, g2, r2⟩ := pair_dn s2 n e2 (h2.same s1) (h4.same s1)
  exact ⟨F2, _, g2, zipD_get _ _ _ _ _ h1 h3, r2⟩
end
section
variable {g : Pg} {N : List Str} {cl : Nat → Addr} {k : Nat} {cal : Nat → List D → Out D} {X : Cx} {W : WX} {sc : Scope} {a b c m as : M} {e l r tg : Expr} {es : List Expr} {pos : Pos}
theorem i_b1 (ha : PE X e (tE X.K W cl cal a)) : PI X tg e (tI X.K W cl cal (.b1 a)) := by
  refine ⟨fun pins s σ H R I ⟨F0, H0, ρ, F, E, f⟩ => ?_⟩
  simp only [evI] at f
  cases o : evE cal ρ a with
  | bad => rw [o] at f; exact False.elim f
  | exc z =>
    rw [o] at f
    exact (pi_list (tg := tg) ha).run pins s σ H R I ⟨F0, H0, ρ, F, E, by rw [o]; exact f⟩
  | ok d =>
    rw [o] at f
    simp only [bnd_ok] at f
    cases d <;> first | exact False.elim f | skip
    · rename_i z
      have f : FinG X.K W cl (relI X.K) σ F H (if z.length ≤ SZ then Out.ok (charsD z) else .bad) R := f
      by_cases hl : z.length ≤ SZ
      · rw [if_pos hl] at f
        refine (PI.by (w' := fun σ' H' R' => σ' = σ ∧ H' = H ∧ R' = R) (pi_str (tg := tg) ha) fun σ' H' R' ⟨e1, e2, e3⟩ => ?_).run pins s σ H R I ⟨rfl, rfl, rfl⟩
        subst e1 e2 e3
        refine ⟨F0, H0, ρ, F, E, ?_⟩
        rw [o]
        intro v F1 H1 L1 g1 r1
        cases r1
        exact ⟨_, rfl, fun _ => f _ F1 H1 L1 g1 (relI_str hl)⟩
      · rw [if_neg hl] at f
        exact False.elim f
    · refine (PI.by (w' := fun σ' H' R' => σ' = σ ∧ H' = H ∧ R' = R) (pi_list (tg := tg) ha) fun σ' H' R' ⟨e1, e2, e3⟩ => ?_).run pins s σ H R I ⟨rfl, rfl, rfl⟩
      subst e1 e2 e3
      refine ⟨F0, H0, ρ, F, E, ?_⟩
      rw [o]
      intro v F1 H1 L1 g1 r1
      cases r1 with
      | lst h ha => exact ⟨_, rfl, ⟨_, SqL.of (g1.s _ _ h)⟩, fun _ => f _ F1 H1 L1 g1 (relI_list h ha (L1 _ _ (.inl (SqL.of (g1.s _ _ h)))))⟩
    · refine (PI.by (w' := fun σ' H' R' => σ' = σ ∧ H' = H ∧ R' = R) (pi_tup (tg := tg) ha) fun σ' H' R' ⟨e1, e2, e3⟩ => ?_).run pins s σ H R I ⟨rfl, rfl, rfl⟩
      subst e1 e2 e3
      refine ⟨F0, H0, ρ, F, E, ?_⟩
      rw [o]
      intro v F1 H1 L1 g1 r1
      cases r1 with
      | tup h ha => exact ⟨_, rfl, ⟨_, SqT.of (g1.s _ _ h)⟩, fun _ => f _ F1 H1 L1 g1 (relI_tup h ha (L1 _ _ (.inr (SqT.of (g1.s _ _ h)))))⟩
theorem i_rg (C : Ck g N cl k cal X W sc) {r : Str} {p : Pos} (hr : r = "range") (hg : glB sc r = true) (hm : (match es with
    | [y] => isNil a && mE g N sc b y
    | [x, y] => mE g N sc a x && mE g N sc b y
    | _ => false) = true) (ha : ∀ {e : Expr}, mE g N sc a e = true → PE X e (tE X.K W cl cal a)) (hb : ∀ {e : Expr}, mE g N sc b e = true → PE X e (tE X.K W cl cal b)) :
    PI X tg (.Call (.Name r p) es [] pos) (tI X.K W cl cal (.rg a b)) := by
  obtain ⟨h1, h2, h3⟩ := C.gl hg
  have mg : X.mg r = none := C.fc.bl r (by rw [hr]; simp [blNames])
  subst hr
  have bd : ∀ {i j : Int}, rngOk i j = true → (-(2 ^ 62) ≤ i ∧ i < 2 ^ 62 ∧ -(2 ^ 62) ≤ j ∧ j < 2 ^ 62) := fun {i j} h => by
    obtain ⟨a, b, c, d, _⟩ := rng_ok h
    exact ⟨a, b, c, d⟩
  match es, hm with
  | [y], hm =>
    simp only [Bool.and_eq_true] at hm
    have e0 := isNil_eq hm.1
    subst e0
    refine PI.by (pi_range1 h1 mg (pa_cons (hb hm.2) pa_nil (star_ok hm.2 _ _)) (star_ok hm.2 _ _)) fun σ H R ⟨F0, H0, ρ, F, E, f⟩ => ?_
    simp only [evI, zOr, bnd_ok] at f
    refine te_bnd E f fun d v F1 H1 L1 g1 r1 E1 f1 => ?_
    cases r1 <;> first | exact False.elim f1 | skip
    rename_i n
    simp only [opRng] at f1
    split at f1
    · rename_i ok
      refine ⟨n, rfl, (bd ok).2.2.1, (bd ok).2.2.2, fun _ => ?_⟩
      have q := f1 _ F1 H1 L1 (.refl E1.s) (relI_rng ok)
      rw [Int.sub_zero] at q
      exact q
    · exact False.elim f1
  | [x, y], hm =>
    simp only [Bool.and_eq_true] at hm
    refine PI.by (pi_range2 h1 mg (pa_cons (ha hm.1) (pa_cons (hb hm.2) pa_nil (star_ok hm.2 _ _)) (star_ok hm.1 _ _)) (by rw [star_ok hm.1, star_ok hm.2] <;> rfl) (star_ok hm.2 _ _)) fun σ H R ⟨F0, H0, ρ, F, E, f⟩ => ?_
    simp only [evI] at f
    rw [notNil hm.1] at f
    refine te_bnd E f fun d v F1 H1 L1 g1 r1 E1 f1 => te_bnd E1 f1 fun d2 v2 F2 H2 L2 g2 r2 E2 f2 => ?_
    cases r1 <;> first | exact False.elim f2 | skip
    cases r2 <;> first | exact False.elim f2 | skip
    simp only [opRng] at f2
    split at f2
    · rename_i ok
      exact ⟨_, _, rfl, bd ok, fun _ => f2 _ F2 H2 L2 (.refl E2.s) (relI_rng ok)⟩
    · exact False.elim f2
  | [], hm => exact absurd hm Bool.false_ne_true
  | _ :: _ :: _ :: _, hm => exact absurd hm Bool.false_ne_true
theorem i_zp (C : Ck g N cl k cal X W sc) {r : Str} {p : Pos} {e2 : Expr} (hr : r = "zip") (hg : glB sc r = true) (ht : isTup tg = true) (hm : mE g N sc a e = true) (ha : PE X e (tE X.K W cl cal a)) (hm2 : mE g N sc b e2 = true) (hb : PE X e2 (tE X.K W cl cal b)) :
    PI X tg (.Call (.Name r p) [e, e2] [] pos) (tI X.K W cl cal (.zp a b)) := by
  obtain ⟨h1, h2, h3⟩ := C.gl hg
  have mg : X.mg r = none := C.fc.bl r (by rw [hr]; simp [blNames])
  subst hr
  cases tg <;> first | cases ht | skip
  refine PI.by (RZ.pi_zipA h1 mg (pa_cons ha (pa_cons hb pa_nil (star_ok hm2 _ _)) (star_ok hm _ _)) (star_ok hm _ _) (by rw [star_ok hm2] <;> rfl)) fun σ H R ⟨F0, H0, ρ, F, E, f⟩ => ?_
  simp only [evI] at f
  refine te_bnd E f fun d v F1 H1 L1 g1 r1 E1 f1 => te_bnd E1 f1 fun d2 v2 F2 H2 L2 g2 r2 E2 f2 => ?_
  cases r1 <;> cases r2 <;> first | exact False.elim f2 | skip
  · rename_i h ha1 _ _ _ h' hb1
    have hs := E2.s _ _ (g2.f _ _ h)
    have hs' := E2.s _ _ h'
    exact ⟨_, _, _, _, rfl, .inl ⟨SqL.of hs, SqL.of hs', fun _ => f2 _ F2 H2 L2 (.refl E2.s) (relI_zip (g2.f _ _ h) (ha1.same g2.f) h' hb1 (L2 _ _ (.inl (SqL.of hs))))⟩⟩
  · rename_i h ha1 _ _ _ h' hb1
    have hs := SqT.of (K := X.K) (E2.s _ _ (g2.f _ _ h))
    have hs' := SqT.of (K := X.K) (E2.s _ _ h')
    exact ⟨_, _, _, _, rfl, .inr ⟨hs, hs', fun _ => f2 _ F2 H2 L2 (.refl E2.s) (relI_zipT (g2.f _ _ h) (ha1.same g2.f) h' hb1 (L2 _ _ (.inr hs)))⟩⟩
end
end Mz

/-! enumerate(text) -/
namespace Mz
open PySem PySem.Spec PyProof.Rows L2
/-- the signs of x, each in a new pair with its place -/
def Ites (x : Str) : It :=
  ⟨fun i _ => i < x.cps.size, fun i H v H' => ∃ T c, v = .ref T ∧ H T = none ∧ H' = upd H T (.tup [.int (i : Nat), .str ⟨#[c]⟩]) ∧ x.cps[i]? = some c, fun i _ => x.cps.size ≤ i⟩
theorem turn_enumS {P : Program} {w : World} {K : PySem.W.Frag} {elts : List Expr} {kk : Nat} {tpos : Pos} (x : Str) (t : Tok) (e it : Addr) :
    Turn P w K (.Tuple elts kk tpos) (Ites x) [e, it] e (fun i h => (∃ old, IsEnum h e it ((i : Nat) : Int) old) ∧ (h.IsStrIter it (strIterType x) x t i ∧ i ≤ x.cps.size) ∧ e ≠ it) where
  mem := by simp
  obj := fun i h st b hb => by
    obtain ⟨⟨old, he⟩, ⟨⟨o, ho, hc, hd⟩, _⟩, _⟩ := st
    have e' : b = e ∨ b = it := by simpa using hb
    rcases e' with z | z
    · rw [z]; exact ⟨_, he, fun v q => nomatch q⟩
    · rw [z]; exact ⟨o, ho, fun v q => by rw [hd] at q; cases q⟩
  keep := fun i h h' st k => let ⟨⟨old, he⟩, ⟨⟨o, ho, r⟩, hl⟩, hne⟩ := st; ⟨⟨old, k e (by simp) _ he⟩, ⟨⟨o, k it (by simp) o ho, r⟩, hl⟩, hne⟩
  item := by
    intro X hP hw hK hc i pins s σ H E I hf st hg
    subst hP hw hK
    obtain ⟨⟨old, he⟩, ⟨hit, hle⟩, hne⟩ := st
    have hg : i < x.cps.size := hg
    have hel : e < s.heap.objs.size := Heap.lt_size he
    have hil : it < s.heap.objs.size := by obtain ⟨_, q, _⟩ := hit; exact Heap.lt_size q
    have D := Draws.text (prog := X.prog) (w := X.w) (A := X.A.in1) (I.ok.hd hc) it x t
    refine wpAny_pyNext_enum_itemD D he hit hg hne (by simpa using hne) fun v h' tk hP ho hit' hT hsz hk => ?_
    obtain ⟨c, u, hcx, rfl⟩ := hP
    refine ⟨_, rfl, wpAny_letOwnedTupleGo_enum (s := { s with heap := h', toks := tk + 1 }) ho fun h'' he' sb => ?_⟩
    have hT2 : h''.get? s.heap.objs.size = some { cls := .type "tuple", data := .seq #[.int i tk, .str ⟨#[c]⟩ u] } := (sb.2 _ (Nat.ne_of_gt hel)).trans hT
    have new : ObjOk X.prog X.w (upd H s.heap.objs.size (.tup [.int (i : Nat), .str ⟨#[c]⟩])) h'' s.heap.objs.size (.tup [.int (i : Nat), .str ⟨#[c]⟩]) :=
      ⟨by show 2 ≤ sizeLine; decide, [.int i tk, .str ⟨#[c]⟩ u], .cons ⟨_, rfl⟩ (.cons ⟨_, rfl⟩ .nil), ⟨_, hT2, rfl, _, rfl⟩⟩
    have I1 : Inv X pins σ (upd H s.heap.objs.size (.tup [.int (i : Nat), .str ⟨#[c]⟩])) { s with heap := h'', toks := tk + 1 } :=
      I.turnedNew (ch := [e, it]) (fun b ob hb q => (sb.2 b (fun z => hb (by simp [z]))).trans (hk b ob (fun z => hb (by simp [z])) (fun z => hb (by simp [z])) q)) hf (Nat.le_refl _) new
    refine ⟨.ref s.heap.objs.size, _, I1, rfl, ⟨_, c, rfl, I.hok.fresh (Nat.le_refl _), rfl, hcx⟩, ⟨⟨.str ⟨#[c]⟩ u, ?_⟩, ⟨?_, hg⟩, hne⟩, fun b hb => ?_⟩
    · have e1 : ((i + 1 : Nat) : Int) = (i : Int) + 1 := by omega
      rw [e1]; exact he'
    · obtain ⟨o, q1, q2⟩ := hit'
      exact ⟨o, (sb.2 it (Ne.symm hne)).trans q1, q2⟩
    · have hb' : b < s.heap.objs.size := by
        have e' : b = e ∨ b = it := by simpa using hb
        rcases e' with z | z
        · rw [z]; exact hel
        · rw [z]; exact hil
      rw [upd_ne (Nat.ne_of_lt hb')]
      exact (hf b hb).1
  done := by
    intro X hP hw hK hc i pins s σ H E I hf st hg
    subst hP hw hK
    obtain ⟨⟨old, he⟩, ⟨hit, hle⟩, hne⟩ := st
    have hg : x.cps.size ≤ i := hg
    obtain rfl : i = x.cps.size := Nat.le_antisymm hle hg
    obtain ⟨f0, f1, f2, f3, f4, f5⟩ := hf it (by simp)
    have D := Draws.text (prog := X.prog) (w := X.w) (A := X.A.in1) (I.ok.hd hc) it x t
    exact wpAny_pyNext_enum_endD D he hit fun h' eb => ⟨rfl, I.turned (t' := s.toks) (fun b o hb q => eb b o hb q) f0 f1 f3 f4 f5⟩
  self := fun A i s Q E st h => let ⟨⟨_, he⟩, _⟩ := st; wpAny_pyIter_enum he h
def iEnumS (ta : TA) : TI := fun σ H R => ta σ H fun vs H1 => ∃ x, vs = [.str x] ∧ R (Ites x) H1
theorem pi_enumS {X : Cx} {e : Expr} {ta : TA} {p pos tpos : Pos} {elts : List Expr} {kk : Nat} (hg : Gl X "enumerate") (hm : X.mg "enumerate" = none) (ha : PA X [e] ta) (hs : starEach [e] X.env = [(false, eval e X.env)]) :
    PI X (.Tuple elts kk tpos) (.Call (.Name "enumerate" p) [e] [] pos) (iEnumS ta) := by
  refine ⟨fun pins s σ H R I h => ?_⟩
  refine Call_ (ld_blt I hg hm boot_enumerate (PyProof.Rows.callWith_type1 (thn (ha.run pos pins s σ H _ I h) fun us s1 ⟨vs, H1, I1, r1, q1⟩ => ?_) hs rfl))
  obtain ⟨x, ex, q⟩ := q1
  subst ex
  cases r1 with
  | cons r rr =>
    cases rr
    obtain ⟨t, rfl⟩ := r
    refine call_enumerate_str fun h' he hit hsz hk => wpAny_pyIter_enum he ?_
    have I2 : Inv X pins σ H1 { s1 with heap := h' } := I1.kept (t' := s1.toks) hk
    refine ⟨s1.heap.objs.size + 1, [s1.heap.objs.size + 1, s1.heap.objs.size], _, _, H1, rfl, I2, turn_enumS x t (s1.heap.objs.size + 1) s1.heap.objs.size, ⟨⟨.none, he⟩, ⟨hit, Nat.zero_le _⟩, Nat.succ_ne_self _⟩, fun b hb => ?_, q⟩
    have e' : b = s1.heap.objs.size + 1 ∨ b = s1.heap.objs.size := by simpa using hb
    have hle : s1.heap.objs.size ≤ b := by
      rcases e' with z | z
      · rw [z]; exact Nat.le_add_right _ _
      · rw [z]; exact Nat.le_refl _
    exact I1.fpOk hle (I1.hok.fresh hle)
theorem charsD_len (z : Str) : (charsD z).length = z.cps.size := by
  unfold charsD
  rw [List.length_map, Array.length_toList]
theorem relI_enmS {K : PySem.W.Frag} {F : Hp} {z : Str} (L : z.length ≤ SZ) : relI K F (Ites z) (enmD 0 (charsD z)) := by
  refine ⟨by rw [enmD_length, charsD_len]; exact L, ?_⟩
  rw [enmD_length, charsD_len]
  refine ⟨fun _ _ hi _ => hi, fun _ _ => Nat.le_refl _, fun i H v H' hi s y F1 s1 s2 => ?_⟩
  obtain ⟨T, c, e1, n, e2, e3⟩ := y
  subst e1
  obtain ⟨F2, g2, r2⟩ := pair_dn s2 n e2 (.int (i : Nat)) (.str ⟨#[c]⟩)
  refine ⟨F2, _, g2, enmD_get 0 (charsD z) i (.str ⟨#[c]⟩) ?_, ?_⟩
  · unfold charsD
    rw [List.getElem?_map, Array.getElem?_toList, e3] <;> rfl
  · rw [Nat.zero_add]
    exact r2
section
variable {g : Pg} {N : List Str} {cl : Nat → Addr} {k : Nat} {cal : Nat → List D → Out D} {X : Cx} {W : WX} {sc : Scope} {a b c m as : M} {e l r tg : Expr} {es : List Expr} {pos : Pos}
theorem i_enm (C : Ck g N cl k cal X W sc) {r : Str} {p : Pos} (hr : r = "enumerate") (hg : glB sc r = true) (ht : isTup tg = true) (hm : mE g N sc a e = true) (ha : PE X e (tE X.K W cl cal a)) : PI X tg (.Call (.Name r p) [e] [] pos) (tI X.K W cl cal (.enm a)) := by
  obtain ⟨h1, h2, h3⟩ := C.gl hg
  have mg : X.mg r = none := C.fc.bl r (by rw [hr]; simp [blNames])
  subst hr
  cases tg <;> first | cases ht | skip
  refine ⟨fun pins s σ H R I ⟨F0, H0, ρ, F, E, f⟩ => ?_⟩
  simp only [evI] at f
  cases o : evE cal ρ a with
  | bad => rw [o] at f; exact False.elim f
  | exc z =>
    rw [o] at f
    exact (pi_enum h1 mg (pa_cons ha pa_nil (star_ok hm _ _)) (star_ok hm _ _)).run pins s σ H R I ⟨F0, H0, ρ, F, E, by rw [o]; exact f⟩
  | ok d =>
    rw [o] at f
    simp only [bnd_ok] at f
    cases d <;> first | exact False.elim f | skip
    · rename_i z
      have f : FinG X.K W cl (relI X.K) σ F H (if z.length ≤ SZ then Out.ok (enmD 0 (charsD z)) else .bad) R := f
      by_cases hl : z.length ≤ SZ
      · rw [if_pos hl] at f
        refine (PI.by (w' := fun σ' H' R' => σ' = σ ∧ H' = H ∧ R' = R) (pi_enumS h1 mg (pa_cons ha pa_nil (star_ok hm _ _)) (star_ok hm _ _)) fun σ' H' R' ⟨e1, e2, e3⟩ => ?_).run pins s σ H R I ⟨rfl, rfl, rfl⟩
        subst e1 e2 e3
        refine ⟨F0, H0, ρ, F, E, ?_⟩
        rw [o]
        intro v F1 H1 L1 g1 r1
        cases r1
        exact ⟨_, rfl, fun _ => f _ F1 H1 L1 g1 (relI_enmS hl)⟩
      · rw [if_neg hl] at f
        exact False.elim f
    · refine (PI.by (w' := fun σ' H' R' => σ' = σ ∧ H' = H ∧ R' = R) (pi_enum h1 mg (pa_cons ha pa_nil (star_ok hm _ _)) (star_ok hm _ _)) fun σ' H' R' ⟨e1, e2, e3⟩ => ?_).run pins s σ H R I ⟨rfl, rfl, rfl⟩
      subst e1 e2 e3
      refine ⟨F0, H0, ρ, F, E, ?_⟩
      rw [o]
      intro v F1 H1 L1 g1 r1
      cases r1 with
      | lst h ha2 =>
        have hs := g1.s _ _ h
        exact ⟨_, _, rfl, SqL.of hs, fun _ => f _ F1 H1 L1 g1 (relI_enm h ha2 (L1 _ _ (.inl (SqL.of hs))))⟩
end
end Mz

/-! Part 10: comprehensions; all expressions. -/
namespace Mz
open PySem PySem.Spec PyProof.Rows L2

/-! ### turns -/
theorem compL_app {f : D → Out (Option D)} : ∀ {xs ys : List D} {l : List D}, compL f (xs ++ ys) = .ok l → ∃ l1 l2, compL f xs = .ok l1 ∧ compL f ys = .ok l2 ∧ l = l1 ++ l2
  | [], ys, l, h => ⟨[], l, rfl, h, rfl⟩
  | x :: xs, ys, l, h => by
    rw [List.cons_append] at h
    simp only [compL] at h ⊢
    cases e : f x with
    | bad => rw [e] at h; cases h
    | exc c => rw [e] at h; cases h
    | ok o =>
      rw [e] at h
      cases o with
      | none =>
        simp only at h ⊢
        cases e2 : compL f (xs ++ ys) with
        | bad => rw [e2] at h; cases h
        | exc c => rw [e2] at h; cases h
        | ok l' =>
          rw [e2] at h
          obtain ⟨l1, l2, h1, h2, h3⟩ := compL_app e2
          cases h
          exact ⟨l1, l2, by rw [h1], h2, h3⟩
      | some y =>
        simp only at h ⊢
        cases e2 : compL f (xs ++ ys) with
        | bad => rw [e2] at h; cases h
        | exc c => rw [e2] at h; cases h
        | ok l' =>
          rw [e2] at h
          obtain ⟨l1, l2, h1, h2, h3⟩ := compL_app e2
          cases h
          exact ⟨y :: l1, l2, by rw [h1], h2, by rw [h3] <;> rfl⟩
theorem compL_one {f : D → Out (Option D)} {x : D} {l : List D} (h : compL f [x] = .ok l) : ∃ o, f x = .ok o ∧ l = o.toList := by
  simp only [compL] at h
  cases e : f x with
  | bad => rw [e] at h; cases h
  | exc c => rw [e] at h; cases h
  | ok o =>
    rw [e] at h
    cases o with
    | none => cases h; exact ⟨none, rfl, rfl⟩
    | some y => cases h; exact ⟨some y, rfl, rfl⟩
theorem compL_noexc {f : D → Out (Option D)} : ∀ {xs : List D} {c : Nat}, compL f xs ≠ .exc c
  | [], c, h => by cases h
  | x :: xs, c, h => by
    simp only [compL] at h
    split at h
    · split at h <;> cases h
    · split at h <;> cases h
    · cases h
theorem compL_take {f : D → Out (Option D)} {xs l : List D} (h : compL f xs = .ok l) {i : Nat} {x : D} (hx : xs[i]? = some x) {li : List D} (hi : compL f (xs.take i) = .ok li) : ∃ o, f x = .ok o ∧ compL f (xs.take (i + 1)) = .ok (li ++ o.toList) := by
  have e : xs.take (i + 1) ++ xs.drop (i + 1) = xs := List.take_append_drop _ _
  have t : xs.take (i + 1) = xs.take i ++ [x] := by rw [List.take_succ, hx] <;> rfl
  rw [← e] at h
  obtain ⟨l1, l2, h1, _, _⟩ := compL_app h
  have h1' := h1
  rw [t] at h1'
  obtain ⟨l3, l4, h3, h4, h5⟩ := compL_app h1'
  rw [hi] at h3
  cases h3
  obtain ⟨o, ho, hl⟩ := compL_one h4
  exact ⟨o, ho, by rw [h1, h5, hl]⟩

/-- the end of a piece that made a new list -/
def FinF (K : PySem.W.Frag) (W : WX) (cl : Nat → Addr) (σ : L2.St) (F H : Hp) (o : Out (List D)) (Q : VK) : Prop :=
  match o with
  | .bad => False
  | .ok ds => ∀ p vs F' H', Grow F H F' H' → H p = none → H' p = some (.lst vs) → F' p = none → DnAll K F' vs ds → Q (.ref p) H'
  | .exc c => ∀ F' H', Grow F H F' H' → W (.ref (cl c)) none σ H'
section
variable {K : PySem.W.Frag} {W : WX} {cl : Nat → Addr} {σ : L2.St} {F H F1 H1 : Hp} {Q : VK}
/-- a new list becomes data -/
theorem Grow.take {F' H' : Hp} {p : Addr} {vs : List V} (g' : Grow F H F' H') (n : H p = none) (e : H' p = some (.lst vs)) (nf : F' p = none) : Grow F H (upd F' p (.lst vs)) H' := by
  have z : Same F' (upd F' p (.lst vs)) := same_new nf
  refine ⟨g'.h, g'.f.trans z, fun b u q => ?_, fun b hb => ?_⟩
  · by_cases hp : b = p
    · subst hp
      rw [upd_same] at q
      cases q
      exact e
    · rw [upd_ne hp] at q
      exact g'.s b u q
  · by_cases hp : b = p
    · subst hp
      exact .inr n
    · rw [upd_ne hp] at hb
      exact g'.n b hb
theorem FinF.of {o : Out (List D)} (h : FinG K W cl (relE K) σ F H (o.bnd fun l => .ok (.list l)) Q) : FinF K W cl σ F H o fun v H' => LenOk K H' → Q v H' := by
  cases o with
  | bad => exact h
  | exc c => exact h
  | ok ds => exact fun p vs F' H' g' n e nf a L => h (.ref p) (upd F' p (.lst vs)) H' L (g'.take n e nf) (.lst upd_same (a.same (same_new nf)))
theorem FinF.grow (g : Grow F H F1 H1) {o : Out (List D)} (h : FinF K W cl σ F H o Q) : FinF K W cl σ F1 H1 o Q := by
  cases o with
  | bad => exact h
  | exc c => exact fun F' H' g' => h F' H' (g.trans g')
  | ok ds => exact fun p vs F' H' g' n => h p vs F' H' (g.trans g') (g.h.free n)
end

/-! ### a comprehension's tests -/
def tC (K : PySem.W.Frag) (W : WX) (cl : Nat → Addr) (cal : Nat → List D → Out D) (c : M) : TT := match c with
  | .nil => tYes
  | c => tT K W cl cal c
/-- a turn -/
def turnL (cal : Nat → List D → Out D) (ρ : En) (ow : List (Str × Nat)) (t : Tg) (c e : M) : D → Out (Option D) := fun x => match asgT t x (fgt ρ (ow.map (·.2))) with
  | some ρ' => match c with
    | .nil => (evE cal ρ' e).bnd fun y => .ok (some y)
    | _ => (asB (evE cal ρ' c)).bnd fun k => if k = true then (evE cal ρ' e).bnd fun y => .ok (some y) else .ok none
  | none => .bad
section
variable {K : PySem.W.Frag} {W : WX} {cl : Nat → Addr} {cal : Nat → List D → Out D}
theorem te_ok {σ : L2.St} {H F0 H0 F : Hp} {ρ : En} {m : M} {y : D} {Q : VK} (E : EnvOk K F0 H0 F H σ ρ) (h : evE cal ρ m = .ok y) (q : ∀ v F' H', LenOk K H' → Grow F H F' H' → Dn K F' v y → Q v H') : tE K W cl cal m σ H Q :=
  ⟨F0, H0, ρ, F, E, by
    rw [h]
    exact q⟩
theorem rd_lc {σ : L2.St} {H : Hp} {Q : VK} {F0 H0 F : Hp} {ρ : En} {ow : List (Str × Nat)} {t : Tg} {it c e : M} (hT : tgIn ow t = true) (E : EnvOk K F0 H0 F H σ ρ)
    (f : FinF K W cl σ F H ((evI cal ρ it).bnd fun xs => compL (turnL cal ρ ow t c e) xs) Q) :
    tLc (tI K W cl cal it) (gT K t) (tC K W0 cl cal c) (tE K W0 cl cal e) (ow.map (·.2)) σ H Q := by
  refine ⟨F0, H0, ρ, F, E, ?_⟩
  cases oi : evI cal ρ it with
  | bad => rw [oi] at f; exact f
  | exc z => rw [oi] at f; exact f
  | ok xs =>
    rw [oi, bnd_ok] at f
    intro J F1 H1 L1 g1 ⟨lx, wk⟩ Dd nD
    have f := f.grow g1
    have E1 := E.grow g1
    cases oc : compL (turnL cal ρ ow t c e) xs with
    | bad => rw [oc] at f; exact False.elim f
    | exc z => exact absurd oc compL_noexc
    | ok l =>
      rw [oc] at f
      have nF1 : F1 Dd = none := E1.s.free nD
      have nH0 : H0 Dd = none := E1.g.h.free nD
      have own : ∀ (i : Nat) (ds : List D), ρ[i]? = some (.own ds) → σ[i]? ≠ some (some (V.ref Dd)) := fun i ds hi z => by
        obtain ⟨a, vs, h1, h2, _⟩ := E1.own i ds hi
        rw [z] at h1
        cases h1
        rw [nD] at h2
        cases h2
      -- behind i turns
      let Pv : Nat → Hp → Prop := fun i H2 => ∃ F2 vs li, EnvOk K F0 H0 F2 H2 σ ρ ∧ Grow F1 H1 F2 H2 ∧ H2 Dd = some (.lst vs) ∧ F2 Dd = none ∧ compL (turnL cal ρ ow t c e) (xs.take i) = .ok li ∧ DnAll K F2 vs li ∧ li.length ≤ i
      refine lc_it wk (Qd := fun H' => Q (.ref Dd) H') Pv ?_ (fun i H2 _ ⟨F2, vs, li, E2, g2, _⟩ => g2.f.trans E2.s) ?_ ?_
      · exact ⟨F1, [], [], E1.side nH0 nF1 own, Grow.side E1.s nD, upd_same, nF1, rfl, .nil, Nat.zero_le _⟩
      · rintro i x H2 H3 hi ⟨F2, vs, li, E2, g2, hD, nF2, hli, al, ll⟩ hy
        obtain ⟨F3, d, g3, hd, rd⟩ := hy F2 g2.f E2.s
        obtain ⟨o, ho, hnext⟩ := compL_take oc hd hli
        have E3 := E2.grow g3
        have Ew := E3.wipe (ow.map (·.2))
        have hD3 := g3.h _ _ hD
        have nF3 := g3.keep nF2 hD
        have lx' : xs.length ≤ sizeLine := by rw [← sz_eq]; exact lx
        unfold turnL at ho
        cases oa : asgT t d (fgt ρ (ow.map (·.2))) with
        | none => rw [oa] at ho; cases ho
        | some ρ' =>
          rw [oa] at ho
          refine gT_rd oa rd Ew fun σ2 Eσ wσ => ⟨by rw [wσ ow hT, wipe_wipe], ?_⟩
          -- a kept turn's end
          have fin : ∀ {F4 H4 : Hp}, Grow F3 H3 F4 H4 → EnvOk K F0 H0 F4 H4 σ2 ρ' → ∀ y, (evE cal ρ' e = .ok y) → o = some y → tE K W0 cl cal e σ2 H4 fun yv H5 => ∃ acc, H5 Dd = some (.lst acc) ∧ acc.length < sizeLine ∧ Pv (i + 1) (upd H5 Dd (.lst (acc ++ [yv]))) := fun {F4 H4} g4 E4 y hy ho => by
            refine te_ok E4 hy fun yv F5 H5 L5 g5 r5 => ?_
            have g35 := g4.trans g5
            have hD5 := g35.h _ _ hD3
            have nF5 := g35.keep nF3 hD3
            have E5 := (E3.grow g35).side (p := Dd) (o := .lst (vs ++ [yv])) nH0 nF5 own
            have l1 := al.length
            refine ⟨vs, hD5, by omega, F5, vs ++ [yv], li ++ [y], E5, ?_, upd_same, nF5, ?_, (al.same (g3.f.trans g35.f)).append (.cons r5 .nil), by simp; omega⟩
            · have ga := g2.trans (g3.trans g35)
              refine ⟨fun b u q => ?_, ga.f, E5.s, ga.n⟩
              rw [upd_ne (ne_of_none q nD)]
              exact ga.h b u q
            · rw [hnext, ho]
              rfl
          have skip : ∀ {F4 H4 : Hp}, Grow F3 H3 F4 H4 → o = none → Pv (i + 1) H4 := fun {F4 H4} g4 ho => by
            refine ⟨F4, vs, li, E3.grow g4, g2.trans (g3.trans g4), g4.h _ _ hD3, g4.keep nF3 hD3, ?_, al.same (g3.f.trans g4.f), by omega⟩
            rw [hnext, ho]
            simp
          have hyes : ∀ (oy : Out D), (oy.bnd fun y => Out.ok (some y)) = .ok o → ∃ y, oy = .ok y ∧ o = some y := fun oy h => by
            cases oy <;> cases h
            exact ⟨_, rfl, rfl⟩
          by_cases hc : c = .nil
          · subst hc
            simp only at ho
            obtain ⟨y, h1, h2⟩ := hyes _ ho
            exact fin (.refl E3.s) Eσ y h1 h2
          · have ho' : ((asB (evE cal ρ' c)).bnd fun k => if k = true then (evE cal ρ' e).bnd fun y => .ok (some y) else .ok none) = .ok o := by
              cases c <;> first | exact ho | exact absurd rfl hc
            have tc : tC K W0 cl cal c = tT K W0 cl cal c := by cases c <;> first | rfl | exact absurd rfl hc
            rw [tc]
            refine ⟨F0, H0, ρ', F3, Eσ, ?_⟩
            cases ob : asB (evE cal ρ' c) with
            | bad => rw [ob] at ho'; cases ho'
            | exc z => rw [ob] at ho'; cases ho'
            | ok kk =>
              rw [ob, bnd_ok] at ho'
              intro b F4 H4 L4 g4 rb
              have rb' : b = kk := rb
              subst rb'
              cases b with
              | true =>
                obtain ⟨y, h1, h2⟩ := hyes _ ho'
                exact fin g4 (Eσ.grow g4) y h1 h2
              | false =>
                have e0 : (none : Option D) = o := Out.ok.inj ho'
                exact skip g4 e0.symm
      · rintro H2 ⟨F2, vs, li, E2, g2, hD, nF2, hli, al, ll⟩
        rw [List.take_length] at hli
        rw [oc] at hli
        cases hli
        exact f Dd vs F2 H2 g2 nD hD nF2 al
end
section
variable {g : Pg} {N : List Str} {cl : Nat → Addr} {k : Nat} {cal : Nat → List D → Out D} {X : Cx} {W : WX} {sc : Scope}
theorem evE_lc (ρ : En) (ow : List (Str × Nat)) (t : Tg) (it c e : M) : evE cal ρ (.lc ow t it c e) = ((evI cal ρ it).bnd fun xs => compL (turnL cal ρ ow t c e) xs).bnd fun l => .ok (.list l) := by
  rw [bnd_assoc]
  rfl
/-- what a comprehension's parts must be -/
structure LcOk (g : Pg) (N : List Str) (cl : Nat → Addr) (k : Nat) (cal : Nat → List D → Out D) (sc : Scope) (X : Cx) (W : WX) (ow : List (Str × Nat)) (t : Tg) (it c e : M) (elt tg iter : Expr) (ifs : List Expr) (scope : Scope) : Prop where
  blk : BlkOk X.N X.env.scope scope ow
  hi : PI X tg iter (tI X.K W cl cal it)
  hT : tgIn ow t = true
  hg : ∀ (s : Shared) (H : Hp) (C : Addr) (cs : List (Str × Addr)) (fp : List Addr), PG (X.blk s H scope (compEnvC scope cs C X.env) fp) tg (gT X.K t)
  ht : ∀ (s : Shared) (H : Hp) (C : Addr) (cs : List (Str × Addr)) (fp : List Addr), PTs (X.blk s H scope (compEnvC scope cs C X.env) fp) ifs (tC X.K W0 cl cal c)
  he : ∀ (s : Shared) (H : Hp) (C : Addr) (cs : List (Str × Addr)) (fp : List Addr), PE (X.blk s H scope (compEnvC scope cs C X.env) fp) elt (tE X.K W0 cl cal e)
  hs : ∀ x, foldedSetIterable iter X.env x = pure x
theorem LcOk.pe {ow : List (Str × Nat)} {t : Tg} {it c e : M} {elt tg iter : Expr} {ifs : List Expr} {scope : Scope} {pos : Pos} (C : Ck g N cl k cal X W sc) (l : LcOk g N cl k cal sc X W ow t it c e elt tg iter ifs scope) :
    PE X (.ListComp elt [⟨tg, iter, ifs, 0⟩] scope pos) (tE X.K W cl cal (.lc ow t it c e)) :=
  PE.by (pe_lc C.calm (by rw [C.eN]; exact C.nd) l.hi l.blk l.hg l.ht l.he l.hs) fun σ H Q ⟨F0, H0, ρ, F, E, f⟩ => by
    rw [evE_lc] at f
    exact rd_lc l.hT E (FinF.of f)

/-! ### all expressions -/
structure Snd (g : Pg) (N : List Str) (cl : Nat → Addr) (k : Nat) (cal : Nat → List D → Out D) (m : M) : Prop where
  xe : ∀ (X : Cx) (W : WX) (sc : Scope), Ck g N cl k cal X W sc → ∀ (e : Expr), mE g N sc m e = true → PE X e (tE X.K W cl cal m)
  xt : ∀ (X : Cx) (W : WX) (sc : Scope), Ck g N cl k cal X W sc → ∀ (e : Expr), mE g N sc m e = true → PT X e (tT X.K W cl cal m)
  xw : ∀ (X : Cx) (W : WX) (sc : Scope), Ck g N cl k cal X W sc → ∀ (op : BoolOp) (vs : List Expr) (p : Pos), mE g N sc m (.BoolOp op vs p) = true → PW X (.BoolOp op vs p) (tT X.K W cl cal m)
  xa : ∀ (X : Cx) (W : WX) (sc : Scope), Ck g N cl k cal X W sc → ∀ (es : List Expr), mA g N sc m es = true → PA X es (tA X.K W cl cal m)
  xo : ∀ (X : Cx) (W : WX) (sc : Scope), Ck g N cl k cal X W sc → ∀ (eo : Option Expr), mO g N sc m eo = true → PO X eo (tO X.K W cl cal m)
  xi : ∀ (X : Cx) (W : WX) (sc : Scope), Ck g N cl k cal X W sc → ∀ (tg : Expr) (e : Expr), mI g N sc tg m e = true → PI X tg e (tI X.K W cl cal m)
  xc : ∀ (X : Cx) (W : WX) (sc : Scope), Ck g N cl k cal X W sc → ∀ (ifs : List Expr), mC g N sc m ifs = true → PTs X ifs (tC X.K W cl cal m)
theorem Snd.e {m : M} (s : Snd g N cl k cal m) (C : Ck g N cl k cal X W sc) {e : Expr} (h : mE g N sc m e = true) : PE X e (tE X.K W cl cal m) := s.xe X W sc C e h
theorem Snd.t {m : M} (s : Snd g N cl k cal m) (C : Ck g N cl k cal X W sc) {e : Expr} (h : mE g N sc m e = true) : PT X e (tT X.K W cl cal m) := s.xt X W sc C e h
theorem Snd.w {m : M} (s : Snd g N cl k cal m) (C : Ck g N cl k cal X W sc) {op : BoolOp} {vs : List Expr} {p : Pos} (h : mE g N sc m (.BoolOp op vs p) = true) : PW X (.BoolOp op vs p) (tT X.K W cl cal m) := s.xw X W sc C op vs p h
theorem Snd.a {m : M} (s : Snd g N cl k cal m) (C : Ck g N cl k cal X W sc) {es : List Expr} (h : mA g N sc m es = true) : PA X es (tA X.K W cl cal m) := s.xa X W sc C es h
theorem Snd.o {m : M} (s : Snd g N cl k cal m) (C : Ck g N cl k cal X W sc) {eo : Option Expr} (h : mO g N sc m eo = true) : PO X eo (tO X.K W cl cal m) := s.xo X W sc C eo h
theorem Snd.i {m : M} (s : Snd g N cl k cal m) (C : Ck g N cl k cal X W sc) {tg : Expr} {e : Expr} (h : mI g N sc tg m e = true) : PI X tg e (tI X.K W cl cal m) := s.xi X W sc C tg e h
theorem Snd.c {m : M} (s : Snd g N cl k cal m) (C : Ck g N cl k cal X W sc) {ifs : List Expr} (h : mC g N sc m ifs = true) : PTs X ifs (tC X.K W cl cal m) := s.xc X W sc C ifs h
def tstB : Expr → Bool
  | .UnaryOp .Not _ _ => false
  | .BoolOp _ _ _ => false
  | .IfExp _ _ _ _ => false
  | .Compare _ _ _ _ => false
  | _ => true
theorem isTrue_gen {e : Expr} {env : Env} (h : tstB e = true) : ∀ whole, isTrue e env whole = (do let v ← whole; standAt e.pos; holding [v] (truthy v)) := by
  cases e <;> first | exact (fun _ => rfl) | cases h | skip
  rename_i op x p
  cases op <;> first | exact (fun _ => rfl) | cases h
end
end Mz

/-! Part 10b: sets made and read at once, reversals, ranges with a step, a def out of a list, two clauses. -/
namespace Mz
open PySem PySem.Spec PyProof.Rows L2

/-! ### each member once, in order -/
theorem mem_uins {α : Type} {lt : α → α → Bool} (con : ∀ a b, lt a b = false → lt b a = false → a = b) (x y : α) : ∀ l : List α, y ∈ uins lt x l ↔ y = x ∨ y ∈ l
  | [] => by simp [uins]
  | z :: r => by
    unfold uins
    by_cases h1 : lt x z = true
    · rw [if_pos h1, List.mem_cons]
    · rw [if_neg h1]
      by_cases h2 : lt z x = true
      · rw [if_pos h2, List.mem_cons, mem_uins con x y r, List.mem_cons]
        constructor
        · rintro (h | h | h) <;> simp [h]
        · rintro (h | h | h) <;> simp [h]
      · rw [if_neg h2]
        have e := con x z (by simpa using h1) (by simpa using h2)
        subst e
        simp
theorem mem_usort {α : Type} {lt : α → α → Bool} (con : ∀ a b, lt a b = false → lt b a = false → a = b) (y : α) : ∀ l : List α, y ∈ usort lt l ↔ y ∈ l
  | [] => by simp [usort]
  | x :: r => by
    unfold usort
    rw [mem_uins con, mem_usort con y r, List.mem_cons]
theorem pw_uins {α : Type} {lt : α → α → Bool} (con : ∀ a b, lt a b = false → lt b a = false → a = b) (tr : ∀ a b c, lt a b = true → lt b c = true → lt a c = true) (x : α) : ∀ l : List α, l.Pairwise (fun a b => lt a b = true) → (uins lt x l).Pairwise fun a b => lt a b = true
  | [], _ => by simp [uins]
  | z :: r, h => by
    have h' := List.pairwise_cons.mp h
    unfold uins
    by_cases h1 : lt x z = true
    · rw [if_pos h1]
      refine List.pairwise_cons.mpr ⟨fun w hw => ?_, h⟩
      rcases List.mem_cons.mp hw with e | e
      · rw [e]; exact h1
      · exact tr _ _ _ h1 (h'.1 w e)
    · rw [if_neg h1]
      by_cases h2 : lt z x = true
      · rw [if_pos h2]
        refine List.pairwise_cons.mpr ⟨fun w hw => ?_, pw_uins con tr x r h'.2⟩
        rcases (mem_uins con x w r).mp hw with e | e
        · rw [e]; exact h2
        · exact h'.1 w e
      · rw [if_neg h2]
        exact h
theorem pw_usort {α : Type} {lt : α → α → Bool} (con : ∀ a b, lt a b = false → lt b a = false → a = b) (tr : ∀ a b c, lt a b = true → lt b c = true → lt a c = true) : ∀ l : List α, (usort lt l).Pairwise fun a b => lt a b = true
  | [] => List.Pairwise.nil
  | x :: r => pw_uins con tr x _ (pw_usort con tr r)
theorem pw_uniq {α : Type} {lt : α → α → Bool} (irr : ∀ a, lt a a = false) (tr : ∀ a b c, lt a b = true → lt b c = true → lt a c = true) : ∀ {a b : List α}, a.Pairwise (fun x y => lt x y = true) → b.Pairwise (fun x y => lt x y = true) → (∀ x, x ∈ a ↔ x ∈ b) → a = b
  | [], [], _, _, _ => rfl
  | [], y :: b, _, _, h => by
    have := (h y).mpr List.mem_cons_self
    cases this
  | x :: a, [], _, _, h => by
    have := (h x).mp List.mem_cons_self
    cases this
  | x :: a, y :: b, ha, hb, h => by
    have ha' := List.pairwise_cons.mp ha
    have hb' := List.pairwise_cons.mp hb
    have asym : ∀ u v, lt u v = true → lt v u = true → False := fun u v h1 h2 => by
      have := tr u v u h1 h2
      rw [irr] at this
      cases this
    have h1 : x = y := by
      rcases List.mem_cons.mp ((h x).mp List.mem_cons_self) with e | e
      · exact e
      · rcases List.mem_cons.mp ((h y).mpr List.mem_cons_self) with f | f
        · exact f.symm
        · exact (asym _ _ (ha'.1 y f) (hb'.1 x e)).elim
    subst h1
    rw [pw_uniq irr tr ha'.2 hb'.2 fun z => ⟨fun hz => ?_, fun hz => ?_⟩]
    · rcases List.mem_cons.mp ((h z).mp (List.mem_cons_of_mem _ hz)) with e | e
      · rw [e] at hz
        have := ha'.1 x hz
        rw [irr] at this
        cases this
      · exact e
    · rcases List.mem_cons.mp ((h z).mpr (List.mem_cons_of_mem _ hz)) with e | e
      · rw [e] at hz
        have := hb'.1 x hz
        rw [irr] at this
        cases this
      · exact e
theorem ltI_con (a b : Int) (h : ltI a b = false) (g : ltI b a = false) : a = b := by
  unfold ltI at h g
  rw [decide_eq_false_iff_not] at h g
  omega
theorem ltI_tr (a b c : Int) (h : ltI a b = true) (g : ltI b c = true) : ltI a c = true := by
  unfold ltI at *
  rw [decide_eq_true_eq] at *
  omega
theorem ltI_irr (a : Int) : ltI a a = false := by simp [ltI]
theorem lexI_irr : ∀ t : List Int, lexI t t = false
  | [] => rfl
  | x :: r => by
    unfold lexI
    rw [if_pos rfl]
    exact lexI_irr r
theorem lexI_tr : ∀ a b c : List Int, lexI a b = true → lexI b c = true → lexI a c = true
  | _, [], _, h, _ => by cases ‹List Int› <;> simp [lexI] at h
  | _, _ :: _, [], _, g => by simp [lexI] at g
  | [], _ :: _, _ :: _, _, _ => rfl
  | x :: a, y :: b, z :: c, h, g => by
    unfold lexI at *
    by_cases e1 : x = y
    · rw [if_pos e1] at h
      by_cases e2 : y = z
      · rw [if_pos e2] at g
        rw [if_pos (e1.trans e2)]
        exact lexI_tr a b c h g
      · rw [if_neg e2] at g
        rw [if_neg (fun q => e2 (e1.symm.trans q)), e1]
        exact g
    · rw [if_neg e1, decide_eq_true_eq] at h
      by_cases e2 : y = z
      · rw [if_neg (fun q => e1 (q.trans e2.symm)), ← e2]
        exact decide_eq_true h
      · rw [if_neg e2, decide_eq_true_eq] at g
        rw [if_neg (by omega), decide_eq_true_eq]
        omega
theorem lexI_con : ∀ a b : List Int, lexI a b = false → lexI b a = false → a = b
  | [], [], _, _ => rfl
  | [], _ :: _, h, _ => by simp [lexI] at h
  | _ :: _, [], _, g => by simp [lexI] at g
  | x :: a, y :: b, h, g => by
    unfold lexI at h g
    by_cases e : x = y
    · rw [if_pos e] at h
      rw [if_pos e.symm] at g
      rw [e, lexI_con a b h g]
    · rw [if_neg e, decide_eq_false_iff_not] at h
      rw [if_neg (Ne.symm e), decide_eq_false_iff_not] at g
      omega
theorem up_nodup {l : List Int} (h : l.Pairwise fun a b => ltI a b = true) : l.Nodup := h.imp fun {a b} q e => by
  rw [e, ltI_irr] at q
  cases q
theorem up_uniq {ms ns : List Int} (pw : ms.Pairwise (· < ·)) (mem : ∀ k : Int, k ∈ ms ↔ (fun j => decide (j ∈ ns)) k = true) : ms = usort ltI ns :=
  pw_uniq ltI_irr ltI_tr (pw.imp fun h => decide_eq_true h) (pw_usort ltI_con ltI_tr ns) fun k => by
    rw [mem_usort ltI_con, mem]
    simp
/-- as many members as the set has -/
theorem count_usort {ns ms : List Int} (hd : ms.Nodup) (hm : ∀ k, k ∈ ms ↔ k ∈ ns) : ms.length = (usort ltI ns).length :=
  ((List.perm_ext_iff_of_nodup hd (up_nodup (pw_usort ltI_con ltI_tr ns))).mpr fun k => (hm k).trans (mem_usort ltI_con k ns).symm).length_eq
/-! ### set(xs), xs a list of ints -/
section
variable {P : Program} {w : World} {A : Around} {E : Value → Shared → Prop} {s : Shared}
abbrev bare (w : World) : Obj := { cls := .type "set", dict := none, data := .set #[] 0 (.fresh 0 0 (!w.params.followText "set-order")) }
theorem setInitList {l : Addr} {its : Array Value} (ns : List Int) (hh : A.handled = none) (hl : s.heap.IsList l its) (hi : IntsAre its.toList ns) (sz : its.size = ns.length) (hb : ns.length + 1 < scanBound)
    (new : (s.heap.push (bare w)).get? s.heap.objs.size = some (bare w)) :
    wpAny (model P w) A.in1.in1 (Builtin.«set.__init__» ⟨[.ref s.heap.objs.size, .ref l], []⟩) (fun fin s' => match fin with
      | .done f => wants (fun r2 s3 => r2 = .none ∧ ∃ h' tk c, s3 = { s with heap := h', toks := tk } ∧ SetR w h' s.heap.objs.size (fun j => decide (j ∈ ns)) c ∧ ∀ b o, s.heap.get? b = some o → h'.get? b = some o) E (.ok f) s'
      | .again c' => c'.quiet = true ∧ codeAny (model P w) A.in1 c' (wants (fun r2 s3 => r2 = .none ∧ ∃ h' tk c, s3 = { s with heap := h', toks := tk } ∧ SetR w h' s.heap.objs.size (fun j => decide (j ∈ ns)) c ∧ ∀ b o, s.heap.get? b = some o → h'.get? b = some o) E) s')
      (fun e s' => wants (fun r2 s3 => r2 = .none ∧ ∃ h' tk c, s3 = { s with heap := h', toks := tk } ∧ SetR w h' s.heap.objs.size (fun j => decide (j ∈ ns)) c ∧ ∀ b o, s.heap.get? b = some o → h'.get? b = some o) E (.error e) s') { s with heap := s.heap.push (bare w) } := by
  obtain ⟨⟨oc, odi, oda, osl⟩, ho, hc, nl, hd⟩ := hl
  simp only at hc hd
  subst hc hd
  have lt : l < s.heap.objs.size := Heap.lt_size ho
  have ho' : (s.heap.push (bare w)).get? l = some { cls := .type "list", dict := odi, data := .seq its nl, slots := osl } := Heap.get?_push_of_some _ ho
  have isl : (s.heap.push (bare w)).IsList l its := ⟨_, ho', rfl, nl, rfl⟩
  have u1 := F.sub_list_set
  have u2 := F.sub_list_frozenset
  have u3 : (Value.type "list" == Value.type "dict") = false := by decide
  unfold Builtin.«set.__init__» noKeywords Builtin.Frozenset.updateFrom
  generalize hIt : pyIter = It
  wp_walk
  subst hIt
  refine wpAny_pyIter_list isl (wpAny_bind (wpAny_runValue ?_))
  have z1 : (s.heap.push (bare w)).objs.size = s.heap.objs.size + 1 := Heap.size_push ..
  have ne : l ≠ (s.heap.push (bare w)).objs.size := by
    rw [z1]
    exact Nat.ne_of_lt (Nat.lt_succ_of_lt lt)
  have nS : s.heap.objs.size ∉ [(s.heap.push (bare w)).objs.size, l] := by
    rw [z1]
    simp only [List.mem_cons, List.not_mem_nil, or_false, not_or]
    exact ⟨Nat.ne_of_lt (Nat.lt_succ_self _), Nat.ne_of_gt lt⟩
  have vals : ∀ (i : Nat) (v : Value), its[i]? = some v → ∃ k t, ns[i]? = some k ∧ v = .int k t := fun i v hv => by
    have il : i < ns.length := by
      rw [← sz]
      exact (Array.getElem?_eq_some_iff.mp hv).1
    obtain ⟨t, e⟩ := PyProof.Rows.IntsAre.int_at hi i v (by rw [Array.getElem?_toList]; exact hv)
    exact ⟨ns[i], t, List.getElem?_eq_getElem il, by rw [e, List.getD_eq_getElem?_getD, List.getElem?_eq_getElem il] <;> rfl⟩
  have hh3 : A.in1.in1.in1.handled = none := by simpa using hh
  refine set_update_ints ((Walks.list hh3 _ l ne its).toS) s.heap.objs.size nS ns sz hb vals (its.size - 0) 0 _ (by omega) (Nat.zero_le _) ⟨⟨_, Heap.get?_push_size _ rfl, rfl, rfl⟩, isl.push _⟩ ⟨0, Nat.le_refl 0, setR_new_at (Heap.get?_push_of_some _ new)⟩ fun s' c mv _ R => ?_
  obtain ⟨h', g2, d', tk', os'⟩ := s'
  have e1 : g2 = s.gens := mv.gens
  have e2 : d' = s.drawn := mv.drawn
  have e3 : os' = s.os := mv.os
  subst e1 e2 e3
  refine wpAny_pure ?_
  show wpAny _ _ (ret Value.none) _ _ _
  refine wpAny_pure ⟨rfl, h', tk', c, rfl, R, fun b o e => ?_⟩
  have lb : b < s.heap.objs.size := Heap.lt_size e
  refine mv.heap b o ?_ (Heap.get?_push_of_some _ (Heap.get?_push_of_some _ e))
  simp only [List.mem_cons, List.not_mem_nil, or_false, not_or, z1]
  exact ⟨Nat.ne_of_lt lb, Nat.ne_of_lt (Nat.lt_succ_of_lt lb)⟩
theorem setOfList {l : Addr} {its : Array Value} (ns : List Int) {Q : Value → Shared → Prop} (hh : A.handled = none) (hl : s.heap.IsList l its) (hi : IntsAre its.toList ns) (hb : ns.length + 1 < scanBound)
    (q : ∀ (h' : Heap) (tk c : Nat), SetR w h' s.heap.objs.size (fun j => decide (j ∈ ns)) c → (∀ b o, s.heap.get? b = some o → h'.get? b = some o) → Q (.ref s.heap.objs.size) { s with heap := h', toks := tk }) :
    wpAny (model P w) A (call (.type "set") [.ref l]) Q E s := by
  have sz : its.size = ns.length := by
    have z := IntsAre.length hi
    rw [Array.length_toList] at z
    exact z
  obtain ⟨mc, mt, mm⟩ := F.called_set.mro
  have f1 := F.called_set.made; have f2 := F.called_set.sub; have f3 := F.called_set.notType; have f4 := F.called_set.canCreate
  have f5 := F.typeCall_set_1 (Value.ref l)
  refine wpAny_call (codeAny_of_tree (show wpAny _ _ (callAny (.type "set") _) _ _ _ from wpAny_pure ⟨Code.quiet_builtin _ (by decide +kernel), codeAny_builtin F.entry_type_call ?_⟩))
  rw [Around.under_plain (weight_type_call_type ("set" : String) [Value.ref l] []) (by rfl)]
  repeat (any_goals (first | wp_step | assumption))
  refine codeAny_mono (code_set_led1 (.ref l) (E := E) (Q₁ := fun o2 s2 => o2 = .ref s.heap.objs.size ∧ s2 = { s with heap := s.heap.push (bare w) }) ⟨rfl, rfl⟩) fun res s2 hres => ?_
  rcases res with er | fl
  · exact hres
  cases fl
  case ret obj =>
    obtain ⟨rfl, rfl⟩ := hres
    have new : (s.heap.push (bare w)).get? s.heap.objs.size = some (bare w) := Heap.get?_push_size _ rfl
    have ty : Shared.TypeIs { s with heap := s.heap.push (bare w) } (.ref s.heap.objs.size) "set" := ⟨_, new, rfl⟩
    have b1 := F.called_set.init.lookup; have b2 := F.called_set.init.bind (Value.ref s.heap.objs.size)
    repeat (any_goals (first | wp_step | assumption))
    refine codeAny_mono (codeAny_call_builtin (R := wants (fun r2 s3 => r2 = .none ∧ ∃ h' tk c, s3 = { s with heap := h', toks := tk } ∧ SetR w h' s.heap.objs.size (fun j => decide (j ∈ ns)) c ∧ ∀ b o, s.heap.get? b = some o → h'.get? b = some o) E)
      F.called_set.init.plain F.entry_set_init (check_set_init_1 ty ?_)) fun r3 s3 hr3 => ?_
    · exact setInitList ns hh hl hi sz hb new
    · rcases r3 with er | fl3
      · exact hr3
      cases fl3
      case ret r4 =>
        obtain ⟨rfl, h', tk, c, rfl, R, kp⟩ := hr3
        repeat (any_goals (first | wp_step | assumption))
        exact q _ _ _ R kp
      all_goals exact hr3.elim
  all_goals exact hres.elim
theorem setR_cnt {h : Heap} {a : Addr} {ns : List Int} {c : Nat} (R : SetR w h a (fun j => decide (j ∈ ns)) c) : c = (usort ltI ns).length := by
  obtain ⟨o, es, ep, t, _, _, _, _, nd, mem, _, _, e, _⟩ := R
  have z := count_usort (ns := ns) nd fun k => (mem k).symm.trans (by simp)
  rw [List.length_map, Array.length_toList] at z
  rw [← e, z]
end
section
variable {X : Cx}
/-- set(xs), xs ints -/
def rSetI (K : PySem.W.Frag) (w : World) : List V → Hp → VK → Prop := fun xs H Q => ∃ (l : Addr) (ns : List Int), xs = [V.ref l] ∧ (SqL K H l (ns.map V.int) ∨ SqT K H l (ns.map V.int)) ∧ ns.length < 64 ∧
  ∀ p, H p = none → Q (.ref p) (upd H p (SetO w p (fun j => decide (j ∈ ns)) (usort ltI ns).length))
theorem cr_setI (hc : X.calm = true) : CallR X (.type "set") (rSetI X.K X.w) := by
  intro pins s σ H xs us Q I r h
  obtain ⟨l, ns, rfl, hs, h64, q⟩ := h
  rw [Vals.ref1 r]
  have hb : ns.length + 1 < scanBound := by
    unfold scanBound
    omega
  have nw : H s.heap.objs.size = none := I.hok.fresh (Nat.le_refl _)
  rcases hs with hs | hs
  · obtain ⟨its, rv, pl, _⟩ := I.list hs
    refine setOfList ns (I.ok.hd hc) pl.isList (by simpa using rv.ints) hb fun h' tk c R k => ?_
    have e := setR_cnt R
    subst e
    exact ⟨.ref _, _, I.laid (t' := tk) k (Nat.le_refl _) (setO_new R), rfl, q _ nw⟩
  · obtain ⟨its, rv, pl, _⟩ := I.tuple hs
    obtain ⟨o, ho, hcl, nl, hd⟩ := pl
    refine call_set_tupI ns (I.ok.hd hc) ⟨o, ho, hcl, nl, hd⟩ (by simpa using rv.ints) hb fun h' tk c R _ k => ?_
    have e := setR_cnt R
    subst e
    exact ⟨.ref _, _, I.laid (t' := tk) k (Nat.le_refl _) (setO_new R), rfl, q _ nw⟩
/-- len(s), s a set of ints -/
def rLenS (w : World) : List V → Hp → VK → Prop := fun xs H Q => ∃ (a : Addr) (S : Int → Bool) (n : Nat), xs = [V.ref a] ∧ H a = some (SetO w a S n) ∧ n < 64 ∧ Q (.int n) H
theorem cr_lenS : CallR X (.builtin "len") (rLenS X.w) := by
  intro pins s σ H xs us Q I r h
  obtain ⟨a, S, n, rfl, ha, h64, q⟩ := h
  rw [Vals.ref1 r]
  obtain ⟨o, es, ep, t, ho, hex, hd, _, _, _, _, hf, hn, _⟩ := setO_get I ha
  refine call_len_set ho hex hd hf (by rw [hn]; omega) ⟨.int n, H, I.tok _, ⟨_, by rw [hn]⟩, q⟩
theorem crOr {f : Value} {r r' : List V → Hp → VK → Prop} (h : CallR X f r) (h' : CallR X f r') : CallR X f fun xs H Q => r xs H Q ∨ r' xs H Q :=
  fun pins s σ H xs us Q I rx q => q.elim (h pins s σ H xs us Q I rx) (h' pins s σ H xs us Q I rx)
end
/-! tuples by their code -/
theorem code_lex : ∀ a b : List Int, a.length = b.length → TS.Bd 64 a → TS.Bd 64 b → TS.code 64 a ≤ TS.code 64 b → a ≠ b → lexI a b = true
  | [], [], _, _, _, _, ne => absurd rfl ne
  | [], _ :: _, hl, _, _, _, _ => by cases hl
  | _ :: _, [], hl, _, _, _, _ => by cases hl
  | x :: a, y :: b, hl, ha, hb, hc, ne => by
    have hl' : a.length = b.length := Nat.succ.inj hl
    unfold lexI
    by_cases e : x = y
    · subst e
      rw [if_pos rfl]
      refine code_lex a b hl' ha.tail hb.tail ?_ fun z => ne (by rw [z])
      rcases Int.lt_or_le (TS.code 64 b) (TS.code 64 a) with q | q
      · have := (TS.code_same (B := 64) (d := x) hl'.symm).mpr q
        omega
      · exact q
    · rw [if_neg e, decide_eq_true_eq]
      rcases Int.lt_trichotomy x y with q | q | q
      · exact q
      · exact absurd q e
      · have := TS.code_lt (B := 64) hl'.symm hb.tail ha.tail q
        omega
theorem tupsOk_iff {ts : List (List Int)} (h : tupsOk ts = true) : ts.length < 64 ∧ ∃ d, ∀ t ∈ ts, 1 ≤ d ∧ t.length = d ∧ TS.Bd 64 t := by
  unfold tupsOk at h
  simp only [Bool.and_eq_true, decide_eq_true_eq, List.all_eq_true] at h
  refine ⟨h.1, (ts.headD []).length, fun t ht => ?_⟩
  obtain ⟨⟨h1, h2⟩, h3⟩ := h.2 t ht
  exact ⟨by omega, h2, fun m hm => h3 m hm⟩
theorem DnAll.pairs {K : PySem.W.Frag} {F : Hp} {vs : List V} {ds : List D} {ts : List (List Int)} (h : DnAll K F vs ds) (e : allTups ds = some ts) : ∃ ks : List (Addr × List Int), vs = ks.map (fun p => V.ref p.1) ∧ ts = ks.map (·.2) ∧ ∀ p ∈ ks, F p.1 = some (.tup (p.2.map V.int)) := by
  induction ds generalizing vs ts with
  | nil =>
    cases h
    simp only [allTups, Option.some.injEq] at e
    subst e
    exact ⟨[], rfl, rfl, fun p hp => by cases hp⟩
  | cons d ds ih =>
    cases h with
    | cons h1 h2 =>
      unfold allTups at e
      split at e
      · rename_i b l hl
        split at e <;> cases e
        rename_i ns hns
        obtain ⟨ks, e1, e2, e3⟩ := ih h2 hl
        cases h1 with
        | tup hs hd =>
          rename_i a xs
          obtain ⟨z1, _⟩ := hd.ints hns
          subst z1 e1 e2
          refine ⟨(a, ns) :: ks, rfl, rfl, fun p hp => ?_⟩
          rcases List.mem_cons.mp hp with q | q
          · rw [q]; exact hs
          · exact e3 p q
      · cases e
theorem dn_pairs {K : PySem.W.Frag} {F : Hp} : ∀ ks : List (Addr × List Int), (∀ p ∈ ks, F p.1 = some (.tup (p.2.map V.int))) → DnAll K F (ks.map fun p => V.ref p.1) ((ks.map (·.2)).map tupI)
  | [], _ => .nil
  | p :: r, h => .cons (.tup (h p List.mem_cons_self) (dnInts _)) (dn_pairs r fun q hq => h q (List.mem_cons_of_mem _ hq))
section
variable {g : Pg} {N : List Str} {cl : Nat → Addr} {k : Nat} {cal : Nat → List D → Out D} {X : Cx} {W : WX} {sc : Scope} {a b c m as : M} {e l r tg : Expr} {es : List Expr} {pos : Pos}
theorem noexc_sset {x : D} {c : Nat} : opSset x ≠ .exc c := by
  unfold opSset
  repeat' split
  all_goals (intro z; cases z)
theorem noexc_lset {x : D} {c : Nat} : opLset x ≠ .exc c := by
  unfold opLset
  repeat' split
  all_goals (intro z; cases z)
theorem s_sset (C : Ck g N cl k cal X W sc) {f x : Str} {p p2 p3 : Pos} (hf : f = "sorted") (gf : glB sc f = true) (hx : x = "set") (gx : glB sc x = true) (ms : X.mg "set" = none) (hm : mE g N sc a e = true) (ha : PE X e (tE X.K W cl cal a)) :
    PE X (.Call (.Name f p) [.Call (.Name x p2) [e] [] p3] [] pos) (tE X.K W cl cal (.sset a)) := by
  obtain ⟨h1, h2, h3⟩ := C.gl gf
  obtain ⟨h4, h5, h6⟩ := C.gl gx
  have mf : X.mg f = none := C.fc.bl f (by rw [hf]; simp [blNames])
  subst hf hx
  have hu := C.hu
  have st := star_ok hm
  refine PE.by (pe_callB (crOr (cr_sortedSet (X := X) C.calm) (cr_sortedT C.calm)) h1 mf (by decide +kernel) (pa_cons (pe_callTy (T := "set") (crOr (cr_setI (X := X) C.calm) (cr_setOfT C.calm (by omega))) h4 ms PyProof.Rows.boot_set (pa_cons ha pa_nil (st _ _)) h6 h5 (st _ _) rfl) pa_nil rfl) h3 h2 rfl rfl) fun σ H Q ⟨F0, H0, ρ, F, E, fq⟩ => ?_
  simp only [evE] at fq
  refine te_bnd E fq fun d v F1 H1 L1 g1 r1 E1 f1 => ?_
  unfold opSset at f1
  cases r1 <;> first | exact False.elim f1 | skip
  rename_i lp vs ds hp al
  have s1 := E1.s
  simp only at f1
  split at f1
  · rename_i ns hns
    split at f1
    · rename_i h64
      obtain ⟨e1, _⟩ := al.ints hns
      subst e1
      have h64' : (usort ltI ns).length < 64 := by
        have : ∀ l : List Int, (usort ltI l).length ≤ l.length := fun l => by
          induction l with
          | nil => exact Nat.le_refl _
          | cons x r ih =>
            have : ∀ l : List Int, (uins ltI x l).length ≤ l.length + 1 := fun l => by
              induction l with
              | nil => exact Nat.le_refl _
              | cons y t ih =>
                unfold uins
                split
                · exact Nat.le_refl _
                · split
                  · exact Nat.succ_le_succ ih
                  · exact Nat.le_succ _
            exact Nat.le_trans (this _) (Nat.succ_le_succ ih)
        exact Nat.lt_of_le_of_lt (this ns) h64
      refine .inl ⟨lp, ns, rfl, .inl (SqL.of (s1 _ _ hp)), h64, fun p np => ?_⟩
      refine .inl ⟨p, _, _, rfl, upd_same, h64', fun ms q pw mem hl nq L => ?_⟩
      have em : ms = usort ltI ns := up_uniq pw mem
      subst em
      have nF1 := s1.free np
      have g2 := Grow.side (o := SetO X.w p (fun j => decide (j ∈ ns)) (usort ltI ns).length) s1 np
      exact f1 _ (upd F1 q _) _ L (g2.trans (Grow.new g2.s nq)) (.lst upd_same (dnInts _))
    · exact False.elim f1
  · split at f1
    · rename_i ts hts
      split at f1
      · rename_i hok
        obtain ⟨h64, d0, hd0⟩ := tupsOk_iff hok
        obtain ⟨ks, e1, e2, hks⟩ := al.pairs hts
        subst e1 e2
        have hkl : ks.length < 64 := by simpa using h64
        refine .inr ⟨lp, ks, rfl, SqL.of (s1 _ _ hp), fun q hq => SqT.of (s1 _ _ (hks q hq)), hkl, fun p L np hL1 hL2 => ?_⟩
        have nF1 := s1.free np
        have g2 := Grow.side (o := SetTO X.prog X.w p L) s1 np
        have mk : ∀ q ∈ L, q.2 ∈ ks.map (·.2) := fun q hq => List.mem_map.mpr ⟨q, hL1 q hq, rfl⟩
        have d1 : L ≠ [] → 1 ≤ d0 := fun hne => by
          obtain ⟨q, hq⟩ := List.exists_mem_of_ne_nil _ hne
          exact (hd0 _ (mk q hq)).1
        by_cases hne : L = []
        · have kn : ks = [] := by
            cases ks with
            | nil => rfl
            | cons q _ =>
              have := hL2 q List.mem_cons_self
              rw [hne] at this
              cases this
          subst kn hne
          refine .inr ⟨p, [], 1, 64, rfl, upd_same, (fun q hq => by cases hq), Nat.le_refl _, (fun q hq => by cases hq), fun L' q pm _ _ _ nq LL => ?_⟩
          rw [List.Perm.eq_nil pm] at LL ⊢
          exact f1 _ (upd F1 q _) _ LL (g2.trans (Grow.new g2.s nq)) (.lst upd_same .nil)
        · refine .inr ⟨p, L, d0, 64, rfl, upd_same, fun q hq => SqT.of (g2.h _ _ (s1 _ _ (hks q (hL1 q hq)))), d1 hne, fun q hq => (hd0 _ (mk q hq)).2, fun L' q pm nd _ pw nq LL => ?_⟩
          have sub : ∀ z ∈ L', z ∈ L := fun z hz => pm.mem_iff.mp hz
          have el : L'.map (·.2) = usort lexI (ks.map (·.2)) := by
            refine pw_uniq lexI_irr lexI_tr ?_ (pw_usort lexI_con lexI_tr _) fun t => ?_
            · rw [List.pairwise_map]
              have nd' : L'.Pairwise fun q r => q.2 ≠ r.2 := List.pairwise_map.mp nd
              refine (pw.and nd').imp_of_mem fun {q r} hq hr z => ?_
              have b1 := hd0 _ (mk q (sub q hq))
              have b2 := hd0 _ (mk r (sub r hr))
              exact code_lex _ _ (b1.2.1.trans b2.2.1.symm) b1.2.2 b2.2.2 z.1 z.2
            · rw [mem_usort lexI_con]
              constructor
              · intro ht
                obtain ⟨q, hq, rfl⟩ := List.mem_map.mp ht
                exact mk q (sub q hq)
              · intro ht
                obtain ⟨q, hq, rfl⟩ := List.mem_map.mp ht
                obtain ⟨z, hz, e⟩ := List.mem_map.mp (hL2 q hq)
                exact List.mem_map.mpr ⟨z, pm.mem_iff.mpr hz, e⟩
          rw [← el] at f1
          refine f1 _ (upd F1 q _) _ LL (g2.trans (Grow.new g2.s nq)) (.lst upd_same (dn_pairs L' fun z hz => ?_))
          exact (same_new (g2.s.free nq)) _ _ (hks z (hL1 z (sub z hz)))
      · exact False.elim f1
    · exact False.elim f1
theorem s_lset (C : Ck g N cl k cal X W sc) {f x : Str} {p p2 p3 : Pos} (hf : f = "len") (gf : glB sc f = true) (hx : x = "set") (gx : glB sc x = true) (ms : X.mg "set" = none) (hm : mE g N sc a e = true) (ha : PE X e (tE X.K W cl cal a)) :
    PE X (.Call (.Name f p) [.Call (.Name x p2) [e] [] p3] [] pos) (tE X.K W cl cal (.lset a)) := by
  obtain ⟨h1, h2, h3⟩ := C.gl gf
  obtain ⟨h4, h5, h6⟩ := C.gl gx
  have mf : X.mg f = none := C.fc.bl f (by rw [hf]; simp [blNames])
  subst hf hx
  have st := star_ok hm
  refine PE.by (pe_callB (cr_lenS (X := X)) h1 mf (by decide +kernel) (pa_cons (pe_callTy (T := "set") (cr_setI (X := X) C.calm) h4 ms PyProof.Rows.boot_set (pa_cons ha pa_nil (st _ _)) h6 h5 (st _ _) rfl) pa_nil rfl) h3 h2 rfl rfl) fun σ H Q ⟨F0, H0, ρ, F, E, fq⟩ => ?_
  simp only [evE] at fq
  refine te_bnd E fq fun d v F1 H1 L1 g1 r1 E1 f1 => ?_
  have s1 := E1.s
  have le : ∀ l : List Int, (usort ltI l).length ≤ l.length := fun l => by
    induction l with
    | nil => exact Nat.le_refl _
    | cons x r ih =>
      have : ∀ l : List Int, (uins ltI x l).length ≤ l.length + 1 := fun l => by
        induction l with
        | nil => exact Nat.le_refl _
        | cons y t ih =>
          unfold uins
          split
          · exact Nat.le_refl _
          · split
            · exact Nat.succ_le_succ ih
            · exact Nat.le_succ _
      exact Nat.le_trans (this _) (Nat.succ_le_succ ih)
  have key : ∀ (lp : Addr) (ns : List Int), v = .ref lp → (SqL X.K H1 lp (ns.map V.int) ∨ SqT X.K H1 lp (ns.map V.int)) → ns.length < 64 → FinG X.K W cl (relE X.K) σ F1 H1 (.ok (.int (usort ltI ns).length)) Q →
      (rSetI X.K X.w [v] H1 fun w' H2 => rLenS X.w [w'] H2 fun v H' => LenOk X.K H' → Q v H') := fun lp ns e hs h64 f2 => by
    refine ⟨lp, ns, by rw [e], hs, h64, fun p np => ⟨p, _, _, rfl, upd_same, Nat.lt_of_le_of_lt (le ns) h64, fun L => ?_⟩⟩
    exact f2 _ F1 _ L (Grow.side s1 np) (.int _)
  unfold opLset at f1
  cases r1 <;> first | exact False.elim f1 | skip
  · rename_i lp vs ds hp al
    simp only at f1
    split at f1
    · rename_i ns hns
      split at f1
      · obtain ⟨e1, _⟩ := al.ints hns
        subst e1
        exact key lp ns rfl (.inl (SqL.of (s1 _ _ hp))) (by assumption) f1
      · exact False.elim f1
    · exact False.elim f1
  · rename_i lp vs ds hp al
    simp only at f1
    split at f1
    · rename_i ns hns
      split at f1
      · obtain ⟨e1, _⟩ := al.ints hns
        subst e1
        exact key lp ns rfl (.inr (SqT.of (s1 _ _ hp))) (by assumption) f1
      · exact False.elim f1
    · exact False.elim f1
end
end Mz

/-! Part 10c: reversals, ranges with a step, a def out of a list, two clauses, count. -/
namespace Mz
open PySem PySem.Spec PyProof.Rows L2

/-! ### t[::-1] -/
section
variable {prog : Program} {w : World} {A : Around} {E : Value → Shared → Prop} {s : Shared}
theorem part_one {c : Int} {tk : Tok} : Builtin.Slice.slicePlaces c (-1) (-1) = (c + 1).toNat := by
  unfold Builtin.Slice.slicePlaces
  rw [if_neg (by decide)]
  by_cases h : c > -1
  · rw [if_pos h]
    have e : (c - -1 - 1) / (- -1 : Int) + 1 = c + 1 := by
      rw [show (- -1 : Int) = 1 from rfl, Int.ediv_one]
      omega
    rw [e]
  · rw [if_neg h]
    omega
theorem back_pick (xs : Array Value) : ((List.range xs.size).filterMap fun (m : Nat) => xs[(((xs.size : Int) - 1) + (m : Int) * -1).toNat]?).toArray = xs.toList.reverse.toArray := by
  have cg : ∀ (l : List Nat) (f h : Nat → Option Value), (∀ m ∈ l, f m = h m) → l.filterMap f = l.filterMap h := fun l f h q => by
    induction l with
    | nil => rfl
    | cons x r ih =>
      rw [List.filterMap_cons, List.filterMap_cons, q x List.mem_cons_self, ih fun m hm => q m (List.mem_cons_of_mem _ hm)]
  have f : ∀ l : List Value, (List.range l.length).filterMap (fun m => l[m]?) = l := fun l => by
    induction l with
    | nil => rfl
    | cons x r ih =>
      rw [List.length_cons, List.range_succ_eq_map, List.filterMap_cons]
      simp only [List.getElem?_cons_zero, List.filterMap_map]
      congr 1
  have z := f xs.toList.reverse
  rw [List.length_reverse, Array.length_toList] at z
  congr 1
  refine Eq.trans (cg _ _ (fun m => xs.toList.reverse[m]?) fun m hm => ?_) z
  rw [List.mem_range] at hm
  rw [List.getElem?_reverse (by rw [Array.length_toList]; exact hm), Array.getElem?_toList, Array.length_toList]
  congr 1
  omega
theorem tup_back {t sl : Addr} {xs : Array Value} {vl vu vs : Value} {Q : Value → Shared → Prop} (ht : IsTup s.heap t xs) (hs : s.heap.IsSliceOf sl vl vu vs) (pl : IsPart vl none) (pu : IsPart vu none) (ps : IsPart vs (some (-1)))
    (hsz : xs.size ≤ sizeLine) (q : Q (.ref s.heap.objs.size) { s with heap := s.heap.push { cls := .type "tuple", data := .seq xs.toList.reverse.toArray } }) : wpAny (model prog w) A (getItem (.ref t) (.ref sl)) Q E s := by
  have fits : sizeOk (.seq xs.toList.reverse.toArray) := by
    show xs.toList.reverse.toArray.size ≤ sizeLine
    rw [List.size_toArray, List.length_reverse, Array.length_toList]
    exact hsz
  obtain ⟨ob, h1, h2, h3⟩ := id hs
  have isS : s.TypeIs (.ref sl) "slice" := ⟨ob, h1, h2⟩
  unfold getItem
  try with_reducible refine wpAny_holding ?_
  first | refine wpAny_bind (wpAny_pure ?_) | skip
  refine wpAny_bind (wpAny_sequenceKey ht.typeIs (by decide) (wpAny_bind (wpAny_callSpecial?_slot (name := Str.ofString "__getitem__") ht.typeIs PyProof.Rows.slot_tuple_getitem
    (wpAny_call_entry PyProof.Rows.slot_tuple_getitem ht.typeIs PyProof.Rows.entry_tuple_getitem ?_ (PyProof.Rows.args_tuple_getitem _ _)))))
  show wpAny _ _ (Builtin.Tuple.tupleItemsOf (.ref t) >>= _) _ _ s
  refine wpAny_bind (PyProof.Rows.tupleItemsOf_ ht (wpAny_bind (wpAny_typeOf isS ?_)))
  rw [if_pos (by decide)]
  have app : ∀ {R : Int × Int × Nat → Shared → Prop} {Ee : Value → Shared → Prop} {B : Around}, R ((xs.size : Int) - 1, -1, xs.size) s → wpAny (model prog w) B (Builtin.Slice.sliceApplied (.ref sl) (pure (xs.size : Int))) R Ee s := fun {R Ee B} r => by
    unfold Builtin.Slice.sliceApplied Builtin.Slice.sliceFields
    refine wpAny_bind (wpAny_bind (wpAny_field h1 h3 (x := vl) rfl (wpAny_bind (wpAny_field h1 h3 (x := vu) rfl (wpAny_bind (wpAny_field h1 h3 (x := vs) rfl (wpAny_pure ?_)))))))
    refine wpAny_bind (HT.slicePart_ ps ?_)
    show wpAny _ _ (if ((-1 : Int) == 0) = true then _ else _) _ _ s
    rw [if_neg (by decide)]
    refine wpAny_bind (HT.slicePart_ pl (wpAny_bind (HT.slicePart_ pu (wpAny_bind (wpAny_pure ?_)))))
    have e : Builtin.Slice.sliceAdjust none none (-1) (xs.size : Int) = ((xs.size : Int) - 1, -1) := rfl
    show wpAny _ _ (match Builtin.Slice.sliceAdjust none none (-1) (xs.size : Int) with | (a, b) => pure (a, (-1 : Int), Builtin.Slice.slicePlaces a b (-1))) _ _ s
    rw [e]
    show wpAny _ _ (pure ((xs.size : Int) - 1, (-1 : Int), Builtin.Slice.slicePlaces ((xs.size : Int) - 1) (-1) (-1))) _ _ s
    rw [part_one (tk := 0)]
    have e2 : ((xs.size : Int) - 1 + 1).toNat = xs.size := by omega
    rw [e2]
    exact wpAny_pure r
  refine wpAny_bind (app ?_)
  have no : ¬ (((xs.size : Int) - 1 == 0 && (-1 : Int) == 1 && xs.size == xs.size) = true) := by simp
  show wpAny _ _ (if ((xs.size : Int) - 1 == 0 && (-1 : Int) == 1 && xs.size == xs.size) = true then _ else _) _ _ s
  rw [if_neg no, back_pick]
  first
    | exact wpAny_bind (m := Builtin.Tuple.tupleExact _) (wpAny_newObj_type (wpAny_pure ⟨_, rfl, wpAny_pure q⟩) fits)
    | exact wpAny_bind (m := Builtin.Tuple.tupleExact _) (wpAny_newObj_type (wpAny_bind (wpAny_pure (wpAny_pure ⟨_, rfl, wpAny_pure q⟩))) fits)
    | exact wpAny_bind (wpAny_bind (m := Builtin.Tuple.tupleExact _) (wpAny_newObj_type (wpAny_pure (wpAny_pure ⟨_, rfl, wpAny_pure q⟩)) fits))
    | exact wpAny_bind (wpAny_bind (m := Builtin.Tuple.tupleExact _) (wpAny_newObj_type (wpAny_pure ⟨_, rfl, wpAny_pure q⟩) fits))
end
section
variable {X : Cx}
def tBack (K : PySem.W.Frag) (te : TE) : TE := fun σ H Q => te σ H fun x H1 => ∃ a xs, x = .ref a ∧ ((SqL K H1 a xs ∧ ∀ p, H1 p = none → Q (.ref p) (upd H1 p (.lst xs.reverse))) ∨ (SqT K H1 a xs ∧ ∀ p, H1 p = none → Q (.ref p) (upd H1 p (.tup xs.reverse))))
theorem pe_back {e : Expr} {te : TE} {j : Nat} {p1 p2 p3 pos : Pos} (he : PE X e te) : PE X (.Subscript e (.Slice none none (some (.UnaryOp .USub (.Constant (.int 1) j p1) p2)) p3) pos) (tBack X.K te) := by
  refine ⟨fun pins s σ H Q I h => Subscript_ (thn (he.run pins s σ H _ I h) fun v s1 ⟨x, H1, I1, r1, q1⟩ => ?_)⟩
  obtain ⟨a, xs, ex, q⟩ := q1
  subst ex
  cases r1
  have one : PO X (some (.UnaryOp .USub (.Constant (.int 1) j p1) p2)) (tPart (tUn (L2.rU fun i => V.int (-i)) (L2.tC (V.int 1)))) := po_some (pe_un un_neg pe_int)
  refine wpAny_Slice (thn (po_none.run pins s1 σ H1 (fun o H2 => o = none ∧ H2 = H1) I1 ⟨rfl, rfl⟩) fun vl s2 ⟨l, H2, I2, pl, z1, z2⟩ => ?_)
  subst z1 z2
  refine thn (po_none.run pins s2 σ H2 (fun o H3 => o = none ∧ H3 = H2) I2 ⟨rfl, rfl⟩) fun vu s3 ⟨u, H3, I3, pu, z1, z2⟩ => ?_
  subst z1 z2
  refine thn (one.run pins s3 σ H3 (fun o H4 => o = some (-1) ∧ H4 = H3) I3 ⟨1, rfl, -1, rfl, rfl, rfl⟩) fun vs s4 ⟨o, H4, I4, ps, z1, z2⟩ => ?_
  subst z1 z2
  have I5 : Inv X pins σ H4 { s4 with heap := s4.heap.push { cls := .type "slice", data := .fields #[vl, vu, vs] } } := I4.kept (t' := s4.toks) fun b ob z => Heap.get?_push_of_some _ z
  show wpAny (model X.prog X.w) X.A (subscriptTail e (.Slice none none (some (.UnaryOp .USub (.Constant (.int 1) j p1) p2)) p3) (.ref a) (.ref s4.heap.objs.size)) (EP X pins σ Q) X.xe { s4 with heap := s4.heap.push { cls := .type "slice", data := .fields #[vl, vu, vs] } }
  rcases q with ⟨hx, q⟩ | ⟨hx, q⟩
  · obtain ⟨its, r, ht, hz⟩ := I5.list hx
    have hl := r.length
    refine tail_any (ops := [.ref a, .ref s4.heap.objs.size]) ht.isList.typeIs (PySem.slot_list_getitem.lookup) ?_ (by with_unfolding_all rfl)
    refine wpAny_getItem_list_slice ht.isList (Heap.IsSliceOf.new _ vl vu vs) pl pu ps (by decide) ?_ (by rw [List.size_toArray]; omega)
    rw [PySem.W.krv_pick]
    exact ⟨.ref _, _, I5.laid (t' := s4.toks) (o := .lst xs.reverse) (fun b ob z => Heap.get?_push_of_some _ z) (Nat.le_refl _) ⟨by rw [List.length_reverse]; exact hz, _, 0, r.reverse, Heap.get?_push_size _ rfl⟩, rfl, q _ (I5.hok.fresh (Nat.le_refl _))⟩
  · obtain ⟨its, r, ht, hz⟩ := I5.tuple hx
    have hl := r.length
    refine tail_any (ops := [.ref a, .ref s4.heap.objs.size]) ht.typeIs (PyProof.Rows.slot_tuple_getitem.lookup) ?_ (by with_unfolding_all rfl)
    refine tup_back ht (Heap.IsSliceOf.new _ vl vu vs) pl pu ps (by rw [List.size_toArray]; omega) ?_
    exact ⟨.ref _, _, I5.laid (t' := s4.toks) (o := .tup xs.reverse) (fun b ob z => Heap.get?_push_of_some _ z) (Nat.le_refl _) ⟨by rw [List.length_reverse]; exact hz, _, r.reverse, IsTup.new _ _⟩, rfl, q _ (I5.hok.fresh (Nat.le_refl _))⟩
end
theorem DnAll.rev {K : PySem.W.Frag} {F : Hp} : ∀ {vs : List V} {ds : List D}, DnAll K F vs ds → DnAll K F vs.reverse ds.reverse
  | _, _, .nil => .nil
  | _, _, .cons h ha => by
    rw [List.reverse_cons, List.reverse_cons]
    exact ha.rev.append (.cons h .nil)
section
variable {g : Pg} {N : List Str} {cl : Nat → Addr} {k : Nat} {cal : Nat → List D → Out D} {X : Cx} {W : WX} {sc : Scope} {a b c m as : M} {e l r tg : Expr} {es : List Expr} {pos : Pos}
theorem s_rev {j : Nat} {p1 p2 p3 : Pos} (ha : PE X e (tE X.K W cl cal a)) : PE X (.Subscript e (.Slice none none (some (.UnaryOp .USub (.Constant (.int 1) j p1) p2)) p3) pos) (tE X.K W cl cal (.rev a)) :=
  PE.by (pe_back ha) fun σ H Q ⟨F0, H0, ρ, F, E, f⟩ => by
    simp only [evE] at f
    refine te_bnd E f fun d v F1 H1 L1 g1 r1 E1 f1 => ?_
    have s1 := E1.s
    cases r1 <;> first | exact False.elim f1 | skip
    · rename_i lp vs ds hp al
      refine ⟨lp, vs, rfl, .inl ⟨SqL.of (s1 _ _ hp), fun p np L => ?_⟩⟩
      exact f1 _ (upd F1 p _) _ L (Grow.new s1 np) (.lst upd_same (al.rev.same (same_new (s1.free np))))
    · rename_i lp vs ds hp al
      refine ⟨lp, vs, rfl, .inr ⟨SqT.of (s1 _ _ hp), fun p np L => ?_⟩⟩
      exact f1 _ (upd F1 p _) _ L (Grow.new s1 np) (.tup upd_same (al.rev.same (same_new (s1.free np))))

/-! ### ranges with a step -/
theorem rg3_size {i j z : Int} (h : rg3Ok i j z = true) : 0 < z ∧ z.natAbs < 1073741824 ∧ Builtin.Range.small i j z = true ∧ Builtin.Range.rangeSize i j z = (rg3N i j z : Int) ∧ rg3N i j z ≤ SZ := by
  unfold rg3Ok at h
  simp only [Bool.and_eq_true, decide_eq_true_eq] at h
  obtain ⟨⟨h1, h2, h3⟩, h4⟩ := h
  exact ⟨h1, by omega, h4, PyProof.Rows.rangeSize_toNat i j z, h3⟩
theorem rg3_rgc {i j z : Int} (h : rg3Ok i j z = true) : RgC i j z (rg3N i j z) := by
  obtain ⟨h1, h2, h3, h4, _⟩ := rg3_size h
  exact ⟨by omega, h2, h3, h4⟩
theorem rg3_get (i z : Int) (n : Nat) {k : Nat} (h : k < n) : ((List.range n).map fun (q : Nat) => PyData.int (i + (q : Int) * z))[k]? = some (.int (i + (k : Int) * z)) := by
  rw [List.getElem?_map, List.getElem?_range h] <;> rfl
theorem i_rg3 (C : Ck g N cl k cal X W sc) {rn : Str} {p : Pos} {x y z : Expr} (hr : rn = "range") (hg : glB sc rn = true) (mx : mE g N sc a x = true) (my : mE g N sc b y = true) (mz : mE g N sc c z = true)
    (ha : PE X x (tE X.K W cl cal a)) (hb : PE X y (tE X.K W cl cal b)) (hc : PE X z (tE X.K W cl cal c)) : PI X tg (.Call (.Name rn p) [x, y, z] [] pos) (tI X.K W cl cal (.rg3 a b c)) := by
  obtain ⟨h1, h2, h3⟩ := C.gl hg
  have mg : X.mg rn = none := C.fc.bl rn (by rw [hr]; simp [blNames])
  subst hr
  refine PI.by (pi_range3 h1 mg (pa_cons ha (pa_cons hb (pa_cons hc pa_nil (star_ok mz _ _)) (star_ok my _ _)) (star_ok mx _ _)) (star_ok mx _ _) (by rw [star_ok my, star_ok mz] <;> rfl)) fun σ H R ⟨F0, H0, ρ, F, E, f⟩ => ?_
  simp only [evI] at f
  refine te_bnd E f fun d1 v1 F1 H1 L1 g1 r1 E1 f1 => te_bnd E1 f1 fun d2 v2 F2 H2 L2 g2 r2 E2 f2 => te_bnd E2 f2 fun d3 v3 F3 H3 L3 g3 r3 E3 f3 => ?_
  cases r1 <;> first | exact False.elim f3 | skip
  cases r2 <;> first | exact False.elim f3 | skip
  cases r3 <;> first | exact False.elim f3 | skip
  rename_i i j z
  simp only [opRng3] at f3
  split at f3
  · rename_i ok
    refine ⟨i, j, z, rg3N i j z, rfl, rg3_rgc ok, fun L => f3 _ F3 H3 L (.refl E3.s) ?_⟩
    have ln : (rg3D i j z).length = rg3N i j z := by
      unfold rg3D
      rw [List.length_map, List.length_range]
    refine ⟨by rw [ln]; exact (rg3_size ok).2.2.2.2, ?_⟩
    rw [ln]
    refine walk_rangeC.mono (fun _ _ => trivial) fun q H v H' hq sq yq F4 s4 s5 => ?_
    obtain ⟨e1, e2⟩ := yq
    subst e1 e2
    exact ⟨F4, _, .refl s5, rg3_get _ _ _ hq, .int _⟩
  · exact False.elim f3
theorem prg3 {x y z : Expr} {ta tb tc : TE} {p : Pos} (hg : Gl X "range") (hm : X.mg "range" = none) (ha : PE X x ta) (hb : PE X y tb) (hc : PE X z tc) (nx : starEach [x, y, z] X.env = (false, eval x X.env) :: starEach [y, z] X.env) (ny : starEach [y, z] X.env = (false, eval y X.env) :: starEach [z] X.env)
    (nz : starEach [z] X.env = (false, eval z X.env) :: starEach [] X.env) (hp : (backTo pos (starEach [y, z] X.env)).any (·.1) = false) {pins : List (Addr × Obj)} {s : Shared} {σ : L2.St} {H : Hp} {Q : Int → Int → Int → Hp → Prop} (I : Inv X pins σ H s) (h : tCons ta (tCons tb (tCons tc tNil)) σ H (fun vs H1 => ∃ i j u, vs = [.int i, .int j, .int u] ∧ 0 < u ∧ u.natAbs < 1073741824 ∧ Q i j u H1)) :
    wpAny (model X.prog X.w) X.A (eval (.Call (.Name "range" p) [x, y, z] [] pos) X.env) (fun v s' => ∃ r i j u t1 t2 t3 H', v = .ref r ∧ IsRange s'.heap r i j u t1 t2 t3 ∧ Inv X pins σ H' s' ∧ Q i j u H') X.xe s := by
  have pa := pa_cons ha (pa_cons hb (pa_cons hc pa_nil nz) ny) nx
  refine Call_ (ld_blt I hg hm boot_range (PyProof.Rows.callWith_type1 (thn (pa.run pos pins s σ H _ I h) fun us s1 ⟨vs, H1, I1, r1, q1⟩ => ?_) nx hp))
  obtain ⟨i, j, u, e, c0, c1, q⟩ := q1
  subst e
  · cases r1 with
    | cons r rr =>
      cases rr with
      | cons r' rr =>
        cases rr with
        | cons r'' rr =>
          cases rr
          obtain ⟨t, rfl⟩ := r
          obtain ⟨t', rfl⟩ := r'
          obtain ⟨t'', rfl⟩ := r''
          exact call_range_3 (by omega) ⟨_, i, j, u, _, _, _, H1, rfl, IsRange.new _ _ _ _ _ _ _, I1.kept fun b u e => Heap.get?_push_of_some _ e, q⟩ (.inl (PyProof.noPylong_small c1))
def rg3V (i j u : Int) : List V := (List.range (rg3N i j u)).map fun (q : Nat) => V.int (i + (q : Int) * u)
theorem rg3_dn {K : PySem.W.Frag} {F : Hp} (i j u : Int) : DnAll K F (rg3V i j u) (rg3D i j u) := by
  unfold rg3V rg3D
  induction List.range (rg3N i j u) with
  | nil => exact .nil
  | cons x r ih => exact .cons (.int _) ih
theorem rg3_vals {i j u : Int} {n : Nat} {acc : Array Value} (h : ItemsOf (fun q v => ∃ t, v = .int (i + q * u) t) acc n) (hn : n = rg3N i j u) : Vals (rg3V i j u) acc.toList := by
  have e : acc.toList.length = rg3N i j u := by
    rw [Array.length_toList, ← hn]
    exact h.1
  unfold rg3V
  rw [← e]
  refine vals_of_get acc.toList _ fun q v hq => ?_
  obtain ⟨t, rfl⟩ := h.2 q v (by rw [← hq, Array.getElem?_toList])
  exact ⟨t, rfl⟩
theorem s_lr3 (C : Ck g N cl k cal X W sc) {f rn : Str} {p p2 p3 : Pos} {x y z : Expr} (hf : f = "list") (gf : glB sc f = true) (hr : rn = "range") (hg : glB sc rn = true) (mx : mE g N sc a x = true) (my : mE g N sc b y = true) (mz : mE g N sc c z = true)
    (ha : PE X x (tE X.K W cl cal a)) (hb : PE X y (tE X.K W cl cal b)) (hc : PE X z (tE X.K W cl cal c)) : PE X (.Call (.Name f p) [.Call (.Name rn p2) [x, y, z] [] p3] [] pos) (tE X.K W cl cal (.lr3 a b c)) := by
  obtain ⟨h1, h2, h3⟩ := C.gl hg
  obtain ⟨h4, h5, h6⟩ := C.gl gf
  have mg : X.mg rn = none := C.fc.bl rn (by rw [hr]; simp [blNames])
  have mg2 : X.mg f = none := C.fc.bl f (by rw [hf]; simp [blNames])
  subst hr hf
  refine ⟨fun pins s σ H Q I ⟨F0, H0, ρ, F, E, fq⟩ => ?_⟩
  refine Call_ (ld_blt I h4 mg2 boot_list (PyProof.Rows.callWith_type1 (args_cons (thn (prg3 (Q := fun i j u H1 => rg3Ok i j u = true ∧ ∀ q, H1 q = none → LenOk X.K (upd H1 q (.lst (rg3V i j u))) → Q (.ref q) (upd H1 q (.lst (rg3V i j u)))) h1 mg ha hb hc (star_ok mx _ _) (star_ok my _ _) (star_ok mz _ _) (by rw [star_ok my, star_ok mz] <;> rfl) I ?_) fun v s1 ⟨r, i, j, u, t1, t2, t3, H1, ev, hr, I1, ok, q⟩ => args_nil ?_) rfl) rfl))
  · simp only [evE] at fq
    refine te_bnd E fq fun d1 v1 F1 H1 L1 g1 r1 E1 f1 => te_bnd E1 f1 fun d2 v2 F2 H2 L2 g2 r2 E2 f2 => te_bnd E2 f2 fun d3 v3 F3 H3 L3 g3 r3 E3 f3 => ?_
    cases r1 <;> first | exact False.elim f3 | skip
    cases r2 <;> first | exact False.elim f3 | skip
    cases r3 <;> first | exact False.elim f3 | skip
    rename_i i j u
    simp only [opRng3] at f3
    split at f3
    · rename_i ok
      exact ⟨i, j, u, rfl, (rg3_size ok).1, (rg3_size ok).2.1, ok, fun q nq L => f3 _ (upd F3 q _) _ L (Grow.new E3.s nq) (.lst upd_same (rg3_dn i j u))⟩
    · exact False.elim f3
  · subst ev
    obtain ⟨_, _, sm, sz, le⟩ := rg3_size ok
    refine call_list_range (n := rg3N i j u) (I1.ok.hd C.calm) hr sm sz (by unfold SZ at le; omega) fun h' tk acc c' hk e' hi => ?_
    have I2 : Inv X pins σ (upd H1 s1.heap.objs.size (.lst (rg3V i j u))) { s1 with heap := h', toks := tk } := I1.laid hk (Nat.le_refl _) (show ObjOk X.prog X.w _ _ _ (.lst (rg3V i j u)) from ⟨by
      unfold rg3V
      rw [List.length_map, List.length_range, ← sz_eq]
      exact le, acc.toList, c', rg3_vals hi rfl, by rw [Array.toArray_toList]; exact e'⟩)
    exact ⟨.ref s1.heap.objs.size, _, I2, rfl, q _ (I1.hok.fresh (Nat.le_refl _)) (lenOk I2)⟩
end
end Mz

/-! Part 10d: a def out of a list, two clauses. -/
namespace Mz
open PySem PySem.Spec PyProof.Rows L2
section
variable {g : Pg} {N : List Str} {cl : Nat → Addr} {k : Nat} {cal : Nat → List D → Out D} {X : Cx} {W : WX} {sc : Scope} {a b c m as w : M} {e l r tg : Expr} {es : List Expr} {pos : Pos}
/-- what is known of the j-th def, at f -/
def FnAt (g : Pg) (cl : Nat → Addr) (k : Nat) (cal : Nat → List D → Out D) (X : Cx) (j : Nat) (f : Addr) : Prop := ∃ (fd : FuncData) (ps : List Str), PySem.W.keepIn X.K (.ref f) = true ∧ Binds X.K fd ps [] ∧ FnOk X.prog X.w X.K X.mg X.base (L2.CX X.prog X.w) k f fd ps (spD X.K cl ps.length (cal j)) ∧ ∀ ds, cal j ds ≠ .bad → ds.length = ps.length
theorem fnNs_ok (C : Ck g N cl k cal X W sc) : ∀ {fs : List Nat} {es : List Expr}, fnNs g sc fs es = true → ∃ fas : List Addr, PA X es (fun _ H Q => Q (fas.map V.ref) H) ∧ fas.length = fs.length ∧ (∀ (i j : Nat), fs[i]? = some j → ∃ f, fas[i]? = some f ∧ FnAt g cl k cal X j f)
  | [], [], _ => ⟨[], ⟨fun pos pins s σ H Q I q => (pa_nil (X := X)).run pos pins s σ H Q I q⟩, rfl, fun i j h => by simp at h⟩
  | j :: js, e :: es, h => by
    cases e <;> first | (cases h; done) | skip
    rename_i x p
    simp only [fnNs, Bool.and_eq_true, decide_eq_true_eq] at h
    obtain ⟨⟨hx, hg⟩, hr⟩ := h
    obtain ⟨fas, pa, ln, at_⟩ := fnNs_ok C hr
    obtain ⟨g1, g2, g3⟩ := C.gl hg
    obtain ⟨f, fd, ps, k1, k2, k3, k4, k5⟩ := C.fc.fn j x hx
    refine ⟨f :: fas, ⟨fun pos pins s σ H Q I q => (pa_cons (pe_glob (v := .ref f) g1 k1 rfl g2) pa rfl).run pos pins s σ H Q I q⟩, congrArg (· + 1) ln, fun i j' hi => ?_⟩
    cases i with
    | zero =>
      simp at hi
      subst hi
      exact ⟨f, rfl, fd, ps, k2, k3, k4, k5⟩
    | succ i =>
      obtain ⟨f', e1, e2⟩ := at_ i j' (by simpa using hi)
      exact ⟨f', by simpa using e1, e2⟩
  | [], _ :: _, h => by cases h
  | _ :: _, [], h => by cases h
theorem atI_map {α β : Type} {l : List α} {m : List β} {i : Int} {x : α} (hl : m.length = l.length) (h : atI l i = some x) : ∃ n : Nat, l[n]? = some x ∧ ∀ y, m[n]? = some y → atI m i = some y := by
  unfold atI at h ⊢
  rw [hl]
  cases e : ixN l.length i with
  | none =>
    rw [e] at h
    cases h
  | some n =>
    rw [e] at h
    exact ⟨n, h, fun y hy => hy⟩
theorem s_cix (C : Ck g N cl k cal X W sc) {fs : List Nat} {i a0 : Expr} {r0 : List Expr} {p1 p2 : Pos} (hf : fs.length < 100) (hn : fnNs g sc fs es = true) (mw : mE g N sc w i = true) (hw : PE X i (tE X.K W cl cal w)) (ma : mA g N sc as (a0 :: r0) = true) (hA : PA X (a0 :: r0) (tA X.K W cl cal as)) :
    PE X (.Call (.Subscript (.List es p1) i p2) (a0 :: r0) [] pos) (tE X.K W cl cal (.cix fs w as)) := by
  obtain ⟨fas, pa, ln, at_⟩ := fnNs_ok C hn
  have hfn := pe_ix (X := X) (pos := p2) ix_list (pe_lst (pos := p1) pa) hw (slice_ok mw)
  refine ⟨fun pins s σ H Q I ⟨F0, H0, ρ, F, E, f⟩ => ?_⟩
  have st : starEach (a0 :: r0) X.env = (false, eval a0 X.env) :: starEach r0 X.env ∧ (backTo pos (starEach r0 X.env)).any (·.1) = false := by
    cases as <;> simp only [mA, Bool.false_eq_true] at ma
    simp only [Bool.and_eq_true] at ma
    exact ⟨star_ok ma.1 _ _, stars_ok ma.2 _ _⟩
  refine Call_ (thn (hfn.run pins s σ H (fun v H1 => ∃ f j, v = .ref f ∧ FnAt g cl k cal X j f ∧ tA X.K W cl cal as σ H1 fun vs H2 => ∃ F2 ds, Same F2 H2 ∧ DnAll X.K F2 vs ds ∧ FinG X.K W cl (relE X.K) σ F2 H2 (cal j ds) Q) I ?_) fun u s1 ⟨v, H1, I1, r1, f, j, ev, ⟨fd, ps, k2, k3, k4, k5⟩, q⟩ => ?_)
  · refine ⟨?_, fun p np => ?_⟩
    · rw [List.length_map, ln, sizeLine_eq]
      omega
    · have gs := Grow.side (o := .lst (fas.map V.ref)) E.s np
      have Es := E.grow gs
      have fe : FinG X.K W cl (relE X.K) σ F (upd H p (.lst (fas.map V.ref))) ((evE cal ρ w).bnd fun x => match x with
          | .int i => match atI fs i with
            | some j => (evA cal ρ as).bnd fun xs => cal j xs
            | none => .bad
          | _ => .bad) Q := by
        simp only [evE] at f
        exact f.grow gs
      refine te_bnd Es fe fun d v F1 H1 L1 g1 r1 E1 f1 => ?_
      cases r1 <;> first | exact False.elim f1 | skip
      rename_i i
      simp only at f1
      cases hi : atI fs i with
      | none => rw [hi] at f1; exact False.elim f1
      | some j =>
        rw [hi] at f1
        obtain ⟨n, h1, h2⟩ := atI_map (m := fas) ln hi
        obtain ⟨f, h3, h4⟩ := at_ n j h1
        have h5 : atI (fas.map V.ref) i = some (.ref f) := by
          obtain ⟨n', h1', h2'⟩ := atI_map (m := fas.map V.ref) (by rw [List.length_map]; exact ln) hi
          obtain ⟨f', h3', _⟩ := at_ n' j h1'
          have q1 := h2' (.ref f') (by rw [List.getElem?_map, h3'] <;> rfl)
          have q2 := h2 f h3
          obtain ⟨n3, h6, h7⟩ := atI_map (m := fas.map V.ref) (l := fas) (by rw [List.length_map]) q2
          exact h7 _ (by rw [List.getElem?_map, h6] <;> rfl)
        refine ⟨p, fas.map V.ref, i, .ref f, rfl, rfl, SqL.of (g1.h _ _ upd_same), h5, f, j, rfl, h4, ?_⟩
        exact ta_bnd E1 f1 fun ds vs F2 H2 _ L2 g2 r2 E2 f2 => ⟨F2, ds, E2.s, r2, f2⟩
  · subst ev
    cases r1
    refine PySem.W.callWith_K (h₀ := X.base) I.ok.mod.kin k2 (thn (hA.run pos pins s1 σ _ _ I1 q) fun us s2 ⟨vs, H2, I2, r, F2, ds, sm, al, f2⟩ => ⟨I2.kIn, ?_⟩) st.1 st.2
    have hl : vs.length = ps.length := by
      rw [al.length]
      refine k5 ds fun z => ?_
      rw [z] at f2
      exact f2
    exact thn (run_fnS k4 C.room k3 (passAt C.tk σ) I2 r (Q := fun v H' => LenOk X.K H' → Q v H') (sp_of (cal j) hl sm al rfl f2)) fun _ _ ⟨v, H', I', r, q⟩ => ⟨v, H', I', r, q (lenOk I')⟩
end

/-! ### two clauses -/
def turn2 (cal : Nat → List D → Out D) (ρ : En) (ow : List (Str × Nat)) (t : Tg) (vs : List Nat) (t1 : Tg) (it1 e : M) : D → Out (List D) := fun x => match asgT t x (fgt ρ (ow.map (·.2))) with
      | some ρ1 => (evI cal ρ1 it1).bnd fun ys => compL (fun y => match asgT t1 y (fgt ρ1 vs) with
        | some ρ2 => (evE cal ρ2 e).bnd fun z => .ok (some z)
        | none => .bad) ys
      | none => .bad
def in1L (cal : Nat → List D → Out D) (ρ1 : En) (vs : List Nat) (t1 : Tg) (e : M) : D → Out (Option D) := fun y => match asgT t1 y (fgt ρ1 vs) with
        | some ρ2 => (evE cal ρ2 e).bnd fun z => .ok (some z)
        | none => .bad
def capL (o : Out (List D)) : Out (List D) := o.bnd fun l => if l.length ≤ SZ then .ok l else .bad
theorem evE_lc2 {cal : Nat → List D → Out D} (ρ : En) (ow : List (Str × Nat)) (t : Tg) (it : M) (vs : List Nat) (t1 : Tg) (it1 e : M) :
    evE cal ρ (.lc2 ow t it vs t1 it1 e) = (capL ((evI cal ρ it).bnd fun xs => flatL (turn2 cal ρ ow t vs t1 it1 e) xs)).bnd fun l => .ok (.list l) := by
  unfold capL
  rw [bnd_assoc, bnd_assoc]
  have e0 : evE cal ρ (.lc2 ow t it vs t1 it1 e) = (evI cal ρ it).bnd fun xs => (flatL (turn2 cal ρ ow t vs t1 it1 e) xs).bnd fun l => if l.length ≤ SZ then .ok (.list l) else .bad := rfl
  rw [e0]
  congr 1
  funext xs
  congr 1
  funext l
  split <;> rfl
theorem setE_own {x : List D} : ∀ {is : List Nat} {ds : List D} {ρ : En} {i : Nat}, (setE ρ is ds)[i]? = some (.own x) → ρ[i]? = some (.own x)
  | [], _, _, _, h => h
  | _ :: _, [], _, _, h => h
  | j :: is, d :: ds, ρ, i, h => by
    have h2 := setE_own (is := is) (ds := ds) h
    rw [List.getElem?_set] at h2
    split at h2
    · split at h2 <;> cases h2
    · exact h2
theorem asgT_own {t : Tg} {d : D} {ρ ρ' : En} {x : List D} {i : Nat} (h : asgT t d ρ = some ρ') (hi : ρ'[i]? = some (.own x)) : ρ[i]? = some (.own x) := by
  cases t with
  | n j =>
    have e : ρ.set j (.py d) = ρ' := Option.some.inj h
    subst e
    rw [List.getElem?_set] at hi
    split at hi
    · split at hi <;> cases hi
    · exact hi
  | t is =>
    simp only [asgT] at h
    split at h
    · split at h
      · cases h
        exact setE_own hi
      · cases h
    · split at h
      · cases h
        exact setE_own hi
      · cases h
    · cases h
theorem own_back {σ σ2 : L2.St} {ρ ρ1 : En} {vs : List Nat} {t : Tg} {d : D} {x : List D} {q : Nat} (h : asgT t d (fgt ρ vs) = some ρ1) (hq : ρ1[q]? = some (.own x)) (hl : σ.length = ρ.length) (hl2 : σ2.length = ρ1.length) (hw : wipe σ2 vs = wipe σ vs) : ρ[q]? = some (.own x) ∧ σ2[q]? = σ[q]? := by
  have h1 := asgT_own h hq
  rw [fgt_get] at h1
  split at h1
  · cases h1
  · rename_i hn
    refine ⟨h1, ?_⟩
    have hq2 : q < ρ.length := (List.getElem?_eq_some_iff.mp h1).1
    have hv : ¬ q ∈ vs := fun z => hn ⟨z, hq2⟩
    have e : (wipe σ2 vs)[q]? = (wipe σ vs)[q]? := by rw [hw]
    rw [wipe_get, wipe_get, if_neg (fun z => hv z.1), if_neg (fun z => hv z.1)] at e
    exact e
theorem flatL_app {f : D → Out (List D)} : ∀ {xs ys : List D} {l : List D}, flatL f (xs ++ ys) = .ok l → ∃ l1 l2, flatL f xs = .ok l1 ∧ flatL f ys = .ok l2 ∧ l = l1 ++ l2
  | [], ys, l, h => ⟨[], l, rfl, h, rfl⟩
  | x :: xs, ys, l, h => by
    rw [List.cons_append] at h
    simp only [flatL] at h ⊢
    cases e : f x with
    | bad => rw [e] at h; cases h
    | exc c => rw [e] at h; cases h
    | ok o =>
      rw [e] at h
      simp only at h ⊢
      cases e2 : flatL f (xs ++ ys) with
      | bad => rw [e2] at h; cases h
      | exc c => rw [e2] at h; cases h
      | ok l' =>
        rw [e2] at h
        obtain ⟨l1, l2, h1, h2, h3⟩ := flatL_app e2
        cases h
        exact ⟨o ++ l1, l2, by rw [h1], h2, by rw [h3, List.append_assoc]⟩
theorem flatL_noexc {f : D → Out (List D)} : ∀ {xs : List D} {c : Nat}, flatL f xs ≠ .exc c
  | [], c, h => by cases h
  | x :: xs, c, h => by
    simp only [flatL] at h
    split at h
    · split at h <;> cases h
    · cases h
theorem flatL_take {f : D → Out (List D)} {xs l : List D} (h : flatL f xs = .ok l) {i : Nat} {x : D} (hx : xs[i]? = some x) {li : List D} (hi : flatL f (xs.take i) = .ok li) : ∃ o rest, f x = .ok o ∧ flatL f (xs.take (i + 1)) = .ok (li ++ o) ∧ l = li ++ o ++ rest := by
  have e : xs.take (i + 1) ++ xs.drop (i + 1) = xs := List.take_append_drop _ _
  have t : xs.take (i + 1) = xs.take i ++ [x] := by rw [List.take_succ, hx] <;> rfl
  rw [← e] at h
  obtain ⟨l1, l2, h1, _, e1⟩ := flatL_app h
  have h1' := h1
  rw [t] at h1'
  obtain ⟨l3, l4, h3, h4, h5⟩ := flatL_app h1'
  rw [hi] at h3
  cases h3
  simp only [flatL] at h4
  cases e2 : f x with
  | bad => rw [e2] at h4; cases h4
  | exc c => rw [e2] at h4; cases h4
  | ok o =>
    rw [e2] at h4
    simp only [Out.ok.injEq, List.append_nil] at h4
    subst h4
    exact ⟨o, l2, rfl, by rw [h1, h5], by rw [e1, h5]⟩
theorem compL_pre {f : D → Out (Option D)} {xs l : List D} (h : compL f xs = .ok l) (i : Nat) {li : List D} (hi : compL f (xs.take i) = .ok li) : ∃ rest, l = li ++ rest := by
  rw [← List.take_append_drop i xs] at h
  obtain ⟨l1, l2, h1, _, e1⟩ := compL_app h
  rw [hi] at h1
  cases h1
  exact ⟨l2, e1⟩
/-- the inner walk -/
theorem in_it {J : It} {n : Nat} {G : Hp → Prop} {Y : Nat → Hp → V → Hp → Prop} (w : Walk J n G Y) {g : TG} {tt : TT} {te : TE} {vs : List Nat} {σ : L2.St} {H1 : Hp} {Dd : Addr} {Qd : Hp → Prop} (Pv : Nat → Hp → Prop) (h0 : Pv 0 H1) (hG : ∀ i H, i ≤ n → Pv i H → G H)
    (hs : ∀ i x H H', i < n → Pv i H → Y i H x H' → g x (wipe σ vs) H' fun σ2 H2 => wipe σ2 vs = wipe σ vs ∧ tt σ2 H2 fun b H3 =>
      if b = true then te σ2 H3 fun y H4 => ∃ acc, H4 Dd = some (.lst acc) ∧ acc.length < sizeLine ∧ Pv (i + 1) (upd H4 Dd (.lst (acc ++ [y]))) else Pv (i + 1) H3) (hd : ∀ H, Pv n H → Qd H) :
    ∃ W : Nat → Nat → Hp → Prop, (∃ m, W 0 m H1) ∧ ∀ i m H, W i m H →
      (J.stop i H ∧ Qd H) ∨ (J.go i H ∧ ∃ Nx : Hp → Prop, (∀ H', Nx H' → ∃ m', m' < m ∧ W (i + 1) m' H') ∧ ∀ x H', J.yld i H x H' → g x (wipe σ vs) H' fun σ2 H2 => wipe σ2 vs = wipe σ vs ∧ tt σ2 H2 fun b H3 =>
        if b = true then te σ2 H3 fun y H4 => ∃ acc, H4 Dd = some (.lst acc) ∧ acc.length < sizeLine ∧ Nx (upd H4 Dd (.lst (acc ++ [y]))) else Nx H3) := by
  refine ⟨fun i m H => m = n - i ∧ i ≤ n ∧ Pv i H, ⟨n, (by simp), Nat.zero_le _, h0⟩, fun i m H ⟨e, hi, p⟩ => ?_⟩
  subst e
  have q := hG i H hi p
  rcases Nat.lt_or_ge i n with lt | ge
  · exact .inr ⟨w.goes i H lt q, Pv (i + 1), fun H' p' => ⟨n - (i + 1), (by omega), rfl, lt, p'⟩, fun x H' y => hs i x H H' lt p (w.yields i H x H' lt q y)⟩
  · have e : i = n := by omega
    subst e
    exact .inl ⟨w.stops H q, hd H p⟩
section
variable {K : PySem.W.Frag} {W : WX} {cl : Nat → Addr} {cal : Nat → List D → Out D}
theorem tgSub_in {vs : List Nat} {t : Tg} (h : tgSub vs t = true) : tgIn (vs.map fun v => (("" : Str), v)) t = true := by
  have e : (vs.map fun v => (("" : Str), v)).map (·.2) = vs := by
    rw [List.map_map]
    exact List.map_id' vs
  cases t with
  | n i =>
    unfold tgIn
    rw [e]
    exact h
  | t is =>
    unfold tgIn
    rw [e]
    exact h
theorem rd_lc2 {σ : L2.St} {H : Hp} {Q : VK} {F0 H0 F : Hp} {ρ : En} {ow : List (Str × Nat)} {t t1 : Tg} {vs : List Nat} {it it1 e : M} (hT : tgIn ow t = true) (hT1 : tgSub vs t1 = true) (E : EnvOk K F0 H0 F H σ ρ)
    (f : FinF K W cl σ F H (capL ((evI cal ρ it).bnd fun xs => flatL (turn2 cal ρ ow t vs t1 it1 e) xs)) Q) :
    tLc2 (tI K W cl cal it) (gT K t) tYes (tI K W0 cl cal it1) (gT K t1) tYes (tE K W0 cl cal e) (ow.map (·.2)) vs σ H Q := by
  refine ⟨F0, H0, ρ, F, E, ?_⟩
  unfold capL at f
  cases oi : evI cal ρ it with
  | bad => rw [oi] at f; exact f
  | exc z => rw [oi] at f; exact f
  | ok xs =>
    rw [oi, bnd_ok] at f
    intro J F1 H1 L1 g1 ⟨lx, wk⟩ Dd nD
    have f := f.grow g1
    have E1 := E.grow g1
    cases oc : flatL (turn2 cal ρ ow t vs t1 it1 e) xs with
    | bad => rw [oc] at f; exact False.elim f
    | exc z => exact absurd oc flatL_noexc
    | ok l =>
      rw [oc, bnd_ok] at f
      by_cases hl : l.length ≤ SZ
      rotate_left
      · rw [if_neg hl] at f
        exact False.elim f
      rw [if_pos hl] at f
      have nF1 : F1 Dd = none := E1.s.free nD
      have nH0 : H0 Dd = none := E1.g.h.free nD
      have own : ∀ (i : Nat) (ds : List D), ρ[i]? = some (.own ds) → σ[i]? ≠ some (some (V.ref Dd)) := fun i ds hi z => by
        obtain ⟨a, vs, h1, h2, _⟩ := E1.own i ds hi
        rw [z] at h1
        cases h1
        rw [nD] at h2
        cases h2
      let Pv : Nat → Hp → Prop := fun i H2 => ∃ F2 vv li, EnvOk K F0 H0 F2 H2 σ ρ ∧ Grow F1 H1 F2 H2 ∧ H2 Dd = some (.lst vv) ∧ F2 Dd = none ∧ flatL (turn2 cal ρ ow t vs t1 it1 e) (xs.take i) = .ok li ∧ DnAll K F2 vv li
      let Nxt : Nat → Hp → Prop := fun i H' => Pv (i + 1) H'
      refine ⟨fun i m H => m = xs.length - i ∧ i ≤ xs.length ∧ Pv i H, ⟨xs.length, (by simp), Nat.zero_le _, F1, [], [], E1.side nH0 nF1 own, Grow.side E1.s nD, upd_same, nF1, rfl, .nil⟩, fun i m H2 ⟨em, hi, pv⟩ => ?_⟩
      subst em
      obtain ⟨F2, vv, li, E2, g2, hD, nF2, hli, al⟩ := id pv
      have sm2 : Same F1 H2 := g2.f.trans E2.s
      rcases Nat.lt_or_ge i xs.length with lt | ge
      · refine .inr ⟨wk.goes i H2 lt sm2, Nxt i, fun H' p' => ⟨xs.length - (i + 1), (by omega), rfl, lt, p'⟩, fun x H3 hy => ?_⟩
        have hy := wk.yields i H2 x H3 lt sm2 hy
        obtain ⟨F3, d, g3, hd, rd⟩ := hy F2 g2.f E2.s
        obtain ⟨o, rest, ho, hnext, el⟩ := flatL_take oc hd hli
        have E3 := E2.grow g3
        have Ew := E3.wipe (ow.map (·.2))
        have hD3 := g3.h _ _ hD
        have nF3 := g3.keep nF2 hD
        unfold turn2 at ho
        cases oa : asgT t d (fgt ρ (ow.map (·.2))) with
        | none => rw [oa] at ho; cases ho
        | some ρ1 =>
          rw [oa] at ho
          simp only at ho
          refine gT_rd oa rd Ew fun σ2 Eσ wσ => ⟨by rw [wσ ow hT, wipe_wipe], ?_⟩
          -- the inner walk
          refine ⟨F0, H0, ρ1, F3, Eσ, ?_⟩
          cases oi1 : evI cal ρ1 it1 with
          | bad => rw [oi1] at ho; cases ho
          | exc z => rw [oi1] at ho; cases ho
          | ok ys =>
            rw [oi1, bnd_ok] at ho
            have ho : compL (in1L cal ρ1 vs t1 e) ys = .ok o := ho
            intro J1 F4 H4 L4 g4 ⟨ly, wk1⟩
            have E4 := E3.grow g4
            have Eσ4 := Eσ.grow g4
            have hD4 := g4.h _ _ hD3
            have nF4 := g4.keep nF3 hD3
            have base := g3.trans g4
            let Pi : Nat → Hp → Prop := fun j H5 => ∃ F5 vv lj, EnvOk K F0 H0 F5 H5 σ ρ ∧ EnvOk K F0 H0 F5 H5 σ2 ρ1 ∧ Grow F1 H1 F5 H5 ∧ Same F4 F5 ∧ H5 Dd = some (.lst vv) ∧ F5 Dd = none ∧ compL (in1L cal ρ1 vs t1 e) (ys.take j) = .ok lj ∧ DnAll K F5 vv (li ++ lj)
            have own2 : ∀ (q : Nat) (ds : List D), ρ1[q]? = some (.own ds) → σ2[q]? ≠ some (some (V.ref Dd)) := fun q ds hq z => by
              obtain ⟨r1, r2⟩ := own_back (σ := σ) oa hq E1.len Eσ.len (by rw [wσ ow hT, wipe_wipe])
              exact own q ds r1 (r2 ▸ z)
            refine in_it wk1 (Qd := Nxt i) Pi ?_ (fun j H5 _ ⟨F5, _, _, E5, _, _, s5, _⟩ => s5.trans E5.s) ?_ ?_
            · refine ⟨F4, vv, [], E4, Eσ4, g2.trans base, Same.refl _, hD4, nF4, rfl, ?_⟩
              rw [List.append_nil]
              exact al.same base.f
            · rintro j y H5 H6 hj ⟨F5, vv5, lj, E5, Eσ5, g5, s5, hD5, nF5, hlj, al5⟩ hy1
              obtain ⟨F6, d1, g6, hd1, rd1⟩ := hy1 F5 s5 E5.s
              obtain ⟨o1, ho1, hn1⟩ := compL_take ho hd1 hlj
              have E6 := E5.grow g6
              have Eσ6 := Eσ5.grow g6
              have Ew6 := Eσ6.wipe vs
              have hD6 := g6.h _ _ hD5
              have nF6 := g6.keep nF5 hD5
              unfold in1L at ho1
              cases oa1 : asgT t1 d1 (fgt ρ1 vs) with
              | none => rw [oa1] at ho1; cases ho1
              | some ρ2 =>
                rw [oa1] at ho1
                simp only at ho1
                refine gT_rd oa1 rd1 Ew6 fun σ3 Eσ3 wσ3 => ⟨?_, ?_⟩
                · have q := wσ3 _ (tgSub_in hT1)
                  have e1 : (vs.map fun v => (("" : Str), v)).map (·.2) = vs := by
                    rw [List.map_map]
                    exact List.map_id' vs
                  rw [e1] at q
                  rw [q, wipe_wipe]
                · cases oy : evE cal ρ2 e with
                  | bad => rw [oy] at ho1; cases ho1
                  | exc z => rw [oy] at ho1; cases ho1
                  | ok yv =>
                    rw [oy, bnd_ok] at ho1
                    cases ho1
                    refine te_ok Eσ3 oy fun yV F7 H7 L7 g7 r7 => ?_
                    have hD7 := g7.h _ _ hD6
                    have nF7 := g7.keep nF6 hD6
                    have E7 := (E6.grow g7).side (p := Dd) (o := .lst (vv5 ++ [yV])) nH0 nF7 own
                    have Eσ7 := (Eσ6.grow g7).side (p := Dd) (o := .lst (vv5 ++ [yV])) nH0 nF7 own2
                    have g57 := g6.trans g7
                    have lenOk' : (vv5 : List V).length < sizeLine := by
                      have l5 := al5.length
                      obtain ⟨rr, e1⟩ := compL_pre ho (j + 1) hn1
                      have : (li ++ lj).length + 1 ≤ l.length := by
                        rw [el, e1]
                        simp only [List.length_append, Option.toList_some, List.length_singleton]
                        omega
                      rw [← sz_eq]
                      omega
                    refine ⟨vv5, hD7, lenOk', F7, vv5 ++ [yV], lj ++ [yv], E7, Eσ7, ?_, (s5.trans g6.f).trans g7.f, upd_same, nF7, ?_, ?_⟩
                    · have ga := g5.trans g57
                      refine ⟨fun b u q => ?_, ga.f, E7.s, ga.n⟩
                      rw [upd_ne (ne_of_none q nD)]
                      exact ga.h b u q
                    · rw [hn1]
                      rfl
                    · rw [← List.append_assoc]
                      exact (al5.same g57.f).append (.cons r7 .nil)
            · rintro H5 ⟨F5, vv5, lj, E5, _, g5, _, hD5, nF5, hlj, al5⟩
              rw [List.take_length] at hlj
              rw [ho] at hlj
              cases hlj
              exact ⟨F5, vv5, li ++ o, E5, g5, hD5, nF5, hnext, al5⟩
      · have ei : i = xs.length := by omega
        subst ei
        rw [List.take_length, oc] at hli
        cases hli
        exact .inl ⟨wk.stops H2 sm2, f Dd vv F2 H2 g2 nD hD nF2 al⟩
end
/-! ### xs.count(y) -/
def isB (k : Bool) (v : Value) : Bool := match v with
  | .bool b => b == k
  | _ => false
theorem vals_bools : ∀ {bs : List Bool} {us : List Value}, Vals (bs.map V.bl) us → us = bs.map Value.bool
  | [], _, .nil => rfl
  | b :: bs, _, .cons r t => by
    have e := vals_bools t
    rw [e]
    have : _ = Value.bool b := r
    rw [this] <;> rfl
theorem isB_count (k : Bool) : ∀ bs : List Bool, (bs.map Value.bool).countP (isB k) = bs.count k
  | [] => rfl
  | b :: bs => by
    rw [List.map_cons, List.countP_cons, List.count_cons, isB_count k bs] <;> rfl
section
variable {X : Cx}
def rCntA (K : PySem.W.Frag) : V → List V → Hp → VK → Prop := fun x xs H Q => ∃ (p : Addr) (bs : List Bool) (k : Bool), x = .ref p ∧ xs = [.bl k] ∧ SqL K H p (bs.map V.bl) ∧ Q (.int (bs.count k : Nat)) H
theorem mt_cntB : MtR X "list.count" (rCntA X.K) := by
  intro pins s σ H x xs v us Q I rx rxs h
  obtain ⟨p, bs, k, rfl, rfl, hs, q⟩ := h
  cases rx
  obtain ⟨u, rfl, ru⟩ := rxs.one
  cases ru
  obtain ⟨its, rv, ⟨⟨oc, od, oda, osl⟩, n, ho, hc, hdn, hd⟩, _⟩ := I.list hs
  simp only at hc hd
  subst hc hd
  have e := vals_bools rv
  subst e
  refine call_meets PySem.F.slot_list_count ⟨_, ho, rfl⟩ PySem.F.entry_list_count (PySem.F.args_list_count_2 _ _) (SeqAt.list_countAt p (bs.map Value.bool).toArray n od osl (.bool k) (isB k)) ⟨ho, fun y hy => ?_, ?_⟩
  · obtain ⟨b, _, rfl⟩ := List.mem_map.mp (show y ∈ bs.map Value.bool by simpa using hy)
    exact SeqAt.EqAt.bool_bool b k
  · refine ⟨.int (bs.count k : Nat), H, I.tok _, ⟨s.toks, ?_⟩, q⟩
    show Value.int (((bs.map Value.bool).toArray.toList.countP (isB k) : Nat) : Int) s.toks = Value.int ((bs.count k : Nat) : Int) s.toks
    rw [show (bs.map Value.bool).toArray.toList = bs.map Value.bool from rfl, isB_count]
end
section
variable {g : Pg} {N : List Str} {cl : Nat → Addr} {k : Nat} {cal : Nat → List D → Out D} {X : Cx} {W : WX} {sc : Scope} {a b c m as w : M} {e l r tg : Expr} {es : List Expr} {pos : Pos}
theorem s_cnt (C : Ck g N cl k cal X W sc) {x : Expr} {mm : Str} {ap cp : Pos} (hmm : mm = "count") (hl : (ap.endLine == cp.line) = true) (hn : notCall e = true) (ha : PE X e (tE X.K W cl cal a)) (hb : PE X x (tE X.K W cl cal b)) (hmx : mE g N sc b x = true) :
    PE X (.Call (.Attribute e mm ap) [x] [] cp) (tE X.K W cl cal (.cnt a b)) := by
  subst hmm
  have hbase : attributeBase e ("count" : Str) X.env (eval e X.env) = eval e X.env := by
    cases e <;> first | rfl | cases hn
  have hfew : ((backTo cp (starEach [x] X.env)).all (fun x => !x.1) && (backToKw cp (keywordEach [] X.env)).all (fun x => x.1.isSome)
      && decide ([x].length + ([] : List Keyword).length + (if ([] : List Keyword).isEmpty then 0 else 1) < 30)) = true := by
    rw [star_ok hmx]
    rfl
  have mt : MtR X "list.count" fun x xs H Q => rCntA X.K x xs H Q ∨ rCntI X.K x xs H Q := fun pins s σ H x xs v us Q I rx rxs q => q.elim (mt_cntB pins s σ H x xs v us Q I rx rxs) (mt_lcount pins s σ H x xs v us Q I rx rxs)
  refine PE.by (pe_bm PySem.F.plainAttrs_list PySem.F.slot_list_count PySem.F.type_list_count mt ha (pa_cons hb pa_nil (star_ok hmx _ _)) hbase hfew hl (star_ok hmx _ _) rfl) fun σ H Q ⟨F0, H0, ρ, F, E, f⟩ => ?_
  simp only [evE] at f
  refine te_bnd E f fun d v F1 H1 L1 g1 r1 E1 f1 => ?_
  cases r1 <;> first | exact False.elim f1 | skip
  rename_i p vs ds hp al
  refine ⟨.inl ⟨rfl, _, SqL.of (E1.s _ _ hp)⟩, te_bnd E1 f1 fun d2 v2 F2 H2 L2 g2 r2 E2 f2 => ?_⟩
  have al2 := al.same g2.f
  have hp2 := SqL.of (K := X.K) (E2.s _ _ (g2.f _ _ hp))
  unfold opCnt at f2
  cases r2 <;> first | exact False.elim f2 | skip
  · rename_i bb
    simp only at f2
    split at f2
    · rename_i bs hbs
      obtain ⟨e1, _⟩ := al2.bools hbs
      subst e1
      exact .inl ⟨p, bs, bb, rfl, rfl, hp2, fun _ => f2 _ F2 H2 L2 (.refl E2.s) (.int _)⟩
    · exact False.elim f2
  · rename_i i
    simp only at f2
    split at f2
    · rename_i bs hbs
      obtain ⟨e1, _⟩ := al2.ints hbs
      subst e1
      exact .inr ⟨p, bs, i, rfl, rfl, hp2, fun _ => f2 _ F2 H2 L2 (.refl E2.s) (.int _)⟩
    · exact False.elim f2
theorem s_joi (C : Ck g N cl k cal X W sc) {x : Expr} {mm : Str} {ap cp : Pos} (hmm : mm = "join") (hl : (ap.endLine == cp.line) = true) (hn : notCall e = true) (ha : PE X e (tE X.K W cl cal a)) (hb : PE X x (tE X.K W cl cal b)) (hmx : mE g N sc b x = true) :
    PE X (.Call (.Attribute e mm ap) [x] [] cp) (tE X.K W cl cal (.joi a b)) := by
  subst hmm
  have hbase : attributeBase e ("join" : Str) X.env (eval e X.env) = eval e X.env := by
    cases e <;> first | rfl | cases hn
  refine PE.by (pe_join ha hb (star_ok hmx _ _) hbase hl) fun σ H Q ⟨F0, H0, ρ, F, E, f⟩ => ?_
  simp only [evE] at f
  refine te_bnd E f fun d v F1 H1 L1 g1 r1 E1 f1 => ?_
  cases r1 <;> first | exact False.elim f1 | skip
  rename_i s0
  refine ⟨⟨_, rfl⟩, te_bnd E1 f1 fun d2 v2 F2 H2 L2 g2 r2 E2 f2 => ?_⟩
  unfold opJoin at f2
  cases r2 <;> first | exact False.elim f2 | skip
  rename_i p vs ds hp al
  simp only at f2
  split at f2
  · rename_i ys hys
    obtain ⟨e1, _⟩ := al.strs hys
    subst e1
    split at f2
    · rename_i hz
      exact ⟨s0, p, ys, rfl, rfl, .inl (SqL.of (E2.s _ _ hp)), hz, fun _ => f2 _ F2 H2 L2 (.refl E2.s) (.str _)⟩
    · exact False.elim f2
  · exact False.elim f2
end
end Mz

/-! Part 11: all expressions, by their form. -/
namespace Mz
open PySem PySem.Spec PyProof.Rows L2
section
variable {g : Pg} {N : List Str} {cl : Nat → Addr} {k : Nat} {cal : Nat → List D → Out D} {X : Cx} {W : WX} {sc : Scope} {e : Expr}
abbrev ET (cl : Nat → Addr) (cal : Nat → List D → Out D) (X : Cx) (W : WX) (m : M) (e : Expr) : Prop := PE X e (tE X.K W cl cal m) ∧ PT X e (tT X.K W cl cal m)
theorem ET.val {m : M} (h : PE X e (tE X.K W cl cal m)) (s : tstB e = true) : ET cl cal X W m e := ⟨h, t_val h (isTrue_gen s)⟩
theorem n_nm {i : Nat} (C : Ck g N cl k cal X W sc) (h : mE g N sc (.nm i) e = true) : ET cl cal X W (.nm i) e := by
  have h0 := h
  unfold mE at h
  split at h <;> first | (cases h; done) | skip
  all_goals (rename_i hq; cases hq)
  exact .val (s_nm C h0) rfl
theorem n_ci {i : Int} (C : Ck g N cl k cal X W sc) (h : mE g N sc (.ci i) e = true) : ET cl cal X W (.ci i) e := by
  unfold mE at h
  split at h <;> first | (cases h; done) | skip
  all_goals (rename_i hq; cases hq)
  have e1 := of_decide_eq_true h
  subst e1
  exact .val (s_const (v := .int i) pe_int (fun _ => .int i) fun _ => rfl) rfl
theorem n_cb {i : Bool} (C : Ck g N cl k cal X W sc) (h : mE g N sc (.cb i) e = true) : ET cl cal X W (.cb i) e := by
  unfold mE at h
  split at h <;> first | (cases h; done) | skip
  all_goals (rename_i hq; cases hq)
  have e1 := of_decide_eq_true h
  subst e1
  exact .val (s_const (v := .bl i) pe_bl (fun _ => .bl i) fun _ => rfl) rfl
theorem n_cs {i : Str} (C : Ck g N cl k cal X W sc) (h : mE g N sc (.cs i) e = true) : ET cl cal X W (.cs i) e := by
  unfold mE at h
  split at h <;> first | (cases h; done) | skip
  all_goals (rename_i hq; cases hq)
  have e1 := of_decide_eq_true h
  subst e1
  exact .val (s_const (v := .str i) pe_str (fun _ => .str i) fun _ => rfl) rfl
theorem n_cn (C : Ck g N cl k cal X W sc) (h : mE g N sc (.cn) e = true) : ET cl cal X W (.cn) e := by
  unfold mE at h
  split at h <;> first | (cases h; done) | skip
  all_goals (rename_i hq; cases hq)
  exact .val (s_const (v := .non) pe_non (fun _ => .non) fun _ => rfl) rfl
theorem n_gi {x : Str} {v : Int} (C : Ck g N cl k cal X W sc) (h : mE g N sc (.gi x v) e = true) : ET cl cal X W (.gi x v) e := by
  have h0 := h
  unfold mE at h
  split at h <;> first | (cases h; done) | skip
  all_goals (rename_i hq; cases hq)
  exact .val (s_gi C h0) rfl
theorem n_bin {op : Operator} {a b : M} (ia : Snd g N cl k cal a) (ib : Snd g N cl k cal b) (C : Ck g N cl k cal X W sc) (h : mE g N sc (.bin op a b) e = true) : ET cl cal X W (.bin op a b) e := by
  unfold mE at h
  split at h <;> first | (cases h; done) | skip
  all_goals (rename_i hq; cases hq)
  simp only [Bool.and_eq_true, decide_eq_true_eq] at h
  obtain ⟨⟨h1, h2⟩, h3⟩ := h
  subst h1
  exact .val (s_bin C (ia.e C h2) (ib.e C h3)) rfl
theorem n_neg {a : M} (ia : Snd g N cl k cal a) (C : Ck g N cl k cal X W sc) (h : mE g N sc (.neg a) e = true) : ET cl cal X W (.neg a) e := by
  unfold mE at h
  split at h <;> first | (cases h; done) | skip
  all_goals (rename_i hq; cases hq)
  exact .val (s_neg C (ia.e C h)) rfl
theorem n_cmp {op : CmpOp} {a b : M} (ia : Snd g N cl k cal a) (ib : Snd g N cl k cal b) (C : Ck g N cl k cal X W sc) (h : mE g N sc (.cmp op a b) e = true) : ET cl cal X W (.cmp op a b) e := by
  unfold mE at h
  split at h <;> first | (cases h; done) | skip
  all_goals (rename_i hq; cases hq)
  simp only [Bool.and_eq_true, decide_eq_true_eq] at h
  obtain ⟨⟨h1, h2⟩, h3⟩ := h
  subst h1
  exact ⟨s_cmp C (ia.e C h2) (ib.e C h3) (set_ok h3 _), t_cmp C (ia.e C h2) (ib.e C h3) (set_ok h3 _)⟩
theorem n_chn {o1 o2 : CmpOp} {a b c : M} (ia : Snd g N cl k cal a) (ib : Snd g N cl k cal b) (ic : Snd g N cl k cal c) (C : Ck g N cl k cal X W sc) (h : mE g N sc (.chn o1 o2 a b c) e = true) : ET cl cal X W (.chn o1 o2 a b c) e := by
  unfold mE at h
  split at h <;> first | (cases h; done) | skip
  all_goals (rename_i hq; cases hq)
  simp only [Bool.and_eq_true, decide_eq_true_eq] at h
  obtain ⟨⟨⟨⟨h1, h2⟩, h3⟩, h4⟩, h5⟩ := h
  subst h1 h2
  have hm : ∀ (op op' : CmpOp) (r r' : Expr), behindInMarks op' r' = false → lastMarks [op, op'] [r, r'] = false := fun _ _ _ _ z => z
  exact ⟨s_chn C (ia.e C h3) (ib.e C h4) (ic.e C h5) (hm _ _ _ _ (set_ok h5 _)), t_chn C (ia.e C h3) (ib.e C h4) (ic.e C h5) (hm _ _ _ _ (set_ok h5 _))⟩
theorem n_band {a b : M} (ia : Snd g N cl k cal a) (ib : Snd g N cl k cal b) (C : Ck g N cl k cal X W sc) (h : mE g N sc (.band a b) e = true) : PE X e (tE X.K W cl cal (.band a b)) ∧ PW X e (tT X.K W cl cal (.band a b)) := by
  unfold mE at h
  split at h <;> first | (cases h; done) | skip
  all_goals (rename_i hq; cases hq)
  simp only [Bool.and_eq_true] at h
  exact ⟨s_band (ia.e C h.1) (ib.e C h.2), w_band (ia.t C h.1) (ib.w C h.2)⟩
theorem n_bor {a b : M} (ia : Snd g N cl k cal a) (ib : Snd g N cl k cal b) (C : Ck g N cl k cal X W sc) (h : mE g N sc (.bor a b) e = true) : PE X e (tE X.K W cl cal (.bor a b)) ∧ PW X e (tT X.K W cl cal (.bor a b)) := by
  unfold mE at h
  split at h <;> first | (cases h; done) | skip
  all_goals (rename_i hq; cases hq)
  simp only [Bool.and_eq_true] at h
  exact ⟨s_bor (ia.e C h.1) (ib.e C h.2), w_bor (ia.t C h.1) (ib.w C h.2)⟩
theorem n_b1 {a : M} (ia : Snd g N cl k cal a) (C : Ck g N cl k cal X W sc) (h : mE g N sc (.b1 a) e = true) : PE X e (tE X.K W cl cal (.b1 a)) ∧ PW X e (tT X.K W cl cal (.b1 a)) := by
  unfold mE at h
  split at h <;> first | (cases h; done) | skip
  all_goals (rename_i hq; cases hq)
  rename_i op e1 p
  have he := ia.e C h
  have ht := ia.t C h
  refine ⟨pe_one he, ?_⟩
  cases op
  · exact pw_and1 ht
  · exact pw_or1 ht
theorem n_bnot {a : M} (ia : Snd g N cl k cal a) (C : Ck g N cl k cal X W sc) (h : mE g N sc (.bnot a) e = true) : ET cl cal X W (.bnot a) e := by
  unfold mE at h
  split at h <;> first | (cases h; done) | skip
  all_goals (rename_i hq; cases hq)
  exact ⟨s_bnot (ia.e C h), t_bnot (ia.t C h)⟩
theorem n_ite {c a b : M} (ic : Snd g N cl k cal c) (ia : Snd g N cl k cal a) (ib : Snd g N cl k cal b) (C : Ck g N cl k cal X W sc) (h : mE g N sc (.ite c a b) e = true) : ET cl cal X W (.ite c a b) e := by
  unfold mE at h
  split at h <;> first | (cases h; done) | skip
  all_goals (rename_i hq; cases hq)
  simp only [Bool.and_eq_true] at h
  obtain ⟨⟨h1, h2⟩, h3⟩ := h
  exact ⟨s_ite (ic.t C h1) (ia.e C h2) (ib.e C h3), t_ite (ic.t C h1) (ia.t C h2) (ib.t C h3)⟩
theorem n_tup {as : M} (ia : Snd g N cl k cal as) (C : Ck g N cl k cal X W sc) (h : mE g N sc (.tup as) e = true) : ET cl cal X W (.tup as) e := by
  unfold mE at h
  split at h <;> first | (cases h; done) | skip
  all_goals (rename_i hq; cases hq)
  exact .val (s_tup (ia.a C h)) rfl
theorem n_lst {as : M} (ia : Snd g N cl k cal as) (C : Ck g N cl k cal X W sc) (h : mE g N sc (.lst as) e = true) : ET cl cal X W (.lst as) e := by
  unfold mE at h
  split at h <;> first | (cases h; done) | skip
  all_goals (rename_i hq; cases hq)
  exact .val (s_lst (ia.a C h)) rfl
theorem n_sub {a b : M} (ia : Snd g N cl k cal a) (ib : Snd g N cl k cal b) (C : Ck g N cl k cal X W sc) (h : mE g N sc (.sub a b) e = true) : ET cl cal X W (.sub a b) e := by
  unfold mE at h
  split at h <;> first | (cases h; done) | skip
  all_goals (rename_i hq; cases hq)
  simp only [Bool.and_eq_true] at h
  exact .val (s_sub (ia.e C h.1) (ib.e C h.2) (slice_ok h.2)) rfl
theorem n_slc {a lo hi : M} (ia : Snd g N cl k cal a) (il : Snd g N cl k cal lo) (ih : Snd g N cl k cal hi) (C : Ck g N cl k cal X W sc) (h : mE g N sc (.slc a lo hi) e = true) : ET cl cal X W (.slc a lo hi) e := by
  unfold mE at h
  split at h <;> first | (cases h; done) | skip
  all_goals (rename_i hq; cases hq)
  simp only [Bool.and_eq_true] at h
  obtain ⟨⟨h1, h2⟩, h3⟩ := h
  exact .val (s_slc (ia.e C h1) (il.o C h2) (ih.o C h3)) rfl
theorem n_call {f : Nat} {as : M} (ia : Snd g N cl k cal as) (C : Ck g N cl k cal X W sc) (h : mE g N sc (.call f as) e = true) : ET cl cal X W (.call f as) e := by
  unfold mE at h
  split at h <;> first | (cases h; done) | skip
  all_goals (rename_i hq; cases hq)
  simp only [Bool.and_eq_true, decide_eq_true_eq] at h
  obtain ⟨⟨h1, h2⟩, h3⟩ := h
  exact .val (s_call C h1 h2 h3 (ia.a C h3)) rfl
theorem n_blt {b : Bl} {as : M} (ia : Snd g N cl k cal as) (C : Ck g N cl k cal X W sc) (h : mE g N sc (.blt b as) e = true) : ET cl cal X W (.blt b as) e := by
  unfold mE at h
  split at h <;> first | (cases h; done) | skip
  all_goals (rename_i hq; cases hq)
  simp only [Bool.and_eq_true, decide_eq_true_eq] at h
  obtain ⟨⟨h1, h2⟩, h3⟩ := h
  have hs := ia.a C h3
  cases as <;> simp only [mA, Bool.false_eq_true] at h3
  simp only [Bool.and_eq_true] at h3
  exact .val (s_blt C h1 h2 hs (star_ok h3.1 _ _) (stars_ok h3.2 _ _)) rfl
theorem n_isi {a : M} {ct : Cl} (ia : Snd g N cl k cal a) (C : Ck g N cl k cal X W sc) (h : mE g N sc (.isi a ct) e = true) : ET cl cal X W (.isi a ct) e := by
  unfold mE at h
  split at h <;> first | (cases h; done) | skip
  all_goals (rename_i hq; cases hq)
  simp only [Bool.and_eq_true, decide_eq_true_eq] at h
  obtain ⟨⟨⟨⟨h1, h2⟩, h3⟩, h4⟩, h5⟩ := h
  exact .val (s_isi C h1 h2 h3 h4 (ia.e C h5) (fun es env => star_ok h5 es env)) rfl
theorem n_lrg {a b : M} (ia : Snd g N cl k cal a) (ib : Snd g N cl k cal b) (C : Ck g N cl k cal X W sc) (h : mE g N sc (.lrg a b) e = true) : ET cl cal X W (.lrg a b) e := by
  unfold mE at h
  split at h <;> first | (cases h; done) | skip
  all_goals (rename_i hq; cases hq)
  simp only [Bool.and_eq_true, decide_eq_true_eq] at h
  obtain ⟨⟨⟨⟨h1, h2⟩, h3⟩, h4⟩, h5⟩ := h
  exact .val (s_lrg C h1 h2 (s_rg C h3 h4 h5 (fun q => ia.e C q) (fun q => ib.e C q))) rfl
theorem n_trg {a b : M} (ia : Snd g N cl k cal a) (ib : Snd g N cl k cal b) (C : Ck g N cl k cal X W sc) (h : mE g N sc (.trg a b) e = true) : ET cl cal X W (.trg a b) e := by
  unfold mE at h
  split at h <;> first | (cases h; done) | skip
  all_goals (rename_i hq; cases hq)
  simp only [Bool.and_eq_true, decide_eq_true_eq] at h
  obtain ⟨⟨⟨⟨h1, h2⟩, h3⟩, h4⟩, h5⟩ := h
  exact .val (s_trg C h1 h2 (s_rg C h3 h4 h5 (fun q => ia.e C q) (fun q => ib.e C q))) rfl
theorem n_idx {a b : M} (ia : Snd g N cl k cal a) (ib : Snd g N cl k cal b) (C : Ck g N cl k cal X W sc) (h : mE g N sc (.idx a b) e = true) : ET cl cal X W (.idx a b) e := by
  unfold mE at h
  split at h <;> first | (cases h; done) | skip
  all_goals (rename_i hq; cases hq)
  simp only [Bool.and_eq_true, decide_eq_true_eq] at h
  obtain ⟨⟨⟨⟨h1, h2⟩, h3⟩, h4⟩, h5⟩ := h
  exact .val (s_idx C h1 h2 h3 (ia.e C h4) (ib.e C h5) h5) rfl
theorem setNone (C : Ck g N cl k cal X W sc) : X.mg "set" = none := C.fc.bl "set" (by simp [blNames])
theorem n_sset {a : M} (ia : Snd g N cl k cal a) (C : Ck g N cl k cal X W sc) (h : mE g N sc (.sset a) e = true) : ET cl cal X W (.sset a) e := by
  unfold mE at h
  split at h <;> first | (cases h; done) | skip
  all_goals (rename_i hq; cases hq)
  simp only [Bool.and_eq_true, decide_eq_true_eq] at h
  obtain ⟨⟨⟨⟨h1, h2⟩, h3⟩, h4⟩, h5⟩ := h
  exact .val (s_sset C h1 h2 h3 h4 (setNone C) h5 (ia.e C h5)) rfl
theorem n_lset {a : M} (ia : Snd g N cl k cal a) (C : Ck g N cl k cal X W sc) (h : mE g N sc (.lset a) e = true) : ET cl cal X W (.lset a) e := by
  unfold mE at h
  split at h <;> first | (cases h; done) | skip
  all_goals (rename_i hq; cases hq)
  simp only [Bool.and_eq_true, decide_eq_true_eq] at h
  obtain ⟨⟨⟨⟨h1, h2⟩, h3⟩, h4⟩, h5⟩ := h
  exact .val (s_lset C h1 h2 h3 h4 (setNone C) h5 (ia.e C h5)) rfl
theorem n_rev {a : M} (ia : Snd g N cl k cal a) (C : Ck g N cl k cal X W sc) (h : mE g N sc (.rev a) e = true) : ET cl cal X W (.rev a) e := by
  unfold mE at h
  split at h <;> first | (cases h; done) | skip
  all_goals (rename_i hq; cases hq)
  simp only [Bool.and_eq_true, decide_eq_true_eq] at h
  obtain ⟨h1, h2⟩ := h
  subst h1
  exact .val (s_rev (ia.e C h2)) rfl
theorem n_lr3 {a b c : M} (ia : Snd g N cl k cal a) (ib : Snd g N cl k cal b) (ic : Snd g N cl k cal c) (C : Ck g N cl k cal X W sc) (h : mE g N sc (.lr3 a b c) e = true) : ET cl cal X W (.lr3 a b c) e := by
  unfold mE at h
  split at h <;> first | (cases h; done) | skip
  all_goals (rename_i hq; cases hq)
  simp only [Bool.and_eq_true, decide_eq_true_eq] at h
  obtain ⟨⟨⟨⟨⟨⟨h1, h2⟩, h3⟩, h4⟩, h5⟩, h6⟩, h7⟩ := h
  exact .val (s_lr3 C h1 h2 h3 h4 h5 h6 h7 (ia.e C h5) (ib.e C h6) (ic.e C h7)) rfl
theorem n_cnt {a b : M} (ia : Snd g N cl k cal a) (ib : Snd g N cl k cal b) (C : Ck g N cl k cal X W sc) (h : mE g N sc (.cnt a b) e = true) : ET cl cal X W (.cnt a b) e := by
  unfold mE at h
  split at h <;> first | (cases h; done) | skip
  all_goals (rename_i hq; cases hq)
  simp only [Bool.and_eq_true, decide_eq_true_eq] at h
  obtain ⟨⟨⟨⟨h1, h2⟩, h3⟩, h4⟩, h5⟩ := h
  exact .val (s_cnt C h1 h2 h3 (ia.e C h4) (ib.e C h5) h5) rfl
theorem n_gs {x v : Str} (C : Ck g N cl k cal X W sc) (h : mE g N sc (.gs x v) e = true) : ET cl cal X W (.gs x v) e := by
  cases e <;> first | exact .val (s_gs C h) rfl | (simp [mE] at h; done)
theorem n_joi {a b : M} (ia : Snd g N cl k cal a) (ib : Snd g N cl k cal b) (C : Ck g N cl k cal X W sc) (h : mE g N sc (.joi a b) e = true) : ET cl cal X W (.joi a b) e := by
  unfold mE at h
  split at h <;> first | (cases h; done) | skip
  all_goals (rename_i hq; cases hq)
  simp only [Bool.and_eq_true, decide_eq_true_eq] at h
  obtain ⟨⟨⟨⟨h1, h2⟩, h3⟩, h4⟩, h5⟩ := h
  exact .val (s_joi C h1 h2 h3 (ia.e C h4) (ib.e C h5) h5) rfl
theorem n_cix {fs : List Nat} {w as : M} (iw : Snd g N cl k cal w) (ia : Snd g N cl k cal as) (C : Ck g N cl k cal X W sc) (h : mE g N sc (.cix fs w as) e = true) : ET cl cal X W (.cix fs w as) e := by
  unfold mE at h
  split at h <;> first | (cases h; done) | skip
  all_goals (rename_i hq; cases hq)
  simp only [Bool.and_eq_true, decide_eq_true_eq] at h
  obtain ⟨⟨⟨h1, h2⟩, h3⟩, h4⟩ := h
  exact .val (s_cix C h1 h2 h3 (iw.e C h3) h4 (ia.a C h4)) rfl
theorem n_cc {f : Nat} {a b : M} (ia : Snd g N cl k cal a) (ib : Snd g N cl k cal b) (C : Ck g N cl k cal X W sc) (h : mE g N sc (.cc f a b) e = true) : ET cl cal X W (.cc f a b) e := by
  unfold mE at h
  split at h <;> first | (cases h; done) | skip
  all_goals (rename_i hq; cases hq)
  simp only [Bool.and_eq_true, decide_eq_true_eq] at h
  obtain ⟨⟨⟨h1, h2⟩, h3⟩, h4⟩ := h
  exact .val (s_cc C h1 h2 h3 h4 (ia.e C h3) (ib.e C h4)) rfl
theorem fold_I {m : M} {tg e : Expr} (h : mI g N sc tg m e = true) (env : Env) : ∀ x, foldedSetIterable e env x = pure x := by
  cases e <;> first | exact (fun _ => rfl) | skip
  cases m <;> first | (cases h; done) | skip
  exact fold_ok (sc := sc) (g := g) (N := N) h env
theorem lc_ok {ow : List (Str × Nat)} {t : Tg} {it c e0 : M} (ii : Snd g N cl k cal it) (ic : Snd g N cl k cal c) (ie : Snd g N cl k cal e0) (C : Ck g N cl k cal X W sc) {elt : Expr} {gens : List Comprehension} {scope : Scope} {p : Pos} (h : mE g N sc (.lc ow t it c e0) (.ListComp elt gens scope p) = true) :
    ∃ tg iter ifs, gens = [⟨tg, iter, ifs, 0⟩] ∧ LcOk g N cl k cal sc X W ow t it c e0 elt tg iter ifs scope := by
  generalize he : Expr.ListComp elt gens scope p = e at h
  unfold mE at h
  split at h <;> first | (cases h; done) | skip
  all_goals (rename_i hq; cases hq)
  rename_i tg iter ifs scope' p'
  simp only [Bool.and_eq_true] at h
  obtain ⟨⟨⟨⟨⟨⟨h1, h2⟩, h3⟩, h4⟩, h5⟩, h6⟩, h7⟩ := h
  cases he
  have T : ∀ (s : Shared) (H : Hp) (Cc : Addr) (cs : List (Str × Addr)) (fp : List Addr), Tk N (fun x => scope.names.lookup x == some .cell) (relS scope sc) (X.blk s H scope (compEnvC scope cs Cc X.env) fp) := fun s H Cc cs fp =>
    ⟨C.eN, C.nd, by rw [← C.eS] <;> rfl, C.calm, fun x hx => hx⟩
  refine ⟨tg, iter, ifs, rfl, ?_, ii.i C h2, h3, fun s H Cc cs fp => mT_ok (T s H Cc cs fp) h5, fun s H Cc cs fp => ic.c (C.blk s H scope Cc cs fp) h6, fun s H Cc cs fp => ie.e (C.blk s H scope Cc cs fp) h7, fold_I h2 _⟩
  rw [C.eN, C.eS]
  exact blkOk_by h1
theorem n_lc {ow : List (Str × Nat)} {t : Tg} {it c e0 : M} (ii : Snd g N cl k cal it) (ic : Snd g N cl k cal c) (ie : Snd g N cl k cal e0) (C : Ck g N cl k cal X W sc) (h : mE g N sc (.lc ow t it c e0) e = true) : ET cl cal X W (.lc ow t it c e0) e := by
  have h0 := h
  unfold mE at h
  split at h <;> first | (cases h; done) | skip
  all_goals (rename_i hq; cases hq)
  obtain ⟨_, _, _, e1, l⟩ := lc_ok ii ic ie C h0
  cases e1
  exact .val (l.pe C) rfl
/-- what the parts of a comprehension of two clauses must be -/
structure Lc2Ok (g : Pg) (N : List Str) (cl : Nat → Addr) (k : Nat) (cal : Nat → List D → Out D) (sc : Scope) (X : Cx) (W : WX) (ow : List (Str × Nat)) (t : Tg) (it : M) (vs : List Nat) (t1 : Tg) (it1 e0 : M) (elt tg iter tg1 iter1 : Expr) (scope : Scope) : Prop where
  blk : BlkOk X.N X.env.scope scope ow
  hi : PI X tg iter (tI X.K W cl cal it)
  hT : tgIn ow t = true
  hT1 : tgSub vs t1 = true
  sub : ∀ i ∈ vs, i ∈ ow.map (·.2)
  hg : ∀ (s : Shared) (H : Hp) (Cc : Addr) (cs : List (Str × Addr)) (fp : List Addr), PG (X.blk s H scope (compEnvC scope cs Cc X.env) fp) tg (gT X.K t)
  hj : ∀ (s : Shared) (H : Hp) (Cc : Addr) (cs : List (Str × Addr)) (fp : List Addr), PI (X.blk s H scope (compEnvC scope cs Cc X.env) fp) tg1 iter1 (tI X.K W0 cl cal it1)
  hg1 : ∀ (s : Shared) (H : Hp) (Cc : Addr) (cs : List (Str × Addr)) (fp : List Addr), PG (X.blk s H scope (compEnvC scope cs Cc X.env) fp) tg1 (gT X.K t1)
  he : ∀ (s : Shared) (H : Hp) (Cc : Addr) (cs : List (Str × Addr)) (fp : List Addr), PE (X.blk s H scope (compEnvC scope cs Cc X.env) fp) elt (tE X.K W0 cl cal e0)
  hs : ∀ x, foldedSetIterable iter X.env x = pure x
  hs1 : ∀ env x, foldedSetIterable iter1 env x = pure x
theorem lc2_ok {ow : List (Str × Nat)} {t t1 : Tg} {vs : List Nat} {it it1 e0 : M} (ii : Snd g N cl k cal it) (ij : Snd g N cl k cal it1) (ie : Snd g N cl k cal e0) (C : Ck g N cl k cal X W sc) {elt : Expr} {gens : List Comprehension} {scope : Scope} {p : Pos} (h : mE g N sc (.lc2 ow t it vs t1 it1 e0) (.ListComp elt gens scope p) = true) :
    ∃ tg iter tg1 iter1, gens = [⟨tg, iter, [], 0⟩, ⟨tg1, iter1, [], 0⟩] ∧ Lc2Ok g N cl k cal sc X W ow t it vs t1 it1 e0 elt tg iter tg1 iter1 scope := by
  generalize he : Expr.ListComp elt gens scope p = e at h
  unfold mE at h
  split at h <;> first | (cases h; done) | skip
  all_goals (rename_i hq; cases hq)
  rename_i tg iter tg1 iter1 scope' p'
  simp only [Bool.and_eq_true] at h
  obtain ⟨⟨⟨⟨⟨⟨⟨⟨⟨⟨h1, h2⟩, h3⟩, h4⟩, h5⟩, h6⟩, h7⟩, h8⟩, h9⟩, h10⟩, h11⟩ := h
  cases he
  have T : ∀ (s : Shared) (H : Hp) (Cc : Addr) (cs : List (Str × Addr)) (fp : List Addr), Tk N (fun x => scope.names.lookup x == some .cell) (relS scope sc) (X.blk s H scope (compEnvC scope cs Cc X.env) fp) := fun s H Cc cs fp =>
    ⟨C.eN, C.nd, by rw [← C.eS] <;> rfl, C.calm, fun x hx => hx⟩
  refine ⟨tg, iter, tg1, iter1, rfl, ⟨?_, ii.i C h2, h3, h6, fun i hi => of_decide_eq_true (List.all_eq_true.mp h5 i hi), fun s H Cc cs fp => mT_ok (T s H Cc cs fp) h8, fun s H Cc cs fp => ij.i (C.blk s H scope Cc cs fp) h9, fun s H Cc cs fp => mT_ok (T s H Cc cs fp) h10, fun s H Cc cs fp => ie.e (C.blk s H scope Cc cs fp) h11, fold_I h2 _, fun env => fold_I h9 env⟩⟩
  rw [C.eN, C.eS]
  exact blkOk_by h1
theorem n_lc2 {ow : List (Str × Nat)} {t t1 : Tg} {vs : List Nat} {it it1 e0 : M} (ii : Snd g N cl k cal it) (ij : Snd g N cl k cal it1) (ie : Snd g N cl k cal e0) (C : Ck g N cl k cal X W sc) (h : mE g N sc (.lc2 ow t it vs t1 it1 e0) e = true) : ET cl cal X W (.lc2 ow t it vs t1 it1 e0) e := by
  have h0 := h
  unfold mE at h
  split at h <;> first | (cases h; done) | skip
  all_goals (rename_i hq; cases hq)
  obtain ⟨_, _, _, _, e1, l⟩ := lc2_ok ii ij ie C h0
  cases e1
  refine .val (PE.by (pe_lc2 C.calm (by rw [C.eN]; exact C.nd) l.hi l.blk l.sub l.hg (fun _ _ _ _ _ => pts_nil) l.hj l.hg1 (fun _ _ _ _ _ => pts_nil) l.he l.hs l.hs1) fun σ H Q ⟨F0, H0, ρ, F, E, f⟩ => ?_) rfl
  rw [evE_lc2] at f
  exact rd_lc2 l.hT l.hT1 E (FinF.of f)
/-! the fields of each form -/
theorem Snd.ofE {m : M} (he : ∀ (X : Cx) (W : WX) (sc : Scope), Ck g N cl k cal X W sc → ∀ (e : Expr), mE g N sc m e = true → ET cl cal X W m e) (hw : ∀ sc op vs p, mE g N sc m (.BoolOp op vs p) = false)
    (ha : ∀ sc es, mA g N sc m es = false) (ho : ∀ sc eo, mO g N sc m eo = false) (hi : ∀ sc tg e, mI g N sc tg m e = false) (hc : ∀ sc ifs, mC g N sc m ifs = false) : Snd g N cl k cal m :=
  ⟨fun _ _ _ C _ h => (he _ _ _ C _ h).1, fun _ _ _ C _ h => (he _ _ _ C _ h).2, fun _ _ _ C _ _ _ h => (by rw [hw] at h; cases h), fun _ _ _ C _ h => (by rw [ha] at h; cases h), fun _ _ _ C _ h => (by rw [ho] at h; cases h), fun _ _ _ C _ _ h => (by rw [hi] at h; cases h), fun _ _ _ C _ h => (by rw [hc] at h; cases h)⟩
theorem Snd.ofW {m : M} (he : ∀ (X : Cx) (W : WX) (sc : Scope), Ck g N cl k cal X W sc → ∀ (e : Expr), mE g N sc m e = true → PE X e (tE X.K W cl cal m) ∧ PW X e (tT X.K W cl cal m))
    (ha : ∀ sc es, mA g N sc m es = false) (ho : ∀ sc eo, mO g N sc m eo = false) (hi : ∀ sc tg e, mI g N sc tg m e = false) (hc : ∀ sc ifs, mC g N sc m ifs = false) : Snd g N cl k cal m :=
  ⟨fun _ _ _ C _ h => (he _ _ _ C _ h).1, fun _ _ _ C _ h => (he _ _ _ C _ h).2.pt, fun _ _ _ C _ _ _ h => (he _ _ _ C _ h).2, fun _ _ _ C _ h => (by rw [ha] at h; cases h), fun _ _ _ C _ h => (by rw [ho] at h; cases h), fun _ _ _ C _ _ h => (by rw [hi] at h; cases h), fun _ _ _ C _ h => (by rw [hc] at h; cases h)⟩
theorem Snd.none {m : M} (he : ∀ sc e, mE g N sc m e = false) (ha : ∀ sc es, mA g N sc m es = false) (ho : ∀ sc eo, mO g N sc m eo = false) (hi : ∀ sc tg e, mI g N sc tg m e = false) (hc : ∀ sc ifs, mC g N sc m ifs = false) : Snd g N cl k cal m :=
  ⟨fun _ _ _ C _ h => (by rw [he] at h; cases h), fun _ _ _ C _ h => (by rw [he] at h; cases h), fun _ _ _ C _ _ _ h => (by rw [he] at h; cases h), fun _ _ _ C _ h => (by rw [ha] at h; cases h), fun _ _ _ C _ h => (by rw [ho] at h; cases h), fun _ _ _ C _ _ h => (by rw [hi] at h; cases h), fun _ _ _ C _ h => (by rw [hc] at h; cases h)⟩
theorem snd : ∀ m : M, Snd g N cl k cal m := by
  intro m
  induction m with
  | nm i => exact .ofE (fun _ _ _ C e h => n_nm C h) (fun _ _ _ _ => rfl) (fun _ es => by cases es <;> rfl) (fun _ eo => by cases eo <;> rfl) (fun _ _ e => by cases e <;> rfl) (fun _ ifs => by cases ifs <;> rfl)
  | ci i => exact .ofE (fun _ _ _ C e h => n_ci C h) (fun _ _ _ _ => rfl) (fun _ es => by cases es <;> rfl) (fun _ eo => by cases eo <;> rfl) (fun _ _ e => by cases e <;> rfl) (fun _ ifs => by cases ifs <;> rfl)
  | cb i => exact .ofE (fun _ _ _ C e h => n_cb C h) (fun _ _ _ _ => rfl) (fun _ es => by cases es <;> rfl) (fun _ eo => by cases eo <;> rfl) (fun _ _ e => by cases e <;> rfl) (fun _ ifs => by cases ifs <;> rfl)
  | cs i => exact .ofE (fun _ _ _ C e h => n_cs C h) (fun _ _ _ _ => rfl) (fun _ es => by cases es <;> rfl) (fun _ eo => by cases eo <;> rfl) (fun _ _ e => by cases e <;> rfl) (fun _ ifs => by cases ifs <;> rfl)
  | cn  => exact .ofE (fun _ _ _ C e h => n_cn C h) (fun _ _ _ _ => rfl) (fun _ es => by cases es <;> rfl) (fun _ eo => by cases eo <;> rfl) (fun _ _ e => by cases e <;> rfl) (fun _ ifs => by cases ifs <;> rfl)
  | gi x v => exact .ofE (fun _ _ _ C e h => n_gi C h) (fun _ _ _ _ => rfl) (fun _ es => by cases es <;> rfl) (fun _ eo => by cases eo <;> rfl) (fun _ _ e => by cases e <;> rfl) (fun _ ifs => by cases ifs <;> rfl)
  | gs x v => exact .ofE (fun _ _ _ C e h => n_gs C h) (fun _ _ _ _ => rfl) (fun _ es => by cases es <;> rfl) (fun _ eo => by cases eo <;> rfl) (fun _ _ e => by cases e <;> rfl) (fun _ ifs => by cases ifs <;> rfl)
  | joi a b ia ib => exact .ofE (fun _ _ _ C e h => n_joi ia ib C h) (fun _ _ _ _ => rfl) (fun _ es => by cases es <;> rfl) (fun _ eo => by cases eo <;> rfl) (fun _ _ e => by cases e <;> rfl) (fun _ ifs => by cases ifs <;> rfl)
  | bin op a b ia ib => exact .ofE (fun _ _ _ C e h => n_bin ia ib C h) (fun _ _ _ _ => rfl) (fun _ es => by cases es <;> rfl) (fun _ eo => by cases eo <;> rfl) (fun _ _ e => by cases e <;> rfl) (fun _ ifs => by cases ifs <;> rfl)
  | neg a ia => exact .ofE (fun _ _ _ C e h => n_neg ia C h) (fun _ _ _ _ => rfl) (fun _ es => by cases es <;> rfl) (fun _ eo => by cases eo <;> rfl) (fun _ _ e => by cases e <;> rfl) (fun _ ifs => by cases ifs <;> rfl)
  | cmp op a b ia ib => exact .ofE (fun _ _ _ C e h => n_cmp ia ib C h) (fun _ _ _ _ => rfl) (fun _ es => by cases es <;> rfl) (fun _ eo => by cases eo <;> rfl) (fun _ _ e => by cases e <;> rfl) (fun _ ifs => by cases ifs <;> rfl)
  | chn o1 o2 a b c ia ib ic => exact .ofE (fun _ _ _ C e h => n_chn ia ib ic C h) (fun _ _ _ _ => rfl) (fun _ es => by cases es <;> rfl) (fun _ eo => by cases eo <;> rfl) (fun _ _ e => by cases e <;> rfl) (fun _ ifs => by cases ifs <;> rfl)
  | bnot a ia => exact .ofE (fun _ _ _ C e h => n_bnot ia C h) (fun _ _ _ _ => rfl) (fun _ es => by cases es <;> rfl) (fun _ eo => by cases eo <;> rfl) (fun _ _ e => by cases e <;> rfl) (fun _ ifs => by cases ifs <;> rfl)
  | ite c a b ic ia ib => exact .ofE (fun _ _ _ C e h => n_ite ic ia ib C h) (fun _ _ _ _ => rfl) (fun _ es => by cases es <;> rfl) (fun _ eo => by cases eo <;> rfl) (fun _ _ e => by cases e <;> rfl) (fun _ ifs => by cases ifs <;> rfl)
  | tup as ia => exact .ofE (fun _ _ _ C e h => n_tup ia C h) (fun _ _ _ _ => rfl) (fun _ es => by cases es <;> rfl) (fun _ eo => by cases eo <;> rfl) (fun _ _ e => by cases e <;> rfl) (fun _ ifs => by cases ifs <;> rfl)
  | lst as ia => exact .ofE (fun _ _ _ C e h => n_lst ia C h) (fun _ _ _ _ => rfl) (fun _ es => by cases es <;> rfl) (fun _ eo => by cases eo <;> rfl) (fun _ _ e => by cases e <;> rfl) (fun _ ifs => by cases ifs <;> rfl)
  | sub a b ia ib => exact .ofE (fun _ _ _ C e h => n_sub ia ib C h) (fun _ _ _ _ => rfl) (fun _ es => by cases es <;> rfl) (fun _ eo => by cases eo <;> rfl) (fun _ _ e => by cases e <;> rfl) (fun _ ifs => by cases ifs <;> rfl)
  | slc a lo hi ia il ih => exact .ofE (fun _ _ _ C e h => n_slc ia il ih C h) (fun _ _ _ _ => rfl) (fun _ es => by cases es <;> rfl) (fun _ eo => by cases eo <;> rfl) (fun _ _ e => by cases e <;> rfl) (fun _ ifs => by cases ifs <;> rfl)
  | call f as ia => exact .ofE (fun _ _ _ C e h => n_call ia C h) (fun _ _ _ _ => rfl) (fun _ es => by cases es <;> rfl) (fun _ eo => by cases eo <;> rfl) (fun _ _ e => by cases e <;> rfl) (fun _ ifs => by cases ifs <;> rfl)
  | blt b as ia => exact .ofE (fun _ _ _ C e h => n_blt ia C h) (fun _ _ _ _ => rfl) (fun _ es => by cases es <;> rfl) (fun _ eo => by cases eo <;> rfl) (fun _ _ e => by cases e <;> rfl) (fun _ ifs => by cases ifs <;> rfl)
  | isi a ct ia => exact .ofE (fun _ _ _ C e h => n_isi ia C h) (fun _ _ _ _ => rfl) (fun _ es => by cases es <;> rfl) (fun _ eo => by cases eo <;> rfl) (fun _ _ e => by cases e <;> rfl) (fun _ ifs => by cases ifs <;> rfl)
  | lrg a b ia ib => exact .ofE (fun _ _ _ C e h => n_lrg ia ib C h) (fun _ _ _ _ => rfl) (fun _ es => by cases es <;> rfl) (fun _ eo => by cases eo <;> rfl) (fun _ _ e => by cases e <;> rfl) (fun _ ifs => by cases ifs <;> rfl)
  | trg a b ia ib => exact .ofE (fun _ _ _ C e h => n_trg ia ib C h) (fun _ _ _ _ => rfl) (fun _ es => by cases es <;> rfl) (fun _ eo => by cases eo <;> rfl) (fun _ _ e => by cases e <;> rfl) (fun _ ifs => by cases ifs <;> rfl)
  | idx a b ia ib => exact .ofE (fun _ _ _ C e h => n_idx ia ib C h) (fun _ _ _ _ => rfl) (fun _ es => by cases es <;> rfl) (fun _ eo => by cases eo <;> rfl) (fun _ _ e => by cases e <;> rfl) (fun _ ifs => by cases ifs <;> rfl)
  | lc ow t it c e0 ii ic ie => exact .ofE (fun _ _ _ C e h => n_lc ii ic ie C h) (fun _ _ _ _ => rfl) (fun _ es => by cases es <;> rfl) (fun _ eo => by cases eo <;> rfl) (fun _ _ e => by cases e <;> rfl) (fun _ ifs => by cases ifs <;> rfl)
  | sset a ia => exact .ofE (fun _ _ _ C e h => n_sset ia C h) (fun _ _ _ _ => rfl) (fun _ es => by cases es <;> rfl) (fun _ eo => by cases eo <;> rfl) (fun _ _ e => by cases e <;> rfl) (fun _ ifs => by cases ifs <;> rfl)
  | lset a ia => exact .ofE (fun _ _ _ C e h => n_lset ia C h) (fun _ _ _ _ => rfl) (fun _ es => by cases es <;> rfl) (fun _ eo => by cases eo <;> rfl) (fun _ _ e => by cases e <;> rfl) (fun _ ifs => by cases ifs <;> rfl)
  | rev a ia => exact .ofE (fun _ _ _ C e h => n_rev ia C h) (fun _ _ _ _ => rfl) (fun _ es => by cases es <;> rfl) (fun _ eo => by cases eo <;> rfl) (fun _ _ e => by cases e <;> rfl) (fun _ ifs => by cases ifs <;> rfl)
  | lr3 a b c ia ib ic => exact .ofE (fun _ _ _ C e h => n_lr3 ia ib ic C h) (fun _ _ _ _ => rfl) (fun _ es => by cases es <;> rfl) (fun _ eo => by cases eo <;> rfl) (fun _ _ e => by cases e <;> rfl) (fun _ ifs => by cases ifs <;> rfl)
  | cnt a b ia ib => exact .ofE (fun _ _ _ C e h => n_cnt ia ib C h) (fun _ _ _ _ => rfl) (fun _ es => by cases es <;> rfl) (fun _ eo => by cases eo <;> rfl) (fun _ _ e => by cases e <;> rfl) (fun _ ifs => by cases ifs <;> rfl)
  | cc f a b ia ib => exact .ofE (fun _ _ _ C e h => n_cc ia ib C h) (fun _ _ _ _ => rfl) (fun _ es => by cases es <;> rfl) (fun _ eo => by cases eo <;> rfl) (fun _ _ e => by cases e <;> rfl) (fun _ ifs => by cases ifs <;> rfl)
  | cix fs w as iw ia => exact .ofE (fun _ _ _ C e h => n_cix iw ia C h) (fun _ _ _ _ => rfl) (fun _ es => by cases es <;> rfl) (fun _ eo => by cases eo <;> rfl) (fun _ _ e => by cases e <;> rfl) (fun _ ifs => by cases ifs <;> rfl)
  | lc2 ow t it vs t1 it1 e0 ii ij ie => exact .ofE (fun _ _ _ C e h => n_lc2 ii ij ie C h) (fun _ _ _ _ => rfl) (fun _ es => by cases es <;> rfl) (fun _ eo => by cases eo <;> rfl) (fun _ _ e => by cases e <;> rfl) (fun _ ifs => by cases ifs <;> rfl)
  | band a b ia ib => exact .ofW (fun _ _ _ C e h => n_band ia ib C h) (fun _ es => by cases es <;> rfl) (fun _ eo => by cases eo <;> rfl) (fun _ _ e => by cases e <;> rfl) (fun _ ifs => by cases ifs <;> rfl)
  | bor a b ia ib => exact .ofW (fun _ _ _ C e h => n_bor ia ib C h) (fun _ es => by cases es <;> rfl) (fun _ eo => by cases eo <;> rfl) (fun _ _ e => by cases e <;> rfl) (fun _ ifs => by cases ifs <;> rfl)
  | b1 a ia =>
    refine ⟨fun _ _ _ C _ h => (n_b1 ia C h).1, fun _ _ _ C _ h => (n_b1 ia C h).2.pt, fun _ _ _ C _ _ _ h => (n_b1 ia C h).2, fun _ _ _ C es h => (by cases es <;> cases h), fun _ _ _ C eo h => ?_, fun _ _ _ C tg e h => i_b1 (ia.e C h), fun _ _ _ C ifs h => ?_⟩
    · cases eo with
      | none => cases h
      | some e => exact o_some (ia.e C h)
    · match ifs, h with
      | [], h => cases h
      | [x], h => exact pts_one (ia.t C h)
      | _ :: _ :: _, h => cases h
  | nil =>
    refine ⟨fun _ _ _ C e h => (by cases e <;> cases h), fun _ _ _ C e h => (by cases e <;> cases h), fun _ _ _ C op vs p h => (by cases h), fun _ _ _ C es h => ?_, fun _ _ _ C eo h => ?_, fun _ _ _ C tg e h => (by cases e <;> cases h), fun _ _ _ C ifs h => ?_⟩
    · cases es with
      | nil => exact a_nil
      | cons _ _ => cases h
    · cases eo with
      | none => exact o_nil
      | some _ => cases h
    · cases ifs with
      | nil => exact pts_nil
      | cons _ _ => cases h
  | cons a as ia iu =>
    refine ⟨fun _ _ _ C e h => (by cases e <;> cases h), fun _ _ _ C e h => (by cases e <;> cases h), fun _ _ _ C op vs p h => (by cases h), fun _ _ _ C es h => ?_, fun _ _ _ C eo h => (by cases eo <;> cases h), fun _ _ _ C tg e h => (by cases e <;> cases h), fun _ _ _ C ifs h => by cases ifs <;> cases h⟩
    cases es with
    | nil => cases h
    | cons x xs =>
      simp only [mA, Bool.and_eq_true] at h
      exact a_cons (ia.e C h.1) (iu.a C h.2) (star_ok h.1 _ _)
  | rg a b ia ib =>
    refine ⟨fun _ _ _ C e h => (by cases e <;> cases h), fun _ _ _ C e h => (by cases e <;> cases h), fun _ _ _ C op vs p h => (by cases h), fun _ _ _ C es h => (by cases es <;> cases h), fun _ _ _ C eo h => (by cases eo <;> cases h), fun _ _ _ C tg e h => ?_, fun _ _ _ C ifs h => by cases ifs <;> cases h⟩
    unfold mI at h
    split at h <;> first | (cases h; done) | skip
    all_goals (rename_i hq; cases hq)
    simp only [Bool.and_eq_true, decide_eq_true_eq] at h
    obtain ⟨⟨h1, h2⟩, h3⟩ := h
    exact i_rg C h1 h2 h3 (fun q => ia.e C q) (fun q => ib.e C q)
  | rg3 a b c ia ib ic =>
    refine ⟨fun _ _ _ C e h => (by cases e <;> cases h), fun _ _ _ C e h => (by cases e <;> cases h), fun _ _ _ C op vs p h => (by cases h), fun _ _ _ C es h => (by cases es <;> cases h), fun _ _ _ C eo h => (by cases eo <;> cases h), fun _ _ _ C tg e h => ?_, fun _ _ _ C ifs h => by cases ifs <;> cases h⟩
    unfold mI at h
    split at h <;> first | (cases h; done) | skip
    all_goals (rename_i hq; cases hq)
    simp only [Bool.and_eq_true, decide_eq_true_eq] at h
    obtain ⟨⟨⟨⟨h1, h2⟩, h3⟩, h4⟩, h5⟩ := h
    exact i_rg3 C h1 h2 h3 h4 h5 (ia.e C h3) (ib.e C h4) (ic.e C h5)
  | enm a ia =>
    refine ⟨fun _ _ _ C e h => (by cases e <;> cases h), fun _ _ _ C e h => (by cases e <;> cases h), fun _ _ _ C op vs p h => (by cases h), fun _ _ _ C es h => (by cases es <;> cases h), fun _ _ _ C eo h => (by cases eo <;> cases h), fun _ _ _ C tg e h => ?_, fun _ _ _ C ifs h => by cases ifs <;> cases h⟩
    unfold mI at h
    split at h <;> first | (cases h; done) | skip
    all_goals (rename_i hq; cases hq)
    simp only [Bool.and_eq_true, decide_eq_true_eq] at h
    obtain ⟨⟨⟨h1, h2⟩, h3⟩, h4⟩ := h
    exact i_enm C h1 h2 h4 h3 (ia.e C h3)
  | zp a b ia ib =>
    refine ⟨fun _ _ _ C e h => (by cases e <;> cases h), fun _ _ _ C e h => (by cases e <;> cases h), fun _ _ _ C op vs p h => (by cases h), fun _ _ _ C es h => (by cases es <;> cases h), fun _ _ _ C eo h => (by cases eo <;> cases h), fun _ _ _ C tg e h => ?_, fun _ _ _ C ifs h => by cases ifs <;> cases h⟩
    unfold mI at h
    split at h <;> first | (cases h; done) | skip
    all_goals (rename_i hq; cases hq)
    simp only [Bool.and_eq_true, decide_eq_true_eq] at h
    obtain ⟨⟨⟨⟨h1, h2⟩, h3⟩, h4⟩, h5⟩ := h
    exact i_zp C h1 h2 h5 h3 (ia.e C h3) h4 (ib.e C h4)
  | _ => exact .none (fun _ e => by cases e <;> rfl) (fun _ es => by cases es <;> rfl) (fun _ eo => by cases eo <;> rfl) (fun _ _ e => by cases e <;> rfl) (fun _ ifs => by cases ifs <;> rfl)
end
end Mz

/-! Part 12: statements. -/
namespace Mz
open PySem PySem.Spec PyProof.Rows L2

/-- what is wanted behind a statement that ends so -/
def FinS (K : PySem.W.Frag) (W : WX) (cl : Nat → Addr) (F0 H0 F : Hp) (o : SO) (D' : Ends) : Prop :=
  match o with
  | .bad => False
  | .nx ρ' => ∀ σ' F' H', EnvOk K F0 H0 F' H' σ' ρ' → Same F F' → D'.nx σ' H'
  | .ret d => ∀ v F' H', Grow F0 H0 F' H' → Dn K F' v d → D'.rt v H'
  | .exc c ρ' => ∀ σ' F' H', EnvOk K F0 H0 F' H' σ' ρ' → W (.ref (cl c)) none σ' H'
def tS (K : PySem.W.Frag) (W : WX) (cl : Nat → Addr) (cal : Nat → List D → Out D) (m : M) : TS := fun D' σ H => ∃ F0 H0 ρ F, EnvOk K F0 H0 F H σ ρ ∧ FinS K W cl F0 H0 F (evS cal m ρ) D'
section
variable {K : PySem.W.Frag} {W : WX} {cl : Nat → Addr} {cal : Nat → List D → Out D} {F0 H0 F F1 H H1 : Hp} {σ : L2.St} {ρ : En} {D' : Ends}
theorem FinS.mono {o : SO} (s : Same F F1) (h : FinS K W cl F0 H0 F o D') : FinS K W cl F0 H0 F1 o D' := by
  cases o with
  | bad => exact h
  | nx ρ' => exact fun σ' F' H' E s' => h σ' F' H' E (s.trans s')
  | ret d => exact h
  | exc c ρ' => exact h
theorem thaw_get (ρ : En) (i : Nat) : (thaw ρ)[i]? = match ρ[i]? with
    | some (.own ds) => some (.py (.list ds))
    | o => o := by
  unfold thaw
  rw [List.getElem?_map]
  cases ρ[i]? with
  | none => rfl
  | some s => cases s <;> rfl
theorem thaw_length (ρ : En) : (thaw ρ).length = ρ.length := by
  unfold thaw
  rw [List.length_map]
/-- the lists that are being made are read as data -/
theorem EnvOk.thaw (E : EnvOk K F0 H0 F H σ ρ) : ∃ Ft, EnvOk K F0 H0 Ft H σ (thaw ρ) ∧ Same F Ft := by
  classical
  let O : Addr → Prop := fun a => ∃ (i : Nat) (ds : List D), ρ[i]? = some (.own ds) ∧ σ[i]? = some (some (V.ref a))
  have nO : ∀ a, O a → F a = none ∧ H0 a = none ∧ H a ≠ none := fun a ⟨i, ds, h1, h2⟩ => by
    obtain ⟨a', vs, g1, g2, g3, g4, _⟩ := E.own i ds h1
    rw [h2] at g1
    cases g1
    exact ⟨g3, g4, by rw [g2]; simp⟩
  let Ft : Hp := fun a => if O a then H a else F a
  have s1 : Same F Ft := fun b u e => by
    show (if O b then H b else F b) = some u
    by_cases h : O b
    · rw [(nO b h).1] at e
      cases e
    · rw [if_neg h]
      exact e
  have s2 : Same Ft H := fun b u e => by
    have e' : (if O b then H b else F b) = some u := e
    by_cases h : O b
    · rw [if_pos h] at e'
      exact e'
    · rw [if_neg h] at e'
      exact E.s b u e'
  refine ⟨Ft, ⟨⟨E.g.h, E.g.f.trans s1, s2, fun a ha => ?_⟩, by rw [thaw_length]; exact E.len, fun i d e => ?_, fun i ds e => ?_⟩, s1⟩
  · have ha' : (if O a then H a else F a) ≠ none := ha
    by_cases h : O a
    · exact .inr (nO a h).2.1
    · rw [if_neg h] at ha'
      exact E.g.n a ha'
  · rw [thaw_get] at e
    cases r : ρ[i]? with
    | none => rw [r] at e; cases e
    | some s =>
      rw [r] at e
      cases s with
      | un => cases e
      | py d' =>
        cases e
        obtain ⟨v, h1, h2⟩ := E.py i _ r
        exact ⟨v, h1, h2.same s1⟩
      | own ds =>
        cases e
        obtain ⟨a, vs, h1, h2, h3, h4, h5, _⟩ := E.own i ds r
        refine ⟨.ref a, h1, .lst ?_ (h5.same s1)⟩
        show (if O a then H a else F a) = _
        rw [if_pos ⟨i, ds, r, h1⟩]
        exact h2
  · rw [thaw_get] at e
    cases r : ρ[i]? with
    | none => rw [r] at e; cases e
    | some s =>
      rw [r] at e
      cases s <;> cases e
/-- the state moved, the slots' lists as they were -/
theorem EnvOk.back {Ft : Hp} (E : EnvOk K F0 H0 F H σ ρ) (s : Same F Ft) {F2 H2 : Hp} (g : Grow Ft H F2 H2) : EnvOk K F0 H0 F H2 σ ρ := by
  have sm : Same F H2 := (s.trans g.f).trans g.s
  refine ⟨⟨E.g.h.trans g.h, E.g.f, sm, E.g.n⟩, E.len, E.py, fun i ds e => ?_⟩
  obtain ⟨a, vs, h1, h2, h3, h4, h5, h6⟩ := E.own i ds e
  exact ⟨a, vs, h1, g.h _ _ h2, h3, h4, h5, h6⟩
theorem scal_dn {F F' : Hp} {v : V} {d : D} (h : Dn K F v d) (s : scalD d = true) : Dn K F' v d := by
  cases h <;> first | (cases s; done) | skip
  · exact .non
  · exact .bl _
  · exact .int _
  · exact .str _
/-- an expression of a statement -/
theorem ex_rd {m : M} {kont : D → En → SO} {R : VK} (E : EnvOk K F0 H0 F H σ ρ) (f : FinS K W cl F0 H0 F (evX cal ρ m kont) D')
    (q : ∀ d v F1 H1 ρ1, LenOk K H1 → EnvOk K F0 H0 F1 H1 σ ρ1 → Same F F1 → Dn K F1 v d → (ρ1 = ρ ∨ ρ1 = thaw ρ) → FinS K W cl F0 H0 F1 (kont d ρ1) D' → R v H1) : tE K W cl cal m σ H R := by
  unfold evX at f
  by_cases hm : ment ρ m = true
  · rw [if_pos hm] at f
    obtain ⟨Ft, Et, st⟩ := E.thaw
    refine ⟨F0, H0, thaw ρ, Ft, Et, ?_⟩
    cases o : evE cal (thaw ρ) m with
    | bad => rw [o] at f; exact f
    | exc c =>
      rw [o] at f
      exact fun F' H' g' => f σ F H' (E.back st g')
    | ok d =>
      rw [o, wth_ok] at f
      intro v F2 H2 L2 g2 r2
      by_cases hs : scalD d = true
      · rw [if_pos hs] at f
        exact q d v F H2 ρ L2 (E.back st g2) (Same.refl F) (scal_dn r2 hs) (.inl rfl) f
      · rw [if_neg hs] at f
        exact q d v F2 H2 (thaw ρ) L2 (Et.grow g2) (st.trans g2.f) r2 (.inr rfl) (f.mono (st.trans g2.f))
  · rw [if_neg hm] at f
    refine ⟨F0, H0, ρ, F, E, ?_⟩
    cases o : evE cal ρ m with
    | bad => rw [o] at f; exact f
    | exc c =>
      rw [o] at f
      exact fun F' H' g' => f σ F' H' (E.grow g')
    | ok d =>
      rw [o, wth_ok] at f
      intro v F2 H2 L2 g2 r2
      exact q d v F2 H2 ρ L2 (E.grow g2) g2.f r2 (.inl rfl) (f.mono g2.f)
/-- a statement's test -/
def byB (A B : SO) : D → SO := fun d => match d with
  | .bool true => A
  | .bool false => B
  | _ => .bad
theorem ts_rd {m : M} {A B : SO} {R : Bool → Hp → Prop} (E : EnvOk K F0 H0 F H σ ρ) (f : FinS K W cl F0 H0 F ((evE cal (thaw ρ) m).wth (byB A B) ρ) D')
    (q : ∀ b H1, EnvOk K F0 H0 F H1 σ ρ → FinS K W cl F0 H0 F (if b = true then A else B) D' → R b H1) : tT K W cl cal m σ H R := by
  obtain ⟨Ft, Et, st⟩ := E.thaw
  refine ⟨F0, H0, thaw ρ, Ft, Et, ?_⟩
  cases o : evE cal (thaw ρ) m with
  | bad => rw [o] at f; exact f
  | exc c =>
    rw [o] at f
    exact fun F' H' g' => f σ F H' (E.back st g')
  | ok d =>
    rw [o, wth_ok] at f
    unfold byB at f
    cases d <;> first | exact False.elim f | skip
    rename_i b
    intro b' F2 H2 L2 g2 r2
    have e : b' = b := r2
    subst e
    refine q b' H2 (E.back st g2) ?_
    cases b' <;> exact f
/-- a slot takes a new list that is being made -/
theorem EnvOk.setOwn {p : Addr} {vs : List V} {ds : List D} (E : EnvOk K F0 H0 F H σ ρ) (hp : H p = some (.lst vs)) (nF : F p = none) (n0 : H0 p = none) (a : DnAll K F vs ds) (i : Nat)
    (hn : ∀ (j : Nat) (ds' : List D), ρ[j]? = some (.own ds') → σ[j]? ≠ some (some (V.ref p))) : EnvOk K F0 H0 F H (σ.set i (some (.ref p))) (ρ.set i (.own ds)) := by
  refine ⟨E.g, by rw [List.length_set, List.length_set]; exact E.len, fun j d' e => ?_, fun j ds1 e => ?_⟩
  · rw [List.getElem?_set] at e
    split at e
    · split at e <;> cases e
    · rename_i hij
      rw [List.getElem?_set, if_neg hij]
      exact E.py j d' e
  · rw [List.getElem?_set] at e
    split at e
    · rename_i hij
      split at e
      · rename_i hl
        cases e
        subst hij
        refine ⟨p, vs, by rw [List.getElem?_set, if_pos rfl, if_pos (by rw [E.len]; exact hl)], hp, nF, n0, a, fun j ds' hj hr z => ?_⟩
        rw [List.getElem?_set, if_neg (Ne.symm hj)] at hr z
        exact hn j ds' hr z
      · cases e
    · rename_i hij
      obtain ⟨b, xs, h1, h2, h3, h4, h5, h6⟩ := E.own j ds1 e
      refine ⟨b, xs, by rw [List.getElem?_set, if_neg hij]; exact h1, h2, h3, h4, h5, fun j' ds' hj hr z => ?_⟩
      rw [List.getElem?_set] at hr z
      split at hr
      · rename_i e2
        rw [if_pos e2] at z
        split at z
        · cases z
          exact hn j ds1 e h1
        · cases z
      · rename_i hij2
        rw [if_neg hij2] at z
        exact h6 j' ds' hj hr z
/-- a list that is being made is changed -/
theorem EnvOk.updOwn {p : Addr} {vs : List V} {ds ds' : List D} {i : Nat} (E : EnvOk K F0 H0 F H σ ρ) (hr : ρ[i]? = some (.own ds)) (hs : σ[i]? = some (some (V.ref p))) (a : DnAll K F vs ds') : EnvOk K F0 H0 F (upd H p (.lst vs)) σ (ρ.set i (.own ds')) := by
  obtain ⟨p', vs0, h1, h2, h3, h4, h5, h6⟩ := E.own i ds hr
  rw [hs] at h1
  cases h1
  have hl : i < ρ.length := (List.getElem?_eq_some_iff.mp hr).1
  have sm : Same F (upd H p (.lst vs)) := fun b u e => by
    rw [upd_ne (ne_of_none e h3)]
    exact E.s b u e
  refine ⟨⟨fun b u e => ?_, E.g.f, sm, E.g.n⟩, by rw [List.length_set]; exact E.len, fun j d' e => ?_, fun j ds1 e => ?_⟩
  · rw [upd_ne (ne_of_none e h4)]
    exact E.g.h b u e
  · rw [List.getElem?_set] at e
    split at e
    · first | cases e | (split at e <;> cases e)
    · exact E.py j d' e
  · rw [List.getElem?_set] at e
    split at e
    · rename_i hij
      subst hij
      cases e
      refine ⟨p, vs, hs, upd_same, h3, h4, a, fun j ds2 hj hr2 z => ?_⟩
      rw [List.getElem?_set, if_neg (Ne.symm hj)] at hr2
      exact h6 j ds2 hj hr2 z
    · rename_i hij
      obtain ⟨b, xs, g1, g2, g3, g4, g5, g6⟩ := E.own j ds1 e
      have hb : b ≠ p := fun z => h6 j ds1 (Ne.symm hij) e (by rw [g1, z])
      refine ⟨b, xs, g1, by rw [upd_ne hb]; exact g2, g3, g4, g5, fun j' ds2 hj hr2 z => ?_⟩
      rw [List.getElem?_set] at hr2
      split at hr2
      · rename_i e2
        subst e2
        rw [hs] at z
        cases z
        exact hb rfl
      · exact g6 j' ds2 hj hr2 z
end

/-- where a statement stands -/
structure Cs (g : Pg) (N : List Str) (cl : Nat → Addr) (k : Nat) (cal : Nat → List D → Out D) (X : Cx) (W : WX) (sc : Scope) : Prop extends Ck g N cl k cal X W sc where
  fn : ∀ x, X.fn x = true
  po : PassesOwn (model X.prog X.w) X.A X.env X.xe
  kd : sc.kind = .function
  stk : X.stack = X.env :: X.outer
  frm : X.env.frame = some X.env.locals
section
variable {g : Pg} {N : List Str} {cl : Nat → Addr} {k : Nat} {cal : Nat → List D → Out D} {X : Cx} {W : WX} {sc : Scope} {a b c m as : M} {e l r tg : Expr} {es : List Expr} {pos : Pos}
theorem Cs.tk' (C : Cs g N cl k cal X W sc) : Tk N (fun _ => true) sc X := ⟨C.eN, C.nd, C.eS, C.calm, fun x _ => C.fn x⟩
theorem notLC_none (h : notLC e = true) (t : Option Expr) (ln : Nat) (env : Env) : swapsWith e t ln env = pure false := by
  cases e <;> first | rfl | cases h
theorem p_xpr (C : Cs g N cl k cal X W sc) (hn : notLC e = true) (he : PE X e (tE X.K W cl cal a)) : PS X (.Expr e pos) (tS X.K W cl cal (.xpr a)) :=
  ⟨fun pins s σ H D' I ⟨F0, H0, ρ, F, E, f⟩ => (ps_expr he (notLC_none hn _ _ _)).run pins s σ H D' I (by
    simp only [evS] at f
    exact ex_rd E f fun d v F1 H1 ρ1 L E1 s1 r1 _ f1 => f1 σ F1 H1 E1 (Same.refl F1))⟩
theorem p_ret (C : Cs g N cl k cal X W sc) (he : PE X e (tE X.K W cl cal a)) : PS X (.Return (some e) pos) (tS X.K W cl cal (.ret a)) :=
  ⟨fun pins s σ H D' I ⟨F0, H0, ρ, F, E, f⟩ => (ps_ret he).run pins s σ H D' I (by
    simp only [evS] at f
    obtain ⟨Ft, Et, st⟩ := E.thaw
    refine ⟨F0, H0, thaw ρ, Ft, Et, ?_⟩
    cases o : evE cal (thaw ρ) a with
    | bad => rw [o] at f; exact f
    | exc c =>
      rw [o] at f
      exact fun F' H' g' => f σ F H' (E.back st g')
    | ok d =>
      rw [o, wth_ok] at f
      exact fun v F' H' L g' r' => f v F' H' (Et.g.trans g') r')⟩
theorem p_ifs (C : Cs g N cl k cal X W sc) {t : Expr} {x y : List Stmt} (hc : PT X t (tT X.K W cl cal c)) (ha : PSs X x (tS X.K W cl cal a)) (hb : PSs X y (tS X.K W cl cal b)) : PS X (.If t x y pos) (tS X.K W cl cal (.ifs c a b)) :=
  ⟨fun pins s σ H D' I ⟨F0, H0, ρ, F, E, f⟩ => (ps_if hc ha hb).run pins s σ H D' I (by
    simp only [evS] at f
    refine ts_rd (A := evS cal a ρ) (B := evS cal b ρ) E f fun bb H1 E1 f1 => ?_
    cases bb with
    | true => exact ⟨F0, H0, ρ, F, E1, f1⟩
    | false => exact ⟨F0, H0, ρ, F, E1, f1⟩)⟩
theorem p_sq {st : Stmt} {rest : List Stmt} (ha : PS X st (tS X.K W cl cal a)) (hb : PSs X rest (tS X.K W cl cal b)) : PSs X (st :: rest) (tS X.K W cl cal (.sq a b)) :=
  ⟨fun pins s σ H D' I ⟨F0, H0, ρ, F, E, f⟩ => (pss_cons ha hb).run pins s σ H D' I (by
    simp only [evS] at f
    refine ⟨F0, H0, ρ, F, E, ?_⟩
    cases o : evS cal a ρ with
    | bad => rw [o] at f; exact f
    | ret d => rw [o] at f; exact f
    | exc c ρ' => rw [o] at f; exact f
    | nx ρ' =>
      rw [o] at f
      exact fun σ' F' H' E' s' => ⟨F0, H0, ρ', F', E', FinS.mono s' f⟩)⟩
theorem p_nil : PSs X [] (tS X.K W cl cal .nil) :=
  ⟨fun pins s σ H D' I ⟨F0, H0, ρ, F, E, f⟩ => pss_nil.run pins s σ H D' I (f σ F H E (Same.refl F))⟩
theorem p_pass : PS X (.Pass pos) (tS X.K W cl cal .pass) :=
  ⟨fun pins s σ H D' I ⟨F0, H0, ρ, F, E, f⟩ => ps_pass.run pins s σ H D' I (f σ F H E (Same.refl F))⟩
theorem p_whl (C : Cs g N cl k cal X W sc) {t : Expr} {x : List Stmt} (hc : PT X t (tT X.K W cl cal c)) (hb : PSs X x (tS X.K W cl cal b)) : PS X (.While t x [] pos) (tS X.K W cl cal (.whl c b)) :=
  ⟨fun pins s σ H D' I ⟨F0, H0, ρ, F, E, f⟩ => (ps_while C.po hc hb).run pins s σ H D' I (by
    simp only [evS] at f
    refine ⟨fun n σ H => ∃ ρ F, EnvOk X.K F0 H0 F H σ ρ ∧ FinS X.K W cl F0 H0 F (whL (fun ρ' => evE cal (thaw ρ') c) (fun ρ' => evS cal b ρ') n ρ) D', ⟨whMax, ρ, F, E, f⟩, ?_⟩
    rintro n σ1 H1 ⟨ρ1, F1, E1, f1⟩
    cases n with
    | zero => exact False.elim f1
    | succ n =>
      have f2 : FinS X.K W cl F0 H0 F1 ((evE cal (thaw ρ1) c).wth (byB (match evS cal b ρ1 with
          | .nx ρ' => whL (fun ρ' => evE cal (thaw ρ') c) (fun ρ' => evS cal b ρ') n ρ'
          | o => o) (.nx ρ1)) ρ1) D' := by
        simp only [whL] at f1
        cases o : evE cal (thaw ρ1) c with
        | bad => rw [o] at f1; exact f1
        | exc z => rw [o] at f1; exact f1
        | ok d =>
          rw [o] at f1
          cases d <;> first | exact f1 | skip
          rename_i bb
          cases bb <;> exact f1
      refine ts_rd E1 f2 fun bb H2 E2 f3 => ?_
      cases bb with
      | false => exact f3 σ1 F1 H2 E2 (Same.refl F1)
      | true =>
        refine ⟨fun σ' H' => ∃ ρ F, EnvOk X.K F0 H0 F H' σ' ρ ∧ FinS X.K W cl F0 H0 F (whL (fun ρ' => evE cal (thaw ρ') c) (fun ρ' => evS cal b ρ') n ρ) D', fun σ' H' q => ⟨n, Nat.lt_succ_self n, q⟩, F0, H0, ρ1, F1, E2, ?_⟩
        cases o : evS cal b ρ1 with
        | bad => rw [o] at f3; exact f3
        | ret d => rw [o] at f3; exact f3
        | exc z ρ' => rw [o] at f3; exact f3
        | nx ρ' =>
          rw [o] at f3
          exact fun σ' F' H' E' s' => ⟨ρ', F', E', FinS.mono s' f3⟩)⟩
theorem p_fr (C : Cs g N cl k cal X W sc) {iter : Expr} {x : List Stmt} {t : Tg} {it : M} {tmp : List Nat} (hi : PI X tg iter (tI X.K W cl cal it)) (hT : PG X tg (gT X.K t)) (hb : PSs X x (tS X.K W cl cal b)) (hs : ∀ x, foldedSetIterable iter X.env x = pure x) :
    PS X (.For tg iter x [] pos) (tS X.K W cl cal (.fr t it b tmp)) :=
  ⟨fun pins s σ H D' I ⟨F0, H0, ρ, F, E, f⟩ => (ps_for C.po C.calm hi hT hb hs).run pins s σ H D' I (by
    simp only [evS] at f
    split at f
    · exact False.elim f
    · refine ⟨F0, H0, ρ, F, E, ?_⟩
      cases oi : evI cal ρ it with
      | bad => rw [oi] at f; exact f
      | exc z =>
        rw [oi] at f
        exact fun F' H' g' => f σ F' H' (E.grow g')
      | ok xs =>
        rw [oi] at f
        intro J F1 H1 L1 g1 ⟨lx, wk⟩
        have E1 := E.grow g1
        simp only at f
        refine for_it wk (fun i σ' H' => ∃ F' ρi, EnvOk X.K F0 H0 F' H' σ' ρi ∧ Same F1 F' ∧ FinS X.K W cl F0 H0 F' (forL (fun x ρ' => match asgT t x ρ' with
          | some ρ2 => evS cal b ρ2
          | none => .bad) tmp (xs.drop i) ρi) D') ⟨F1, ρ, E1, Same.refl F1, f.mono g1.f⟩ (fun i σ' H' _ ⟨F', ρi, E', s', _⟩ => s'.trans E'.s) ?_ ?_
        · rintro i v σ2 H2 H3 hi ⟨F2, ρi, E2, s2, f2⟩ hy
          obtain ⟨F3, d, g3, hd, rd⟩ := hy F2 s2 E2.s
          have hdr : xs.drop i = d :: xs.drop (i + 1) := by
            obtain ⟨h1, h2⟩ := List.getElem?_eq_some_iff.mp hd
            rw [← h2]
            exact List.drop_eq_getElem_cons h1
          rw [hdr] at f2
          have E3 := E2.grow g3
          simp only [forL] at f2
          cases oa : asgT t d ρi with
          | none => rw [oa] at f2; exact False.elim f2
          | some ρ2 =>
            rw [oa] at f2
            simp only at f2
            refine gT_rd oa rd E3 fun σ4 E4 _ => ⟨F0, H0, ρ2, F3, E4, ?_⟩
            cases ob : evS cal b ρ2 with
            | bad => rw [ob] at f2; exact f2
            | ret d => rw [ob] at f2; exact f2
            | exc z ρ' => rw [ob] at f2; exact f2
            | nx ρ' =>
              rw [ob] at f2
              exact fun σ' F' H' E' s' => ⟨F', fgt ρ' tmp, E'.fgt tmp, (s2.trans g3.f).trans s', FinS.mono (g3.f.trans s') f2⟩
        · rintro σ2 H2 ⟨F2, ρi, E2, s2, f2⟩
          rw [List.drop_length] at f2
          exact f2 σ2 F2 H2 E2 (Same.refl F2))⟩
end
end Mz

/-! Part 13: stores; all statements; defs. -/
namespace Mz
open PySem PySem.Spec PyProof.Rows L2
section
variable {g : Pg} {N : List Str} {cl : Nat → Addr} {k : Nat} {cal : Nat → List D → Out D} {X : Cx} {W : WX} {sc : Scope} {a b c m as : M} {e l r tg : Expr} {es : List Expr} {pos : Pos}

/-! ### name = .., a, b = .. -/
theorem asg_fin {F0 H0 F : Hp} {σ : L2.St} {H : Hp} {ρ : En} {t : Tg} {D' : Ends} {v : V} {d : D} (E : EnvOk X.K F0 H0 F H σ ρ) (r : Dn X.K F v d) (f : FinS X.K W cl F0 H0 F (match asgT t d ρ with
    | some ρ2 => .nx ρ2
    | none => .bad) D') : gT X.K t v σ H D'.nx := by
  cases oa : asgT t d ρ with
  | none => rw [oa] at f; exact False.elim f
  | some ρ2 =>
    rw [oa] at f
    exact gT_rd oa r E fun σ2 E2 _ => f σ2 F H E2 (Same.refl F)
theorem asg_rd {t : Tg} {σ : L2.St} {H : Hp} {D' : Ends} (h : tS X.K W cl cal (.asg t a) D' σ H) : tAsg (tE X.K W cl cal a) (gT X.K t) D' σ H := by
  obtain ⟨F0, H0, ρ, F, E, f⟩ := h
  simp only [evS] at f
  exact ex_rd E f fun d v F1 H1 ρ1 L E1 s1 r1 _ f1 => asg_fin E1 r1 f1
theorem fm_lt {α β : Type} (f : α → Option β) : ∀ (l : List α), (∃ a ∈ l, f a = none) → (l.filterMap f).length < l.length
  | [], ⟨_, h, _⟩ => by cases h
  | x :: r, ⟨a, h, e⟩ => by
    rw [List.filterMap_cons]
    rcases List.mem_cons.mp h with rfl | h
    · rw [e]
      exact Nat.lt_succ_of_le (List.length_filterMap_le f r)
    · have ih := fm_lt f r ⟨a, h, e⟩
      cases f x with
      | none => exact Nat.lt_succ_of_lt ih
      | some y => exact Nat.succ_lt_succ ih
theorem sw_nloc {ts vs : List Expr} {k k2 : Nat} {p p2 : Pos} {env : Env} (h : ts.any (nloc env.scope) = true) : swappedStores [.Tuple ts k p] (.Tuple vs k2 p2) env = pure none := by
  unfold swappedStores
  simp only []
  split
  · rfl
  · split
    · rfl
    · rw [if_pos]
      rw [Bool.or_eq_true]
      refine .inl ?_
      rw [bne_iff_ne]
      refine Nat.ne_of_lt (fm_lt _ _ ?_)
      obtain ⟨t, ht, hn⟩ := List.any_eq_true.mp h
      refine ⟨t, ht, ?_⟩
      cases t <;> first | (cases hn; done) | skip
      rename_i x px
      have hk : (env.kindOf x == some .local) = false := by
        rw [beq_eq_false_iff_ne]
        exact of_decide_eq_true hn
      simp only [hk, Bool.false_and]
      rfl
theorem p_asg (C : Cs g N cl k cal X W sc) {t : Tg} {p : Pos} (hT : mT N (fun _ => true) sc t tg = true) (he : PE X e (tE X.K W cl cal a)) (hn : notLC e = true ∨ isTup tg = true) (ht : isTup tg = false ∨ isTup e = false ∨ ∃ ts k2 p2, tg = .Tuple ts k2 p2 ∧ ts.any (nloc sc) = true) :
    PS X (.Assign [tg] e p) (tS X.K W cl cal (.asg t a)) := by
  have hG := mT_ok C.tk' hT
  have h1 : (assignEach [tg] X.env).map (·.2) = [assign tg X.env] := by
    unfold mT at hT
    split at hT
    · rw [tgN_star hT] <;> rfl
    · rfl
    · cases hT
  have hs : swapsWithSole [tg] e p.line X.env = pure false := by
    rcases hn with hn | hn
    · exact notLC_none hn _ _ _
    · cases tg <;> first | cases hn | skip
      cases e <;> rfl
  have hk : isTup tg = true ∨ ∃ x px, tg = .Name x px := by
    unfold mT at hT
    split at hT
    · unfold tgN at hT
      split at hT
      · exact .inr ⟨_, _, rfl⟩
      · cases hT
    · exact .inl rfl
    · cases hT
  have hw : swappedStores [tg] e X.env = pure none := by
    rcases hk with hk | ⟨x, px, hk⟩
    · rcases ht with ht | ht | ⟨ts, k2, p2, rfl, ht⟩
      · rw [hk] at ht
        cases ht
      rotate_left
      · cases e <;> first | rfl | skip
        refine sw_nloc ?_
        rw [C.eS]
        exact ht
      · cases tg <;> first | (cases hk; done) | skip
        cases e <;> first | (cases ht; done) | rfl
    · subst hk
      cases e <;> rfl
  exact ⟨fun pins s σ H D' I h => (ps_asg he hG hs hw h1).run pins s σ H D' I (asg_rd h)⟩
/-- a comprehension's own statement -/
theorem sw_cell {elt : Expr} {gs : List Comprehension} {scope : Scope} {pos py : Pos} {y : Str} {ln : Nat} {env : Env} (hy : env.scope.names.lookup y = some .cell) : swapsWith (.ListComp elt gs scope pos) (some (.Name y py)) ln env = pure false := by
  have ky : env.kindOf y = some .cell := hy
  unfold swapsWith
  simp only [ky]
  have e : ((some NameKind.cell == some NameKind.local) : Bool) = false := by decide
  rw [e, Bool.and_false, Bool.false_and, Bool.false_and]
theorem p_lc (C : Cs g N cl k cal X W sc) {ow : List (Str × Nat)} {t : Tg} {it c e0 : M} {elt tg2 iter : Expr} {ifs : List Expr} {scope : Scope} {i : Nat} {x : Str} {px pv p : Pos} {tt : TS}
    (hx : tgN N (fun _ => true) sc i (.Name x px) = true) (L : LcOk g N cl k cal sc X W ow t it c e0 elt tg2 iter ifs scope) (hsw : (swL sc x px p.line scope pv || decide (sc.names.lookup x = some .cell)) = true)
    (rd : ∀ σ H D', tt D' σ H → tAsg (tLc (tI X.K W cl cal it) (gT X.K t) (tC X.K W0 cl cal c) (tE X.K W0 cl cal e0) (ow.map (·.2))) (gName i) D' σ H) : PS X (.Assign [.Name x px] (.ListComp elt [⟨tg2, iter, ifs, 0⟩] scope pv) p) tt := by
  have hN : X.N.Nodup := by
    rw [C.eN]
    exact C.nd
  have hG := tgN_ok C.tk' hx
  unfold tgN at hx
  simp only [Bool.and_eq_true, decide_eq_true_eq] at hx
  have hi : X.N[i]? = some x := by
    rw [C.eN]
    exact hx.1.1
  rcases Bool.or_eq_true_iff.mp hsw with hsw | hsw
  · unfold swL at hsw
    simp only [Bool.and_eq_true, decide_eq_true_eq, Bool.not_eq_true'] at hsw
    obtain ⟨⟨h1, h2⟩, h3⟩ := hsw
    have hy : X.env.scope.names.lookup x = some .local := by
      rw [C.eS]
      exact h1
    refine ⟨fun pins s σ H D' I h => (ps_setLc C.calm hN hi hy (sw_true (by rw [C.eS]; exact C.kd) hy h2 h3) L.hi L.blk L.hg L.ht L.he L.hs).run pins s σ H D' I (rd σ H D' h)⟩
  · have hy : X.env.scope.names.lookup x = some .cell := by
      rw [C.eS]
      exact of_decide_eq_true hsw
    have pe := pe_lc (pos := pv) C.calm hN L.hi L.blk L.hg L.ht L.he L.hs
    exact ⟨fun pins s σ H D' I h => (ps_asg pe hG (show swapsWithSole [.Name x px] (.ListComp elt [⟨tg2, iter, ifs, 0⟩] scope pv) p.line X.env = pure false from sw_cell (ln := p.line) hy) rfl rfl).run pins s σ H D' I (rd σ H D' h)⟩
theorem p_asgLc (C : Cs g N cl k cal X W sc) {ow : List (Str × Nat)} {t : Tg} {it c e0 : M} {elt tg2 iter : Expr} {ifs : List Expr} {scope : Scope} {i : Nat} {x : Str} {px pv p : Pos}
    (hx : tgN N (fun _ => true) sc i (.Name x px) = true) (L : LcOk g N cl k cal sc X W ow t it c e0 elt tg2 iter ifs scope) (hsw : (swL sc x px p.line scope pv || decide (sc.names.lookup x = some .cell)) = true) :
    PS X (.Assign [.Name x px] (.ListComp elt [⟨tg2, iter, ifs, 0⟩] scope pv) p) (tS X.K W cl cal (.asg (.n i) (.lc ow t it c e0))) :=
  p_lc C hx L hsw fun σ H D' ⟨F0, H0, ρ, F, E, f⟩ => by
    simp only [evS] at f
    unfold evX at f
    show tLc _ _ _ _ _ σ H fun v H' => gName i v σ H' D'.nx
    have go : ∀ (ρ1 : En) (F1 : Hp), EnvOk X.K F0 H0 F1 H σ ρ1 → Same F F1 → FinS X.K W cl F0 H0 F ((evE cal ρ1 (.lc ow t it c e0)).wth (fun d => match asgT (.n i) d ρ1 with
        | some ρ2 => .nx ρ2
        | none => .bad) ρ) D' → tLc (tI X.K W cl cal it) (gT X.K t) (tC X.K W0 cl cal c) (tE X.K W0 cl cal e0) (ow.map (·.2)) σ H fun v H' => gName i v σ H' D'.nx := fun ρ1 F1 E1 s1 f1 => by
      refine rd_lc L.hT E1 ?_
      rw [evE_lc] at f1
      cases o : ((evI cal ρ1 it).bnd fun xs => compL (turnL cal ρ1 ow t c e0) xs) with
      | bad => rw [o] at f1; exact f1
      | exc z =>
        rw [o] at f1
        exact fun F' H' g' => f1 σ F H' (E.back s1 g')
      | ok ds =>
        rw [o, bnd_ok, wth_ok] at f1
        intro q vs F' H' g' n e nf al
        exact f1 _ _ H' ((E1.grow (g'.take n e nf)).set (.lst upd_same (al.same (same_new nf))) i) (s1.trans (g'.take n e nf).f)
    by_cases hm : ment ρ (.lc ow t it c e0) = true
    · rw [if_pos hm] at f
      obtain ⟨Ft, Et, st⟩ := E.thaw
      refine go _ Ft Et st ?_
      cases o : evE cal (thaw ρ) (.lc ow t it c e0) with
      | bad => rw [o] at f; exact f
      | exc z => rw [o] at f; exact f
      | ok d =>
        rw [o, wth_ok] at f
        rw [wth_ok]
        have hd : scalD d = false := by
          rw [evE_lc] at o
          cases o2 : ((evI cal (thaw ρ) it).bnd fun xs => compL (turnL cal (thaw ρ) ow t c e0) xs) <;> rw [o2] at o <;> cases o
          rfl
        rw [hd] at f
        exact f
    · rw [if_neg hm] at f
      exact go ρ F E (Same.refl F) f

/-! ### name = a new list that is being made -/
def toL : Out D → Out (List D)
  | .ok (.list ds) => .ok ds
  | .exc c => .exc c
  | _ => .bad
def tFr (K : PySem.W.Frag) (W : WX) (cl : Nat → Addr) (cal : Nat → List D → Out D) (m : M) : TE := fun σ H Q => ∃ F0 H0 ρ F, EnvOk K F0 H0 F H σ ρ ∧ FinF K W cl σ F H (toL (evE cal ρ m)) Q
theorem fr_lst (h : PA X es (tA X.K W cl cal as)) : PE X (.List es pos) (tFr X.K W cl cal (.lst as)) :=
  ⟨fun pins s σ H Q I ⟨F0, H0, ρ, F, E, f⟩ => (pe_lst h).run pins s σ H Q I (by
    refine ⟨F0, H0, ρ, F, E, ?_⟩
    simp only [evE] at f
    cases o : evA cal ρ as with
    | bad => rw [o] at f; exact f
    | exc c => rw [o] at f; exact f
    | ok ds =>
      rw [o, bnd_ok] at f
      intro vs F1 H1 L1 g1 r1
      split at f
      · rename_i hz
        refine ⟨by rw [r1.length, ← sz_eq]; exact hz, fun p np => ?_⟩
        exact f p vs F1 _ (g1.trans (Grow.side g1.s np)) (g1.h.free np) upd_same (g1.s.free np) r1
      · exact False.elim f)⟩
theorem fr_rep (ha : PE X l (tE X.K W cl cal (.lst as))) (hb : PE X r (tE X.K W cl cal b)) : PE X (.BinOp l .Mult r pos) (tFr X.K W cl cal (.bin .Mult (.lst as) b)) :=
  ⟨fun pins s σ H Q I ⟨F0, H0, ρ, F, E, f⟩ => (pe_op op_rep ha hb).run pins s σ H Q I (by
    refine ⟨F0, H0, ρ, F, E, ?_⟩
    have e0 : evE cal ρ (.bin .Mult (.lst as) b) = (evE cal ρ (.lst as)).bnd fun x => (evE cal ρ b).bnd fun y => opBin .Mult x y := by simp only [evE]
    rw [e0] at f
    cases o : evE cal ρ (.lst as) with
    | bad => rw [o] at f; exact f
    | exc c => rw [o] at f; exact f
    | ok d =>
      rw [o, bnd_ok] at f
      intro v F1 H1 L1 g1 r1
      have E1 := E.grow g1
      have f1 := f.grow g1
      refine ⟨F0, H0, ρ, F1, E1, ?_⟩
      cases o2 : evE cal ρ b with
      | bad => rw [o2] at f1; exact f1
      | exc c => rw [o2] at f1; exact f1
      | ok d2 =>
        rw [o2, bnd_ok] at f1
        intro v2 F2 H2 L2 g2 r2
        have f2 := f1.grow g2
        have hd : ∃ ds, d = .list ds := by
          simp only [evE] at o
          cases o3 : evA cal ρ as with
          | bad => rw [o3] at o; cases o
          | exc c => rw [o3] at o; cases o
          | ok ds =>
            rw [o3, bnd_ok] at o
            split at o <;> cases o
            exact ⟨_, rfl⟩
        obtain ⟨ds, e⟩ := hd
        subst e
        cases d2 <;> first | exact False.elim f2 | skip
        rename_i n
        simp only [opBin] at f2
        split at f2
        · rename_i hc
          obtain ⟨c1, c2, c3⟩ := hc
          cases r2
          cases r1 with
          | lst h al =>
            unfold two62 at c2
            refine ⟨_, n, _, rfl, rfl, (g2.f.trans g2.s) _ _ h, by omega, by omega, by rw [al.length, ← sz_eq]; exact c3, fun p np => ?_⟩
            exact f2 p _ F2 _ (Grow.side g2.s np) np upd_same (g2.s.free np) ((al.same g2.f).rep _)
        · exact False.elim f2)⟩
theorem fr_cat (ha : PE X l (tE X.K W cl cal a)) (hb : PE X r (tE X.K W cl cal b)) : PE X (.BinOp l .Add r pos) (tFr X.K W cl cal (.bin .Add a b)) :=
  ⟨fun pins s σ H Q I ⟨F0, H0, ρ, F, E, f⟩ => (pe_op op_cat ha hb).run pins s σ H Q I (by
    refine ⟨F0, H0, ρ, F, E, ?_⟩
    have e0 : evE cal ρ (.bin .Add a b) = (evE cal ρ a).bnd fun x => (evE cal ρ b).bnd fun y => opBin .Add x y := by simp only [evE]
    rw [e0] at f
    cases o : evE cal ρ a with
    | bad => rw [o] at f; exact f
    | exc c => rw [o] at f; exact f
    | ok d =>
      rw [o, bnd_ok] at f
      intro v F1 H1 L1 g1 r1
      have E1 := E.grow g1
      have f1 := f.grow g1
      refine ⟨F0, H0, ρ, F1, E1, ?_⟩
      cases o2 : evE cal ρ b with
      | bad => rw [o2] at f1; exact f1
      | exc c => rw [o2] at f1; exact f1
      | ok d2 =>
        rw [o2, bnd_ok] at f1
        intro v2 F2 H2 L2 g2 r2
        have f2 := f1.grow g2
        cases d <;> first | exact False.elim f2 | skip
        all_goals (cases d2 <;> first | exact False.elim f2 | skip)
        · simp only [opBin] at f2
          split at f2 <;> exact False.elim f2
        · simp only [opBin] at f2
          split at f2
          · rename_i hc
            cases r1 with
            | lst h1 a1 =>
              cases r2 with
              | lst h2 a2 =>
                refine ⟨_, _, _, _, rfl, rfl, (g2.f.trans g2.s) _ _ h1, g2.s _ _ h2, by rw [a1.length, a2.length, ← sz_eq]; exact hc, fun p np => ?_⟩
                exact f2 p _ F2 _ (Grow.side g2.s np) np upd_same (g2.s.free np) ((a1.same g2.f).append a2)
          · exact False.elim f2
        · simp only [opBin] at f2
          split at f2 <;> exact False.elim f2)⟩
theorem own_new {F0 H0 F H F' H' : Hp} {σ : L2.St} {ρ : En} {p : Addr} {vs : List V} {ds : List D} (E : EnvOk X.K F0 H0 F H σ ρ) (g' : Grow F H F' H') (n : H p = none) (e : H' p = some (.lst vs)) (nf : F' p = none) (al : DnAll X.K F' vs ds) (i : Nat) :
    EnvOk X.K F0 H0 F' H' (σ.set i (some (.ref p))) (ρ.set i (.own ds)) := by
  refine (E.grow g').setOwn e nf (E.g.h.free n) al i fun j ds' hj z => ?_
  obtain ⟨a, vs', h1, h2, _⟩ := E.own j ds' hj
  rw [z] at h1
  cases h1
  rw [n] at h2
  cases h2
theorem aso_f {F0 H0 F H : Hp} {σ : L2.St} {ρ : En} {D' : Ends} {i : Nat} {m : M} (E : EnvOk X.K F0 H0 F H σ ρ) (f : FinS X.K W cl F0 H0 F (evS cal (.aso i m) ρ) D') : FinF X.K W cl σ F H (toL (evE cal ρ m)) fun v H' => gName i v σ H' D'.nx := by
  simp only [evS] at f
  split at f
  · cases o : evE cal ρ m with
    | bad => rw [o] at f; exact f
    | exc c =>
      rw [o] at f
      exact fun F' H' g' => f σ F' H' (E.grow g')
    | ok d =>
      rw [o, wth_ok] at f
      cases d <;> first | exact f | skip
      exact fun p vs F' H' g' n e nf al => f _ F' H' (own_new E g' n e nf al i) g'.f
  · exact False.elim f
theorem p_aso (C : Cs g N cl k cal X W sc) {i : Nat} {p : Pos} (hx : tgN N (fun _ => true) sc i tg = true) (he : PE X e (tFr X.K W cl cal m)) (hn : notLC e = true) : PS X (.Assign [tg] e p) (tS X.K W cl cal (.aso i m)) := by
  have hG := tgN_ok C.tk' hx
  have h1 : (assignEach [tg] X.env).map (·.2) = [assign tg X.env] := by rw [tgN_star hx] <;> rfl
  have hw : swappedStores [tg] e X.env = pure none := by
    unfold tgN at hx
    split at hx
    · cases e <;> rfl
    · cases hx
  have hs : swapsWithSole [tg] e p.line X.env = pure false := notLC_none hn _ _ _
  exact ⟨fun pins s σ H D' I ⟨F0, H0, ρ, F, E, f⟩ => (ps_asg he hG hs hw h1).run pins s σ H D' I ⟨F0, H0, ρ, F, E, aso_f E f⟩⟩
theorem p_asoLc (C : Cs g N cl k cal X W sc) {ow : List (Str × Nat)} {t : Tg} {it c e0 : M} {elt tg2 iter : Expr} {ifs : List Expr} {scope : Scope} {i : Nat} {x : Str} {px pv p : Pos}
    (hx : tgN N (fun _ => true) sc i (.Name x px) = true) (L : LcOk g N cl k cal sc X W ow t it c e0 elt tg2 iter ifs scope) (hsw : (swL sc x px p.line scope pv || decide (sc.names.lookup x = some .cell)) = true) :
    PS X (.Assign [.Name x px] (.ListComp elt [⟨tg2, iter, ifs, 0⟩] scope pv) p) (tS X.K W cl cal (.aso i (.lc ow t it c e0))) :=
  p_lc C hx L hsw fun σ H D' ⟨F0, H0, ρ, F, E, f⟩ => by
    have q := aso_f E f
    rw [evE_lc] at q
    refine rd_lc L.hT E ?_
    cases o : ((evI cal ρ it).bnd fun xs => compL (turnL cal ρ ow t c e0) xs) with
    | bad => rw [o] at q; exact q
    | exc z => rw [o] at q; exact q
    | ok ds => rw [o] at q; exact q

/-! ### a, b = x, y -/
def isStar : Expr → Bool
  | .Starred .. => true
  | _ => false
theorem nstar_ok {m : M} {e : Expr} (h : mE g N sc m e = true) : isStar e = false := by
  cases e <;> first | rfl | (cases m <;> simp [mE] at h)
theorem p_par (C : Cs g N cl k cal X W sc) {i j : Nat} {x y : Str} {ea eb : Expr} {px py pt p : Pos} {kt k2 : Nat} {pt2 : Pos} (hij : i ≠ j) (h1 : N[i]? = some x) (h2 : N[j]? = some y)
    (hw : swP sc x y px py [ea, eb] = true) (ha : PE X ea (tE X.K W cl cal a)) (hb : PE X eb (tE X.K W cl cal b)) (ma : mE g N sc a ea = true) (mb : mE g N sc b eb = true) :
    PS X (.Assign [.Tuple [.Name x px, .Name y py] kt pt] (.Tuple [ea, eb] k2 pt2) p) (tS X.K W cl cal (.par i j a b)) := by
  have hN : X.N.Nodup := by
    rw [C.eN]
    exact C.nd
  have hi : X.N[i]? = some x := by
    rw [C.eN]
    exact h1
  have hj : X.N[j]? = some y := by
    rw [C.eN]
    exact h2
  unfold swP at hw
  simp only [Bool.and_eq_true, decide_eq_true_eq, Bool.not_eq_true'] at hw
  obtain ⟨⟨⟨⟨⟨w1, w2⟩, w3⟩, w4⟩, w5⟩, w6⟩ := hw
  have v1 : X.env.scope.names.lookup x = some .local := by
    rw [C.eS]
    exact w1
  have v2 : X.env.scope.names.lookup y = some .local := by
    rw [C.eS]
    exact w2
  have hsw : swappedStores [.Tuple [.Name x px, .Name y py] kt pt] (.Tuple [ea, eb] k2 pt2) X.env = pure (some [x, y]) := by
    have k1 : X.env.kindOf x = some .local := v1
    have k2 : X.env.kindOf y = some .local := v2
    have kb : X.env.blockKind = .function := by
      unfold Env.blockKind
      rw [C.eS, C.kd]
      rfl
    have s1 := nstar_ok ma
    have s2 := nstar_ok mb
    have w7 : py.line = px.line := (beq_iff_eq.mp w3).symm
    have s3 : ([ea, eb].any fun
        | .Starred .. => true
        | _ => false) = false := by
      show (isStar ea || (isStar eb || false)) = false
      rw [s1, s2]
      rfl
    unfold swappedStores
    simp only [kb, s3, w5, w6, Expr.pos, List.filterMap_cons, List.filterMap_nil, k1, k2, w7, List.head?_cons, Option.map_some, Option.getD_some, List.length_cons, List.length_nil, beq_self_eq_true, Bool.and_self, if_true]
    have e1 : (y == x) = false := by
      rw [beq_eq_false_iff_ne]
      exact Ne.symm w4
    have e0 : ([x, y].eraseDups.length != 0 + 1 + 1) = false := by
      simp [List.eraseDups, List.eraseDupsBy, List.eraseDupsBy.loop, e1]
    rw [if_neg (by decide), e0]
    refine Eq.trans (if_neg (fun h => Bool.noConfusion (s3.symm.trans h))) ?_
    rfl
  refine ⟨fun pins s σ H D' I ⟨F0, H0, ρ, F, E, f⟩ => (ps_par C.calm hN hi hj hij v1 v2 (pa_cons ha (pa_cons hb pa_nil (star_ok mb _ _)) (star_ok ma _ _)) hsw rfl).run pins s σ H D' I ?_⟩
  simp only [evS] at f
  obtain ⟨ρ, F, E, f⟩ : ∃ ρ F, EnvOk X.K F0 H0 F H σ ρ ∧ FinS X.K W cl F0 H0 F ((evE cal ρ a).wth (fun x => (evE cal ρ b).wth (fun y => .nx ((ρ.set i (.py x)).set j (.py y))) ρ) ρ) D' := by
    split at f
    · obtain ⟨Ft, Et, st⟩ := E.thaw
      exact ⟨_, Ft, Et, f.mono st⟩
    · exact ⟨ρ, F, E, f⟩
  refine ⟨F0, H0, ρ, F, E, ?_⟩
  cases o : evE cal ρ a with
  | bad => rw [o] at f; exact f
  | exc z => rw [o] at f; exact fun F' H' g' => f σ F' H' (E.grow g')
  | ok d1 =>
    rw [o, wth_ok] at f
    intro v1 F1 H1 L1 g1 r1
    have E1 := E.grow g1
    have f1 := f.mono g1.f
    refine ⟨F0, H0, ρ, F1, E1, ?_⟩
    cases o2 : evE cal ρ b with
    | bad => rw [o2] at f1; exact f1
    | exc z => rw [o2] at f1; exact fun F' H' g' => f1 σ F' H' (E1.grow g')
    | ok d2 =>
      rw [o2, wth_ok] at f1
      intro v2 F2 H2 L2 g2 r2
      have E2 := E1.grow g2
      exact ⟨v1, v2, rfl, f1 _ F2 H2 ((E2.set (r1.same g2.f) i).set r2 j) g2.f⟩

theorem p_par3 (C : Cs g N cl k cal X W sc) {i j l : Nat} {x y z : Str} {ea eb ec : Expr} {px py pz pt p : Pos} {kt k2 : Nat} {pt2 : Pos} (hij : i ≠ j) (hil : i ≠ l) (hjl : j ≠ l) (h1 : N[i]? = some x) (h2 : N[j]? = some y) (h3 : N[l]? = some z)
    (hw : swP3 sc x y z px py pz [ea, eb, ec] = true) (ha : PE X ea (tE X.K W cl cal a)) (hb : PE X eb (tE X.K W cl cal b)) (hc : PE X ec (tE X.K W cl cal c)) (ma : mE g N sc a ea = true) (mb : mE g N sc b eb = true) (mc : mE g N sc c ec = true) :
    PS X (.Assign [.Tuple [.Name x px, .Name y py, .Name z pz] kt pt] (.Tuple [ea, eb, ec] k2 pt2) p) (tS X.K W cl cal (.par3 i j l a b c)) := by
  have hN : X.N.Nodup := by
    rw [C.eN]
    exact C.nd
  have hi : X.N[i]? = some x := by
    rw [C.eN]
    exact h1
  have hj : X.N[j]? = some y := by
    rw [C.eN]
    exact h2
  have hl : X.N[l]? = some z := by
    rw [C.eN]
    exact h3
  unfold swP3 at hw
  simp only [Bool.and_eq_true, decide_eq_true_eq, Bool.not_eq_true'] at hw
  obtain ⟨⟨⟨⟨⟨⟨⟨⟨⟨w1, w2⟩, w3⟩, w4⟩, w5⟩, w6⟩, w7⟩, w8⟩, w9⟩, w10⟩ := hw
  have v1 : X.env.scope.names.lookup x = some .local := by
    rw [C.eS]
    exact w1
  have v2 : X.env.scope.names.lookup y = some .local := by
    rw [C.eS]
    exact w2
  have v3 : X.env.scope.names.lookup z = some .local := by
    rw [C.eS]
    exact w3
  have hsw : swappedStores [.Tuple [.Name x px, .Name y py, .Name z pz] kt pt] (.Tuple [ea, eb, ec] k2 pt2) X.env = pure (some [x, y, z]) := by
    have k1 : X.env.kindOf x = some .local := v1
    have k2 : X.env.kindOf y = some .local := v2
    have k3 : X.env.kindOf z = some .local := v3
    have kb : X.env.blockKind = .function := by
      unfold Env.blockKind
      rw [C.eS, C.kd]
      rfl
    have s1 := nstar_ok ma
    have s2 := nstar_ok mb
    have s4 := nstar_ok mc
    have q4 : py.line = px.line := (beq_iff_eq.mp w4).symm
    have q5 : pz.line = px.line := (beq_iff_eq.mp w5).symm
    have s3 : ([ea, eb, ec].any fun
        | .Starred .. => true
        | _ => false) = false := by
      show (isStar ea || (isStar eb || (isStar ec || false))) = false
      rw [s1, s2, s4]
      rfl
    unfold swappedStores
    simp only [kb, s3, w9, w10, Expr.pos, List.filterMap_cons, List.filterMap_nil, k1, k2, k3, q4, q5, List.head?_cons, Option.map_some, Option.getD_some, List.length_cons, List.length_nil, beq_self_eq_true, Bool.and_self, if_true]
    have e1 : (y == x) = false := by
      rw [beq_eq_false_iff_ne]
      exact Ne.symm w6
    have e2 : (z == x) = false := by
      rw [beq_eq_false_iff_ne]
      exact Ne.symm w7
    have e3 : (z == y) = false := by
      rw [beq_eq_false_iff_ne]
      exact Ne.symm w8
    have e0 : ([x, y, z].eraseDups.length != 0 + 1 + 1 + 1) = false := by
      simp [List.eraseDups, List.eraseDupsBy, List.eraseDupsBy.loop, e1, e2, e3]
    rw [if_neg (by decide), e0]
    refine Eq.trans (if_neg (fun h => Bool.noConfusion (s3.symm.trans h))) ?_
    rfl
  refine ⟨fun pins s σ H D' I ⟨F0, H0, ρ, F, E, f⟩ => (ps_par3 C.calm hN hi hj hl hij hil hjl v1 v2 v3 (pa_cons ha (pa_cons hb (pa_cons hc pa_nil (star_ok mc _ _)) (star_ok mb _ _)) (star_ok ma _ _)) hsw rfl).run pins s σ H D' I ?_⟩
  simp only [evS] at f
  split at f
  · exact False.elim f
  · refine ⟨F0, H0, ρ, F, E, ?_⟩
    cases o : evE cal ρ a with
    | bad => rw [o] at f; exact f
    | exc z => rw [o] at f; exact fun F' H' g' => f σ F' H' (E.grow g')
    | ok d1 =>
      rw [o, wth_ok] at f
      intro v1 F1 H1 L1 g1 r1
      have E1 := E.grow g1
      have f1 := f.mono g1.f
      refine ⟨F0, H0, ρ, F1, E1, ?_⟩
      cases o2 : evE cal ρ b with
      | bad => rw [o2] at f1; exact f1
      | exc z => rw [o2] at f1; exact fun F' H' g' => f1 σ F' H' (E1.grow g')
      | ok d2 =>
        rw [o2, wth_ok] at f1
        intro v2 F2 H2 L2 g2 r2
        have E2 := E1.grow g2
        have f2 := f1.mono g2.f
        refine ⟨F0, H0, ρ, F2, E2, ?_⟩
        cases o3 : evE cal ρ c with
        | bad => rw [o3] at f2; exact f2
        | exc z => rw [o3] at f2; exact fun F' H' g' => f2 σ F' H' (E2.grow g')
        | ok d3 =>
          rw [o3, wth_ok] at f2
          intro v3 F3 H3 L3 g3 r3
          have E3 := E2.grow g3
          exact ⟨v1, v2, v3, rfl, f2 _ F3 H3 (((E3.set ((r1.same g2.f).same g3.f) i).set (r2.same g3.f) j).set r3 l) g3.f⟩

/-! ### lists changed -/
theorem isOwn_at {ρ : En} {i : Nat} (h : isOwn ρ[i]? = true) : ∃ ds, ρ[i]? = some (.own ds) := by
  unfold isOwn at h
  split at h
  · exact ⟨_, by assumption⟩
  · cases h
theorem nm_pe (C : Cs g N cl k cal X W sc) {i : Nat} {x : Str} {p : Pos} (h1 : N[i]? = some x) (h2 : visB sc x = true) (h3 : plainNm x = true) : PE X (.Name x p) (tVar i) := by
  unfold plainNm at h3
  simp only [Bool.and_eq_true, Bool.not_eq_true'] at h3
  exact pe_var (by rw [C.eN]; exact h1) (C.vis h2) h3.1 h3.2
theorem p_app (C : Cs g N cl k cal X W sc) {i : Nat} {x mm : Str} {p ap cp p2 : Pos} {v : Expr} (hm : mm = "append") (hl : (ap.endLine == cp.line) = true) (h1 : N[i]? = some x) (h2 : visB sc x = true) (h3 : plainNm x = true) (hv : mE g N sc a v = true) (he : PE X v (tE X.K W cl cal a)) :
    PS X (.Expr (.Call (.Attribute (.Name x p) mm ap) [v] [] cp) p2) (tS X.K W cl cal (.app i a)) := by
  subst hm
  have hfew : ((backTo cp (starEach [v] X.env)).all (fun x => !x.1) && (backToKw cp (keywordEach [] X.env)).all (fun x => x.1.isSome)
      && decide ([v].length + ([] : List Keyword).length + (if ([] : List Keyword).isEmpty then 0 else 1) < 30)) = true := by
    rw [star_ok hv]
    rfl
  refine ⟨fun pins s σ H D' I ⟨F0, H0, ρ, F, E, f⟩ => (ps_expr (pe_bm PySem.F.plainAttrs_list PySem.F.slot_list_append PySem.F.type_list_append mt_append (nm_pe C h1 h2 h3) (pa_cons he pa_nil (star_ok hv _ _)) rfl hfew hl (star_ok hv _ _) rfl)).run pins s σ H D' I ?_⟩
  simp only [evS] at f
  split at f
  · rename_i ho
    obtain ⟨ds0, hr0⟩ := isOwn_at ho
    obtain ⟨q, vs0, e1, e2, _⟩ := E.own i ds0 hr0
    refine ⟨.ref q, e1, .inl ⟨rfl, _, SqL.of e2⟩, ?_⟩
    refine ex_rd E f fun d w F1 H1 ρ1 L E1 s1 r1 hρ f1 => ?_
    cases hr : ρ1[i]? with
    | none => rw [hr] at f1; exact False.elim f1
    | some sl =>
      rw [hr] at f1
      cases sl <;> first | exact False.elim f1 | skip
      rename_i ds
      simp only at f1
      split at f1
      · rename_i hz
        obtain ⟨q', vs, g1, g2, g3, g4, g5, _⟩ := E1.own i ds hr
        rw [e1] at g1
        cases g1
        have hlen := g5.length
        refine ⟨q, vs, w, rfl, rfl, g2, by rw [← sz_eq]; omega, ?_⟩
        exact f1 σ F1 _ (E1.updOwn hr e1 (g5.append (.cons r1 .nil))) (Same.refl F1)
      · exact False.elim f1
  · exact False.elim f
theorem p_ext (C : Cs g N cl k cal X W sc) {i : Nat} {x mm : Str} {p ap cp p2 : Pos} {v : Expr} (hm : mm = "extend") (hl : (ap.endLine == cp.line) = true) (h1 : N[i]? = some x) (h2 : visB sc x = true) (h3 : plainNm x = true) (hv : mE g N sc a v = true) (he : PE X v (tE X.K W cl cal a)) :
    PS X (.Expr (.Call (.Attribute (.Name x p) mm ap) [v] [] cp) p2) (tS X.K W cl cal (.ext i a)) := by
  subst hm
  have hfew : ((backTo cp (starEach [v] X.env)).all (fun x => !x.1) && (backToKw cp (keywordEach [] X.env)).all (fun x => x.1.isSome)
      && decide ([v].length + ([] : List Keyword).length + (if ([] : List Keyword).isEmpty then 0 else 1) < 30)) = true := by
    rw [star_ok hv]
    rfl
  refine ⟨fun pins s σ H D' I ⟨F0, H0, ρ, F, E, f⟩ => (ps_expr (pe_bm PySem.F.plainAttrs_list PySem.F.slot_list_extend PySem.F.type_list_extend mt_extend (nm_pe C h1 h2 h3) (pa_cons he pa_nil (star_ok hv _ _)) rfl hfew hl (star_ok hv _ _) rfl)).run pins s σ H D' I ?_⟩
  simp only [evS] at f
  split at f
  · rename_i ho
    obtain ⟨ds0, hr0⟩ := isOwn_at ho
    obtain ⟨q, vs0, e1, e2, _⟩ := E.own i ds0 hr0
    refine ⟨.ref q, e1, .inl ⟨rfl, _, SqL.of e2⟩, ?_⟩
    refine ex_rd E f fun d w F1 H1 ρ1 L E1 s1 r1 hρ f1 => ?_
    cases hr : ρ1[i]? with
    | none => rw [hr] at f1; exact False.elim f1
    | some sl =>
      rw [hr] at f1
      cases sl <;> first | exact False.elim f1 | skip
      rename_i ds
      cases r1 <;> first | exact False.elim f1 | skip
      rename_i bq zs es hb al
      simp only at f1
      split at f1
      · rename_i hz
        obtain ⟨q', vs, g1, g2, g3, g4, g5, _⟩ := E1.own i ds hr
        rw [e1] at g1
        cases g1
        have hlen := g5.length
        have hlen2 := al.length
        refine ⟨q, bq, vs, zs, rfl, rfl, g2, E1.s _ _ hb, by rw [← sz_eq]; omega, ?_⟩
        exact f1 σ F1 _ (E1.updOwn hr e1 (g5.append al)) (Same.refl F1)
      · exact False.elim f1
  · exact False.elim f
theorem p_sti (C : Cs g N cl k cal X W sc) {i : Nat} {x : Str} {p p2 p3 : Pos} {v kk : Expr} (h1 : N[i]? = some x) (h2 : visB sc x = true) (h3 : plainNm x = true) (hk : PE X kk (tE X.K W cl cal b)) (he : PE X v (tE X.K W cl cal a)) (hkm : mE g N sc b kk = true) (hn : notLC v = true) :
    PS X (.Assign [.Subscript (.Name x p) kk p2] v p3) (tS X.K W cl cal (.sti i b a)) := by
  have hs : swapsWithSole [.Subscript (.Name x p) kk p2] v p3.line X.env = pure false := notLC_none hn (some (.Subscript (.Name x p) kk p2)) p3.line X.env
  have hw : swappedStores [.Subscript (.Name x p) kk p2] v X.env = pure none := by cases v <;> rfl
  have ha : ∀ u, assign (.Subscript (.Name x p) kk p2) X.env u = (do
      let ov ← holding [u] (eval (.Name x p) X.env)
      let iv ← holding [u, ov] (eval kk X.env)
      standAt p2
      holding [u, ov, iv] (setItem ov iv u)
      release [u, ov, iv] []) := by
    intro u
    cases kk <;> first | rfl | (cases b <;> simp [mE] at hkm)
  refine ⟨fun pins s σ H D' I ⟨F0, H0, ρ, F, E, f⟩ => (ps_asg he (pg_sub (nm_pe C h1 h2 h3) hk set_list ha) hs hw rfl).run pins s σ H D' I ?_⟩
  simp only [evS] at f
  split at f
  · rename_i ho
    obtain ⟨ds0, hr0⟩ := isOwn_at ho
    obtain ⟨q, vs0, e1, e2, _⟩ := E.own i ds0 hr0
    refine ex_rd E f fun d w F1 H1 ρ1 L E1 s1 r1 hρ f1 => ⟨.ref q, e1, ?_⟩
    refine ex_rd E1 f1 fun z wz F2 H2 ρ2 L2 E2 s2 r2 hρ2 f2 => ?_
    cases hr : ρ2[i]? with
    | none => rw [hr] at f2; exact False.elim f2
    | some sl =>
      rw [hr] at f2
      cases sl <;> first | exact False.elim f2 | skip
      rename_i ds
      cases r2 <;> first | exact False.elim f2 | skip
      rename_i n
      simp only at f2
      cases hj : ixN ds.length n with
      | none => rw [hj] at f2; exact False.elim f2
      | some j =>
        rw [hj] at f2
        obtain ⟨q', vs, g1, g2, g3, g4, g5, _⟩ := E2.own i ds hr
        rw [e1] at g1
        cases g1
        refine ⟨q, vs, n, j, rfl, rfl, g2, by rw [g5.length]; exact hj, ?_⟩
        exact f2 σ F2 _ (E2.updOwn hr e1 (g5.set (r1.same s2) j)) (Same.refl F2)
  · exact False.elim f
/-! ### raise -/
theorem p_rse (C : Cs g N cl k cal X W sc) {c : Nat} {x txt : Str} {p p2 p3 p4 : Pos} {kk : Nat} (hx : g.ex[c]? = some x) (hg : glB sc x = true) : PS X (.Raise (some (.Call (.Name x p) [.Constant (.str txt) kk p2] [] p3)) none p4) (tS X.K W cl cal (.rse c)) := by
  obtain ⟨h1, h2, h3⟩ := C.gl hg
  obtain ⟨k1, k2, k3, k4, k5⟩ := C.fc.ex c x hx
  exact ⟨fun pins s σ H D' I ⟨F0, H0, ρ, F, E, f⟩ => (ps_raise C.calm C.tk (pmk_own PySem.F.excBase_ValueError k2 k1 k3 (raises_own k4 k5) h1 h2)).run pins s σ H D' I (f σ F H E)⟩
end
end Mz

/-! Part 13b: try; two stores, one of a new list. -/
namespace Mz
open PySem PySem.Spec PyProof.Rows L2
section
variable {g : Pg} {N : List Str} {cl : Nat → Addr} {k : Nat} {cal : Nat → List D → Out D} {X : Cx} {W : WX} {sc : Scope} {a b c m as : M} {e l r tg : Expr} {es : List Expr} {pos : Pos}
theorem Cs.tr (C : Cs g N cl k cal X W sc) {W' : WX} {pn : List (Addr × Obj)} {xe : Value → Shared → Prop} (tk : Takes (X.tr pn xe) W') (po : PassesOwn (model X.prog X.w) X.A X.env xe) : Cs g N cl k cal (X.tr pn xe) W' sc :=
  ⟨⟨C.eN, C.nd, C.eS, C.calm, C.room, tk, C.fc⟩, C.fn, po, C.kd, C.stk, C.frm⟩
theorem isxs_ok (C : Ck g N cl k cal X W sc) {n : Str} {i cc : Nat} {ex : Addr} {oe : Obj} {pn : List (Addr × Obj)} {y : Str} (hy : g.ex[cc]? = some y) (hN : N[i]? = some n) (hl : sc.names.lookup n = some .local) (hp : plainNm n = true) (hx : ExFacts g X.K X.mg cl) (hz : Zc (.ref (cl cc)) none oe) (hf : ∃ vs, oe.data = .fields vs) :
    ∀ {js : List Nat} {es : List Expr}, isxs g sc n js es = true → PA (X.suite ex ((ex, oe) :: pn)) es fun σ H Q => σ[i]? = some (some (V.ref ex)) ∧ Q (js.map fun j => V.bl (decide (cc = j))) H
  | [], [], _ => ⟨fun pos pins s σ H Q I q => (pa_nil (X := X.suite ex ((ex, oe) :: pn))).run pos pins s σ H Q I q.2⟩
  | j :: js, e :: es, h => by
    cases e <;> first | (cases h; done) | skip
    rename_i f args kws p
    unfold isxs at h
    split at h <;> first | (cases h; done) | skip
    · rename_i h1 h2; cases h1
    rename_i j' js' fx p1 x p2 y' p3 p4 es' h1 h2
    cases h1; cases h2
    simp only [Bool.and_eq_true, decide_eq_true_eq] at h
    obtain ⟨⟨⟨⟨⟨e1, gf⟩, e2⟩, e3⟩, gy⟩, hr⟩ := h
    subst e1 e2
    have ih := isxs_ok (ex := ex) (oe := oe) (pn := pn) C hy hN hl hp hx hz hf hr
    obtain ⟨B, hB, hall⟩ := hx
    obtain ⟨_, xc, kt⟩ := hall cc y hy
    have kt := kt j y' e3
    obtain ⟨k1, _⟩ := C.fc.ex j y' e3
    obtain ⟨g1, g2, g3⟩ := C.gl gf
    obtain ⟨g4, g5, g6⟩ := C.gl gy
    have mf : X.mg "isinstance" = none := C.fc.bl "isinstance" (by simp [blNames])
    unfold plainNm at hp
    simp only [Bool.and_eq_true, Bool.not_eq_true'] at hp
    have hN' : (X.suite ex ((ex, oe) :: pn)).N[i]? = some x := by
      show X.N[i]? = some x
      rw [C.eN]
      exact hN
    have hv : Vis (X.suite ex ((ex, oe) :: pn)).env.scope x := .inl (by
      show X.env.scope.names.lookup x = _
      rw [C.eS]
      exact hl)
    have one := fun p4 p1 p2 p3 => pe_callB (X := X.suite ex ((ex, oe) :: pn)) (pos := p4) (p := p1) (call_isE xc hz hf) g1 mf (by decide +kernel) (pa_cons (pe_var (pos := p2) hN' hv hp.1 hp.2) (pa_cons (pe_glob (pos := p3) (v := V.ref (cl j)) g4 k1 rfl g5) pa_nil rfl) rfl) g3 g2 rfl rfl
    refine ⟨fun pos pins s σ H Q I ⟨hσ, q⟩ => (pa_cons (one _ _ _ _) ih rfl).run pos pins s σ H Q I ?_⟩
    exact ⟨V.ref ex, hσ, V.ref (cl j), .ref (cl j), decide (cc = j), rfl, fun u ru => ru, kt, hσ, q⟩
  | [], _ :: _, h => by cases h
  | _ :: _, [], h => by cases h
theorem dn_bls {K : PySem.W.Frag} {F : Hp} : ∀ bs : List Bool, DnAll K F (bs.map V.bl) (bs.map .bool)
  | [] => .nil
  | b :: bs => .cons (.bl b) (dn_bls bs)
theorem shBools (bs : List Bool) : SeqAt.shaped (.list (bs.map .bool)) = true := by
  have c1 : ∀ bs : List Bool, PyData.canLayAll0 (bs.map .bool) = true := fun bs => by
    induction bs with
    | nil => rfl
    | cons b bs ih => exact ih
  have d1 : ∀ bs : List Bool, PyData.depthAll (bs.map .bool) = 0 := fun bs => by
    induction bs with
    | nil => rfl
    | cons b bs ih =>
      show max (PyData.depth (.bool b)) (PyData.depthAll (bs.map .bool)) = 0
      rw [ih] <;> rfl
  unfold SeqAt.shaped
  simp only [PyData.canLay0, PyData.depth, c1, d1]
  rfl
/-- what a suite wants that gives the place of its error's class -/
def tSui (K : PySem.W.Frag) (cl : Nat → Addr) (g : Pg) (i : Nat) (js : List Nat) : Addr → Value → Option Addr → TS := fun ex cls d D σ H => ∃ (c q : Nat) (y : Str) (σ0 : L2.St) (F0 H0 F : Hp), cls = .ref (cl c) ∧ d = none ∧ g.ex[c]? = some y ∧ js.findIdx? (fun j => j == c) = some q ∧ σ = σ0.set i (some (.ref ex)) ∧ Grow F0 H0 F H ∧
  ∀ F' H', Grow F0 H0 F' H' → D.rt (.int (q : Int)) H'
theorem sui_ok (C : Ck g N cl k cal X W sc) {n : Str} {i : Nat} {js : List Nat} {ap cp lp p1 rp : Pos} {kb : Nat} (hl : (ap.endLine == cp.line) = true) (hN : N[i]? = some n) (hlo : sc.names.lookup n = some .local) (hp : plainNm n = true) (hx : ExFacts g X.K X.mg cl) (hjs : js.length < 100) (hi : isxs g sc n js es = true)
    (ex : Addr) (oe : Obj) (cls : Value) (d : Option Addr) (pn : List (Addr × Obj)) (hz : Zc cls d oe) (hf : ∃ vs, oe.data = .fields vs) :
    PSs (X.suite ex ((ex, oe) :: pn)) [.Return (some (.Call (.Attribute (.List es lp) "index" ap) [.Constant (.bool true) kb p1] [] cp)) rp] (tSui X.K cl g i js ex cls d) := by
  refine ⟨fun pins s σ H D I ⟨c, q, y, σ0, F0, H0, F, e1, e2, hy, hq, e3, gr, want⟩ => ?_⟩
  subst e1 e2
  have hu : (X.suite ex ((ex, oe) :: pn)).A.units + 65 < cLine := C.hu
  have pa := isxs_ok (ex := ex) (oe := oe) (pn := pn) C hy hN hlo hp hx hz hf hi
  have hσ : σ[i]? = some (some (V.ref ex)) := by
    have hlen : σ.length = N.length := by
      have := I.len
      rw [show (X.suite ex ((ex, oe) :: pn)).N = N from C.eN] at this
      exact this
    rw [e3] at hlen ⊢
    rw [List.length_set] at hlen
    rw [List.getElem?_set, if_pos rfl, if_pos (by rw [hlen]; exact (List.getElem?_eq_some_iff.mp hN).1)]
  have pe := pe_bm (X := X.suite ex ((ex, oe) :: pn)) (apos := ap) (cpos := cp) PySem.F.plainAttrs_list PySem.F.slot_list_index PySem.F.type_list_index (mt_indexD hu) (pe_lst (pos := lp) pa) (pa_cons (pe_bl (j := kb) (pos := p1) (b := true)) pa_nil) rfl rfl hl rfl rfl
  refine (pss_one (ps_ret (pos := rp) pe)).run pins s σ H D I ?_
  have ej : (js.map fun j => V.bl (decide (c = j))) = (js.map fun j => decide (c = j)).map V.bl := by rw [List.map_map] <;> rfl
  refine ⟨hσ, ?_, fun p np => ⟨.inl ⟨rfl, _, SqL.of upd_same⟩, ?_⟩⟩
  · rw [List.length_map, sizeLine_eq]
    omega
  · obtain ⟨hjl, hj1, hj2⟩ := List.findIdx?_eq_some_iff_getElem.mp hq
    have gn := Grow.new (o := .lst (js.map fun j => V.bl (decide (c = j)))) gr.s np
    have hd : Dn X.K (upd F p (.lst (js.map fun j => V.bl (decide (c = j))))) (.ref p) (.list ((js.map fun j => decide (c = j)).map .bool)) := .lst upd_same (by rw [ej]; exact dn_bls _)
    refine ⟨p, V.bl true, .bool true, (js.map fun j => decide (c = j)).map .bool, q, .bool true, rfl, rfl, hd.dp gn.s (SeqAt.canLay_of_shaped (shBools _)), .bl true, shBools _, rfl, ?_, rfl, fun mm z' hm hz' => ?_, want _ _ (gr.trans gn)⟩
    · rw [List.getElem?_map, List.getElem?_map, List.getElem?_eq_getElem hjl]
      have : js[q] = c := by simpa using hj1
      simp [this]
    · have hml : mm < js.length := by omega
      have := hj2 mm hm
      rw [List.getElem?_map, List.getElem?_map, List.getElem?_eq_getElem hml] at hz'
      have ne : ¬ js[mm] = c := by simpa using this
      have ne2 : ¬ c = js[mm] := fun z => ne z.symm
      simp [ne2] at hz'
      subst hz'
      rfl
theorem p_tri (C : Cs g N cl k cal X W sc) {n x : Str} {i : Nat} {js : List Nat} {body : List Stmt} {ap cp lp p1 rp np pos' : Pos} {kb : Nat} (hh : g.hx = true) (hxn : x = g.bx) (gx : glB sc x = true) (hl : (ap.endLine == cp.line) = true) (hN : N[i]? = some n) (hlo : sc.names.lookup n = some .local) (hp : plainNm n = true) (hjs : js.length < 100) (hi : isxs g sc n js es = true)
    (hb : ∀ (X' : Cx) (W' : WX), Cs g N cl k cal X' W' sc → PSs X' body (tS X'.K W' cl cal b)) :
    PS X (.Try body [.ExceptHandler (some (.Name x np)) (some n) [.Return (some (.Call (.Attribute (.List es lp) "index" ap) [.Constant (.bool true) kb p1] [] cp)) rp] pos'] [] [] pos) (tS X.K W cl cal (.tri b i js)) := by
  have hx := C.fc.hx hh
  obtain ⟨B, hB, hall⟩ := id hx
  obtain ⟨g1, g2, g3⟩ := C.gl gx
  subst hxn
  have nm : Names X g.bx (.ref B) := ⟨g1, g2, .inl hB⟩
  have hN' : X.N[i]? = some n := by
    rw [C.eN]
    exact hN
  have hk : X.env.kindOf n = some .local := by
    show X.env.scope.names.lookup n = _
    rw [C.eS]
    exact hlo
  have T := ps_try_as (X := X) (i := i) (tb := fun W' => tS X.K W' cl cal b) (ts := tSui X.K cl g i js) (pos := pos) (pos' := pos') (np := np) C.stk C.frm (by rw [C.eN]; exact C.nd) hN' hk nm C.tk (fun W' pn xe tk po => hb _ _ (C.tr tk po)) (fun ex oe cls d pn hz hf => sui_ok (lp := lp) (kb := kb) (p1 := p1) (rp := rp) C.toCk hl hN hlo hp hx hjs hi ex oe cls d pn hz hf)
  refine ⟨fun pins s σ H D' I ⟨F0, H0, ρ, F, E, f⟩ => T.run pins s σ H D' I ⟨F0, H0, ρ, F, E, ?_⟩⟩
  simp only [evS] at f
  cases o : evS cal b ρ with
  | bad => rw [o] at f; exact f
  | nx ρ' => rw [o] at f; exact f
  | ret d => rw [o] at f; exact f
  | exc c ρ' =>
    rw [o] at f
    simp only at f
    cases hq : js.findIdx? (fun j => j == c) with
    | none => rw [hq] at f; exact False.elim f
    | some q =>
      rw [hq] at f
      have hc : ∃ y, g.ex[c]? = some y := by
        obtain ⟨hjl, hj1, _⟩ := List.findIdx?_eq_some_iff_getElem.mp hq
        have e : js[q] = c := by simpa using hj1
        have key : ∀ {js : List Nat} {es : List Expr}, isxs g sc n js es = true → ∀ j ∈ js, ∃ y, g.ex[j]? = some y := fun {js} => by
          induction js with
          | nil => intro es _ j hj; cases hj
          | cons j0 js ih =>
            intro es h j hj
            match es, h with
            | .Call (.Name f _) [.Name x _, .Name y _] [] _ :: es, h =>
              simp only [isxs, Bool.and_eq_true, decide_eq_true_eq] at h
              rcases List.mem_cons.mp hj with z | z
              · rw [z]
                exact ⟨_, h.1.1.2⟩
              · exact ih h.2 j z
        exact key hi c (by rw [← e]; exact List.getElem_mem hjl)
      obtain ⟨y, hy⟩ := hc
      exact fun σ' F' H' E' => ⟨true, (hall c y hy).1, fun _ ex nex => ⟨c, q, y, σ', F0, H0, F', rfl, rfl, hy, hq, rfl, E'.g, fun F2 H2 g2 => f (.int (q : Int)) F2 H2 g2 (.int _)⟩, fun z => by cases z⟩
/-! ### try, the handler giving one of two constants -/
def kV : M → Option V
  | .cn => some .non
  | .cs s => some (.str s)
  | _ => none
theorem kV_D {m : M} {v : V} (h : kV m = some v) : ∃ d, kD m = some d ∧ ∀ K F, Dn K F v d := by
  cases m <;> cases h
  · exact ⟨_, rfl, fun K F => .str _⟩
  · exact ⟨_, rfl, fun K F => .non⟩
theorem kE_V {m : M} {e : Expr} (h : kE m e = true) (X : Cx) : ∃ v, kV m = some v ∧ PE X e (L2.tC v) := by
  unfold kE at h
  split at h
  · exact ⟨_, rfl, pe_non⟩
  · have := of_decide_eq_true h
    subst this
    exact ⟨_, rfl, pe_str⟩
  · cases h
def tSui2 (cl : Nat → Addr) (g : Pg) (i j : Nat) (vx vy : V) : Addr → Value → Option Addr → TS := fun ex cls d D σ H => ∃ (c : Nat) (y : Str) (σ0 : L2.St), cls = .ref (cl c) ∧ d = none ∧ g.ex[c]? = some y ∧ σ = σ0.set i (some (.ref ex)) ∧ D.rt (if c = j then vx else vy) H
theorem sui2_ok (C : Ck g N cl k cal X W sc) {n y2 : Str} {i j : Nat} {ea eb : Expr} {p1 p2 p3 p4 p5 rp : Pos} {vx vy : V} (gf : glB sc "isinstance" = true) (hN : N[i]? = some n) (hlo : sc.names.lookup n = some .local) (hp : plainNm n = true) (hx : ExFacts g X.K X.mg cl) (e3 : g.ex[j]? = some y2) (gy : glB sc y2 = true)
    (ha : ∀ X', PE X' ea (L2.tC vx)) (hb : ∀ X', PE X' eb (L2.tC vy))
    (ex : Addr) (oe : Obj) (cls : Value) (d : Option Addr) (pn : List (Addr × Obj)) (hz : Zc cls d oe) (hf : ∃ vs, oe.data = .fields vs) :
    PSs (X.suite ex ((ex, oe) :: pn)) [.Return (some (.IfExp (.Call (.Name "isinstance" p1) [.Name n p2, .Name y2 p3] [] p4) ea eb p5)) rp] (tSui2 cl g i j vx vy ex cls d) := by
  refine ⟨fun pins s σ H D I ⟨c, y, σ0, e1, e2, hy, e4, want⟩ => ?_⟩
  subst e1 e2
  have hσ : σ[i]? = some (some (V.ref ex)) := by
    have hlen : σ.length = N.length := by
      have := I.len
      rw [show (X.suite ex ((ex, oe) :: pn)).N = N from C.eN] at this
      exact this
    rw [e4] at hlen ⊢
    rw [List.length_set] at hlen
    rw [List.getElem?_set, if_pos rfl, if_pos (by rw [hlen]; exact (List.getElem?_eq_some_iff.mp hN).1)]
  obtain ⟨B, hB, hall⟩ := hx
  obtain ⟨_, xc, kt⟩ := hall c y hy
  have kt := kt j y2 e3
  obtain ⟨k1, _⟩ := C.fc.ex j y2 e3
  obtain ⟨g1, g2, g3⟩ := C.gl gf
  obtain ⟨g4, g5, g6⟩ := C.gl gy
  have mf : X.mg "isinstance" = none := C.fc.bl "isinstance" (by simp [blNames])
  unfold plainNm at hp
  simp only [Bool.and_eq_true, Bool.not_eq_true'] at hp
  have hN' : (X.suite ex ((ex, oe) :: pn)).N[i]? = some n := by
    show X.N[i]? = some n
    rw [C.eN]
    exact hN
  have hv : Vis (X.suite ex ((ex, oe) :: pn)).env.scope n := .inl (by
    show X.env.scope.names.lookup n = _
    rw [C.eS]
    exact hlo)
  have one := pe_callB (X := X.suite ex ((ex, oe) :: pn)) (pos := p4) (p := p1) (call_isE xc hz hf) g1 mf (by decide +kernel) (pa_cons (pe_var (pos := p2) hN' hv hp.1 hp.2) (pa_cons (pe_glob (pos := p3) (v := V.ref (cl j)) g4 k1 rfl g5) pa_nil rfl) rfl) g3 g2 rfl rfl
  have pe := pe_ifExp (pos := p5) (pt_val one) (ha (X.suite ex ((ex, oe) :: pn))) (hb (X.suite ex ((ex, oe) :: pn)))
  refine (pss_one (ps_ret (pos := rp) pe)).run pins s σ H D I ?_
  refine ⟨V.ref ex, hσ, V.ref (cl j), .ref (cl j), decide (c = j), rfl, fun u ru => ru, kt, ?_⟩
  refine ⟨decide (c = j), rfl, ?_⟩
  by_cases z : c = j
  · rw [if_pos z] at want
    rw [decide_eq_true z]
    exact want
  · rw [if_neg z] at want
    rw [decide_eq_false z]
    exact want
theorem p_tr2 (C : Cs g N cl k cal X W sc) {n x y2 : Str} {i j nn : Nat} {mx my : M} {ea eb : Expr} {body : List Stmt} {p1 p2 p3 p4 p5 rp np pos' : Pos} (hh : g.hx = true) (hxn : x = g.bx) (gx : glB sc x = true) (hN : N[i]? = some n) (hlo : sc.names.lookup n = some .local) (hp : plainNm n = true) (gf : glB sc "isinstance" = true) (e3 : g.ex[j]? = some y2) (gy : glB sc y2 = true) (hn : nn ≤ g.ex.length) (kx : kE mx ea = true) (ky : kE my eb = true)
    (hb : ∀ (X' : Cx) (W' : WX), Cs g N cl k cal X' W' sc → PSs X' body (tS X'.K W' cl cal b)) :
    PS X (.Try body [.ExceptHandler (some (.Name x np)) (some n) [.Return (some (.IfExp (.Call (.Name "isinstance" p1) [.Name n p2, .Name y2 p3] [] p4) ea eb p5)) rp] pos'] [] [] pos) (tS X.K W cl cal (.tr2 b i j nn mx my)) := by
  have hx := C.fc.hx hh
  obtain ⟨B, hB, hall⟩ := id hx
  obtain ⟨g1, g2, g3⟩ := C.gl gx
  subst hxn
  have nm : Names X g.bx (.ref B) := ⟨g1, g2, .inl hB⟩
  have hN' : X.N[i]? = some n := by
    rw [C.eN]
    exact hN
  have hk : X.env.kindOf n = some .local := by
    show X.env.scope.names.lookup n = _
    rw [C.eS]
    exact hlo
  obtain ⟨vx, hvx, _⟩ := kE_V kx X
  obtain ⟨vy, hvy, _⟩ := kE_V ky X
  have pa : ∀ X', PE X' ea (L2.tC vx) := fun X' => by
    obtain ⟨v, h1, h2⟩ := kE_V kx X'
    rw [hvx] at h1
    cases h1
    exact h2
  have pb : ∀ X', PE X' eb (L2.tC vy) := fun X' => by
    obtain ⟨v, h1, h2⟩ := kE_V ky X'
    rw [hvy] at h1
    cases h1
    exact h2
  have T := ps_try_as (X := X) (i := i) (tb := fun W' => tS X.K W' cl cal b) (ts := tSui2 cl g i j vx vy) (pos := pos) (pos' := pos') (np := np) C.stk C.frm (by rw [C.eN]; exact C.nd) hN' hk nm C.tk (fun W' pn xe tk po => hb _ _ (C.tr tk po)) (fun ex oe cls d pn hz hf => sui2_ok (p1 := p1) (p2 := p2) (p3 := p3) (p4 := p4) (p5 := p5) (rp := rp) C.toCk gf hN hlo hp hx e3 gy pa pb ex oe cls d pn hz hf)
  refine ⟨fun pins s σ H D' I ⟨F0, H0, ρ, F, E, f⟩ => T.run pins s σ H D' I ⟨F0, H0, ρ, F, E, ?_⟩⟩
  simp only [evS] at f
  cases o : evS cal b ρ with
  | bad => rw [o] at f; exact f
  | nx ρ' => rw [o] at f; exact f
  | ret d => rw [o] at f; exact f
  | exc c ρ' =>
    rw [o] at f
    simp only at f
    by_cases hc : c < nn
    · rw [if_pos hc] at f
      have hy : g.ex[c]? = some g.ex[c] := List.getElem?_eq_getElem (by omega)
      obtain ⟨dx, kx1, dnx⟩ := kV_D hvx
      obtain ⟨dy, ky1, dny⟩ := kV_D hvy
      refine fun σ' F' H' E' => ⟨true, (hall c _ hy).1, fun _ ex nex => ⟨c, _, σ', rfl, rfl, hy, rfl, ?_⟩, fun z => by cases z⟩
      by_cases z : c = j
      · rw [if_pos z, kx1] at f
        rw [if_pos z]
        exact f vx F' H' E'.g (dnx _ _)
      · rw [if_neg z, ky1] at f
        rw [if_neg z]
        exact f vy F' H' E'.g (dny _ _)
    · rw [if_neg hc] at f
      exact False.elim f
/-! ### a, b = .., [] -/
theorem sw_two (C : Cs g N cl k cal X W sc) {x y : Str} {ea eb : Expr} {px py pt pt2 : Pos} {kt k2 : Nat} (hw : swP sc x y px py [ea, eb] = true) (s1 : isStar ea = false) (s2 : isStar eb = false) :
    X.env.scope.names.lookup x = some .local ∧ X.env.scope.names.lookup y = some .local ∧ swappedStores [.Tuple [.Name x px, .Name y py] kt pt] (.Tuple [ea, eb] k2 pt2) X.env = pure (some [x, y]) := by
  unfold swP at hw
  simp only [Bool.and_eq_true, decide_eq_true_eq, Bool.not_eq_true'] at hw
  obtain ⟨⟨⟨⟨⟨w1, w2⟩, w3⟩, w4⟩, w5⟩, w6⟩ := hw
  have v1 : X.env.scope.names.lookup x = some .local := by
    rw [C.eS]
    exact w1
  have v2 : X.env.scope.names.lookup y = some .local := by
    rw [C.eS]
    exact w2
  refine ⟨v1, v2, ?_⟩
  have k1 : X.env.kindOf x = some .local := v1
  have k2 : X.env.kindOf y = some .local := v2
  have kb : X.env.blockKind = .function := by
    unfold Env.blockKind
    rw [C.eS, C.kd]
    rfl
  have w7 : py.line = px.line := (beq_iff_eq.mp w3).symm
  have s3 : ([ea, eb].any fun
      | .Starred .. => true
      | _ => false) = false := by
    show (isStar ea || (isStar eb || false)) = false
    rw [s1, s2]
    rfl
  unfold swappedStores
  simp only [kb, s3, w5, w6, Expr.pos, List.filterMap_cons, List.filterMap_nil, k1, k2, w7, List.head?_cons, Option.map_some, Option.getD_some, List.length_cons, List.length_nil, beq_self_eq_true, Bool.and_self, if_true]
  have e1 : (y == x) = false := by
    rw [beq_eq_false_iff_ne]
    exact Ne.symm w4
  have e0 : ([x, y].eraseDups.length != 0 + 1 + 1) = false := by
    simp [List.eraseDups, List.eraseDupsBy, List.eraseDupsBy.loop, e1]
  rw [if_neg (by decide), e0]
  refine Eq.trans (if_neg (fun h => Bool.noConfusion (s3.symm.trans h))) ?_
  rfl
theorem p_own2 (C : Cs g N cl k cal X W sc) {i j : Nat} {x y : Str} {px py pt p p1 p2 : Pos} {kt k2 : Nat} {pt2 : Pos} (hij : i ≠ j) (h1 : N[i]? = some x) (h2 : N[j]? = some y) (hw : swP sc x y px py [.List [] p1, .List [] p2] = true) :
    PS X (.Assign [.Tuple [.Name x px, .Name y py] kt pt] (.Tuple [.List [] p1, .List [] p2] k2 pt2) p) (tS X.K W cl cal (.own2 i j)) := by
  have hN : X.N.Nodup := by
    rw [C.eN]
    exact C.nd
  obtain ⟨v1, v2, sw⟩ := sw_two (kt := kt) (pt := pt) (k2 := k2) (pt2 := pt2) C hw rfl rfl
  refine ⟨fun pins s σ H D' I ⟨F0, H0, ρ, F, E, f⟩ => (ps_par C.calm hN (by rw [C.eN]; exact h1) (by rw [C.eN]; exact h2) hij v1 v2 (pa_cons (pe_lst (pos := p1) pa_nil) (pa_cons (pe_lst (pos := p2) pa_nil) pa_nil rfl) rfl) sw rfl).run pins s σ H D' I ?_⟩
  simp only [evS] at f
  refine ⟨by rw [sizeLine_eq]; decide, fun q nq => ⟨by rw [sizeLine_eq]; decide, fun r nr => ⟨_, _, rfl, ?_⟩⟩⟩
  have fq := E.s.free nq
  have zq := E.g.h.free nq
  have nob : ∀ {H1 : Hp} {σ1 : L2.St} {ρ1 : En} {z : Addr}, EnvOk X.K F0 H0 F H1 σ1 ρ1 → H1 z = none → ∀ (j' : Nat) (ds' : List D), ρ1[j']? = some (.own ds') → σ1[j']? ≠ some (some (V.ref z)) := fun {H1 σ1 ρ1 z} E1 nz j' ds' h1 h2 => by
    obtain ⟨a', _, h3, h4, _⟩ := E1.own j' ds' h1
    rw [h2] at h3
    cases h3
    rw [nz] at h4
    cases h4
  have Eq := E.side (p := q) (o := .lst []) zq fq (nob E nq)
  have qr : q ≠ r := fun z => by
    rw [z, upd_same] at nr
    cases nr
  have nrH : H r = none := by
    rw [upd_ne qr.symm] at nr
    exact nr
  have Er := Eq.side (p := r) (o := .lst []) (E.g.h.free nrH) (E.s.free nrH) (nob Eq nr)
  have nq2 : ∀ (j' : Nat) (ds' : List D), ρ[j']? = some (.own ds') → σ[j']? ≠ some (some (V.ref q)) := nob E nq
  have E1 := Er.setOwn (p := q) (vs := []) (ds := []) (by rw [upd_ne qr, upd_same]) fq zq .nil i nq2
  have nr2 : ∀ (j' : Nat) (ds' : List D), (ρ.set i (.own []))[j']? = some (.own ds') → (σ.set i (some (V.ref q)))[j']? ≠ some (some (V.ref r)) := fun j' ds' h3 h4 => by
    rw [List.getElem?_set] at h3 h4
    split at h3
    · rename_i e
      rw [if_pos e] at h4
      split at h4
      · cases h4
        exact qr rfl
      · cases h4
    · rename_i e
      rw [if_neg e] at h4
      exact nob E nrH j' ds' h3 h4
  have E2 := E1.setOwn (p := r) (vs := []) (ds := []) upd_same (E.s.free nrH) (E.g.h.free nrH) .nil j nr2
  exact f _ F _ E2 (Same.refl F)
theorem p_owr (C : Cs g N cl k cal X W sc) {i j : Nat} {x y : Str} {ea : Expr} {px py pt p p2 : Pos} {kt k2 : Nat} {pt2 : Pos} (hij : i ≠ j) (h1 : N[i]? = some x) (h2 : N[j]? = some y) (hw : swP sc x y px py [ea, .List [] p2] = true) (ma : mE g N sc a ea = true) (ha : PE X ea (tE X.K W cl cal a)) :
    PS X (.Assign [.Tuple [.Name x px, .Name y py] kt pt] (.Tuple [ea, .List [] p2] k2 pt2) p) (tS X.K W cl cal (.owr i j a)) := by
  have hN : X.N.Nodup := by
    rw [C.eN]
    exact C.nd
  obtain ⟨v1, v2, sw⟩ := sw_two (kt := kt) (pt := pt) (k2 := k2) (pt2 := pt2) C hw (nstar_ok ma) rfl
  refine ⟨fun pins s σ H D' I ⟨F0, H0, ρ, F, E, f⟩ => (ps_par C.calm hN (by rw [C.eN]; exact h1) (by rw [C.eN]; exact h2) hij v1 v2 (pa_cons ha (pa_cons (pe_lst (pos := p2) pa_nil) pa_nil rfl) (star_ok ma _ _)) sw rfl).run pins s σ H D' I ?_⟩
  simp only [evS] at f
  split at f
  · exact False.elim f
  · refine ⟨F0, H0, ρ, F, E, ?_⟩
    cases o : evE cal ρ a with
    | bad => rw [o] at f; exact f
    | exc z => rw [o] at f; exact fun F' H' g' => f σ F' H' (E.grow g')
    | ok d1 =>
      rw [o, wth_ok] at f
      intro v1 F1 H1 L1 g1 r1
      have E1 := E.grow g1
      have f1 := f.mono g1.f
      refine ⟨by rw [sizeLine_eq]; decide, fun r nr => ⟨_, _, rfl, ?_⟩⟩
      have fr := E1.s.free nr
      have zr := E1.g.h.free nr
      have nob : ∀ (j' : Nat) (ds' : List D), ρ[j']? = some (.own ds') → σ[j']? ≠ some (some (V.ref r)) := fun j' ds' h1 h2 => by
        obtain ⟨a', _, h3, h4, _⟩ := E1.own j' ds' h1
        rw [h2] at h3
        cases h3
        rw [nr] at h4
        cases h4
      have E2 := (E1.side (p := r) (o := .lst []) zr fr nob).set r1 i
      have nob2 : ∀ (j' : Nat) (ds' : List D), (ρ.set i (.py d1))[j']? = some (.own ds') → (σ.set i (some v1))[j']? ≠ some (some (V.ref r)) := fun j' ds' h3 h4 => by
        rw [List.getElem?_set] at h3 h4
        split at h3
        · split at h3 <;> cases h3
        · rename_i e
          rw [if_neg e] at h4
          exact nob j' ds' h3 h4
      have E3 := E2.setOwn (p := r) (vs := []) (ds := []) upd_same fr zr .nil j nob2
      exact f1 _ F1 _ E3 (Same.refl F1)
/-! ### name = [.. for .. for ..] -/
theorem p_asgLc2 (C : Cs g N cl k cal X W sc) {ow : List (Str × Nat)} {t t1 : Tg} {vs : List Nat} {it it1 e0 : M} {elt tg2 iter tg1 iter1 : Expr} {scope : Scope} {i : Nat} {x : Str} {px pv p : Pos}
    (hx : tgN N (fun _ => true) sc i (.Name x px) = true) (L : Lc2Ok g N cl k cal sc X W ow t it vs t1 it1 e0 elt tg2 iter tg1 iter1 scope) (hsw : (swL sc x px p.line scope pv || decide (sc.names.lookup x = some .cell)) = true) :
    PS X (.Assign [.Name x px] (.ListComp elt [⟨tg2, iter, [], 0⟩, ⟨tg1, iter1, [], 0⟩] scope pv) p) (tS X.K W cl cal (.asg (.n i) (.lc2 ow t it vs t1 it1 e0))) := by
  have hN : X.N.Nodup := by
    rw [C.eN]
    exact C.nd
  have hG := tgN_ok C.tk' hx
  unfold tgN at hx
  simp only [Bool.and_eq_true, decide_eq_true_eq] at hx
  have hi : X.N[i]? = some x := by
    rw [C.eN]
    exact hx.1.1
  have rd : ∀ σ H D', tS X.K W cl cal (.asg (.n i) (.lc2 ow t it vs t1 it1 e0)) D' σ H → tAsg (tLc2 (tI X.K W cl cal it) (gT X.K t) tYes (tI X.K W0 cl cal it1) (gT X.K t1) tYes (tE X.K W0 cl cal e0) (ow.map (·.2)) vs) (gName i) D' σ H := fun σ H D' ⟨F0, H0, ρ, F, E, f⟩ => by
    simp only [evS] at f
    unfold evX at f
    show tLc2 _ _ _ _ _ _ _ _ _ σ H fun v H' => gName i v σ H' D'.nx
    have go : ∀ (ρ1 : En) (F1 : Hp), EnvOk X.K F0 H0 F1 H σ ρ1 → Same F F1 → FinS X.K W cl F0 H0 F ((evE cal ρ1 (.lc2 ow t it vs t1 it1 e0)).wth (fun d => match asgT (.n i) d ρ1 with
        | some ρ2 => .nx ρ2
        | none => .bad) ρ) D' → tLc2 (tI X.K W cl cal it) (gT X.K t) tYes (tI X.K W0 cl cal it1) (gT X.K t1) tYes (tE X.K W0 cl cal e0) (ow.map (·.2)) vs σ H fun v H' => gName i v σ H' D'.nx := fun ρ1 F1 E1 s1 f1 => by
      refine rd_lc2 L.hT L.hT1 E1 ?_
      rw [evE_lc2] at f1
      cases o : capL ((evI cal ρ1 it).bnd fun xs => flatL (turn2 cal ρ1 ow t vs t1 it1 e0) xs) with
      | bad => rw [o] at f1; exact f1
      | exc z =>
        rw [o] at f1
        exact fun F' H' g' => f1 σ F H' (E.back s1 g')
      | ok ds =>
        rw [o, bnd_ok, wth_ok] at f1
        intro q vs F' H' g' n e nf al
        exact f1 _ _ H' ((E1.grow (g'.take n e nf)).set (.lst upd_same (al.same (same_new nf))) i) (s1.trans (g'.take n e nf).f)
    by_cases hm : ment ρ (.lc2 ow t it vs t1 it1 e0) = true
    · rw [if_pos hm] at f
      obtain ⟨Ft, Et, st⟩ := E.thaw
      refine go _ Ft Et st ?_
      cases o : evE cal (thaw ρ) (.lc2 ow t it vs t1 it1 e0) with
      | bad => rw [o] at f; exact f
      | exc z => rw [o] at f; exact f
      | ok d =>
        rw [o, wth_ok] at f
        rw [wth_ok]
        have hd : scalD d = false := by
          rw [evE_lc2] at o
          cases o2 : capL ((evI cal (thaw ρ) it).bnd fun xs => flatL (turn2 cal (thaw ρ) ow t vs t1 it1 e0) xs) <;> rw [o2] at o <;> cases o
          rfl
        rw [hd] at f
        exact f
    · rw [if_neg hm] at f
      exact go ρ F E (Same.refl F) f
  rcases Bool.or_eq_true_iff.mp hsw with hsw | hsw
  · unfold swL at hsw
    simp only [Bool.and_eq_true, decide_eq_true_eq, Bool.not_eq_true'] at hsw
    obtain ⟨⟨h1, h2⟩, h3⟩ := hsw
    have hy : X.env.scope.names.lookup x = some .local := by
      rw [C.eS]
      exact h1
    refine ⟨fun pins s σ H D' I h => (ps_setLc2 C.calm hN hi hy (sw_true (by rw [C.eS]; exact C.kd) hy h2 h3) L.hi L.blk L.sub L.hg (fun _ _ _ _ _ => pts_nil) L.hj L.hg1 (fun _ _ _ _ _ => pts_nil) L.he L.hs L.hs1).run pins s σ H D' I (rd σ H D' h)⟩
  · have hy : X.env.scope.names.lookup x = some .cell := by
      rw [C.eS]
      exact of_decide_eq_true hsw
    have pe := pe_lc2 (pos := pv) C.calm hN L.hi L.blk L.sub L.hg (fun _ _ _ _ _ => pts_nil) L.hj L.hg1 (fun _ _ _ _ _ => pts_nil) L.he L.hs L.hs1
    exact ⟨fun pins s σ H D' I h => (ps_asg pe hG (show swapsWithSole [.Name x px] (.ListComp elt [⟨tg2, iter, [], 0⟩, ⟨tg1, iter1, [], 0⟩] scope pv) p.line X.env = pure false from sw_cell (ln := p.line) hy) rfl rfl).run pins s σ H D' I (rd σ H D' h)⟩
end
end Mz

/-! Part 14: all statements; defs; the program. -/
namespace Mz
open PySem PySem.Spec PyProof.Rows L2
section
variable {g : Pg} {N : List Str} {cl : Nat → Addr} {k : Nat} {cal : Nat → List D → Out D} {X : Cx} {W : WX} {sc : Scope} {a b c m as : M} {e l r tg : Expr} {es : List Expr} {pos : Pos}
/-- is the value of a store seen to be a comprehension -/
theorem isLc (e : Expr) (sc : Scope) (g : Pg) (N : List Str) (m : M) (hm : mE g N sc m e = true) : notLC e = true ∨ ∃ elt gs scope p, e = .ListComp elt gs scope p := by
  cases e <;> first | exact .inl rfl | exact .inr ⟨_, _, _, _, rfl⟩ | (cases m <;> simp [mE] at hm)
theorem lc_m {m : M} {elt : Expr} {gs : List Comprehension} {scope : Scope} {p : Pos} (hm : mE g N sc m (.ListComp elt gs scope p) = true) : (∃ ow t it c e0, m = .lc ow t it c e0) ∨ ∃ ow t it vs t1 it1 e0, m = .lc2 ow t it vs t1 it1 e0 := by
  cases m <;> first | exact .inl ⟨_, _, _, _, _, rfl⟩ | exact .inr ⟨_, _, _, _, _, _, _, rfl⟩ | (simp [mE] at hm)
structure Ps (g : Pg) (N : List Str) (cl : Nat → Addr) (k : Nat) (cal : Nat → List D → Out D) (m : M) : Prop where
  xs : ∀ (X : Cx) (W : WX) (sc : Scope), Cs g N cl k cal X W sc → ∀ (s : Stmt), mS g N sc m s = true → PS X s (tS X.K W cl cal m)
  xb : ∀ (X : Cx) (W : WX) (sc : Scope), Cs g N cl k cal X W sc → ∀ (b : List Stmt), mB g N sc m b = true → PSs X b (tS X.K W cl cal m)
theorem Ps.s {m : M} (h : Ps g N cl k cal m) (C : Cs g N cl k cal X W sc) {s : Stmt} (q : mS g N sc m s = true) : PS X s (tS X.K W cl cal m) := h.xs X W sc C s q
theorem Ps.bs {m : M} (h : Ps g N cl k cal m) (C : Cs g N cl k cal X W sc) {s : List Stmt} (q : mB g N sc m s = true) : PSs X s (tS X.K W cl cal m) := h.xb X W sc C s q
theorem Ps.of {m : M} (hs : ∀ (X : Cx) (W : WX) (sc : Scope), Cs g N cl k cal X W sc → ∀ (s : Stmt), mS g N sc m s = true → PS X s (tS X.K W cl cal m)) (hb : ∀ sc b, mB g N sc m b = false) : Ps g N cl k cal m :=
  ⟨hs, fun _ _ _ _ _ h => by rw [hb] at h; cases h⟩
theorem q_xpr {e : M} (C : Cs g N cl k cal X W sc) {s : Stmt} (h : mS g N sc (.xpr e) s = true) : PS X s (tS X.K W cl cal (.xpr e)) := by
  unfold mS at h
  split at h <;> first | (cases h; done) | skip
  all_goals (rename_i hq; cases hq)
  simp only [Bool.and_eq_true] at h
  exact p_xpr C h.1 ((snd e).e C.toCk h.2)
theorem q_asg {t : Tg} {e : M} (C : Cs g N cl k cal X W sc) {s : Stmt} (h : mS g N sc (.asg t e) s = true) : PS X s (tS X.K W cl cal (.asg t e)) := by
  unfold mS at h
  split at h <;> first | (cases h; done) | skip
  all_goals (rename_i hq; cases hq)
  rename_i tg v p
  rw [Bool.and_eq_true, Bool.and_eq_true, Bool.and_eq_true] at h
  obtain ⟨⟨⟨h1, h2⟩, h3⟩, h4⟩ := h
  have he := (snd e).e C.toCk h2
  rcases isLc v sc g N e h2 with hn | ⟨elt, gs, scope, pv, rfl⟩
  · refine p_asg C h1 he (.inl hn) ?_
    cases tg <;> first | exact .inl rfl | skip
    cases v <;> first | exact .inr (.inl rfl) | exact .inr (.inr ⟨_, _, _, rfl, h3⟩)
  · by_cases ht : isTup tg = true
    · exact p_asg C h1 he (.inr ht) (.inr (.inl rfl))
    · cases t with
      | t is => 
        cases tg <;> first | (cases h1; done) | exact absurd rfl ht
      | n i =>
        have h1' : tgN N (fun _ => true) sc i tg = true := h1
        cases tg <;> first | (cases h1'; done) | skip
        rcases lc_m h2 with ⟨ow, t, it, c, e0, rfl⟩ | ⟨ow, t, it, vs, t1, it1, e0, rfl⟩
        · obtain ⟨_, _, _, rfl, l⟩ := lc_ok (snd it) (snd c) (snd e0) C.toCk h2
          exact p_asgLc C h1' l h3
        · obtain ⟨_, _, _, _, rfl, l⟩ := lc2_ok (snd it) (snd it1) (snd e0) C.toCk h2
          exact p_asgLc2 C h1' l h3
theorem q_aso {i : Nat} {e : M} (C : Cs g N cl k cal X W sc) {s : Stmt} (h : mS g N sc (.aso i e) s = true) : PS X s (tS X.K W cl cal (.aso i e)) := by
  unfold mS at h
  split at h <;> first | (cases h; done) | skip
  all_goals (rename_i hq; cases hq)
  rename_i tg v p
  rw [Bool.and_eq_true, Bool.and_eq_true] at h
  obtain ⟨⟨h1, h2⟩, h3⟩ := h
  by_cases hf : isFresh e = true
  · cases e <;> first | (cases hf; done) | skip
    · rename_i op l r
      cases op <;> first | (cases hf; done) | skip
      · unfold mE at h2
        split at h2 <;> first | (cases h2; done) | skip
        all_goals (rename_i hq; cases hq)
        simp only [Bool.and_eq_true, decide_eq_true_eq] at h2
        obtain ⟨⟨h5, h6⟩, h7⟩ := h2
        subst h5
        exact p_aso C h1 (fr_cat ((snd l).e C.toCk h6) ((snd r).e C.toCk h7)) rfl
      cases l <;> first | (cases hf; done) | skip
      rename_i as
      have h2' := h2
      unfold mE at h2
      split at h2 <;> first | (cases h2; done) | skip
      all_goals (rename_i hq; cases hq)
      simp only [Bool.and_eq_true, decide_eq_true_eq] at h2
      obtain ⟨⟨h5, h6⟩, h7⟩ := h2
      subst h5
      exact p_aso C h1 (fr_rep ((snd (.lst as)).e C.toCk h6) ((snd r).e C.toCk h7)) rfl
    · rename_i as
      unfold mE at h2
      split at h2 <;> first | (cases h2; done) | skip
      all_goals (rename_i hq; cases hq)
      exact p_aso C h1 (fr_lst ((snd as).a C.toCk h2)) rfl
    · rename_i ow t it c e0
      have h2' := h2
      unfold mE at h2
      split at h2 <;> first | (cases h2; done) | skip
      all_goals (rename_i hq; cases hq)
      cases tg <;> first | (cases h1; done) | skip
      obtain ⟨_, _, _, e1, l⟩ := lc_ok (snd it) (snd c) (snd e0) C.toCk h2'
      cases e1
      exact p_asoLc C h1 l h3
  · have hs := isLc v sc g N e h2
    refine ⟨fun pins s σ H D' I ⟨F0, H0, ρ, F, E, f⟩ => False.elim ?_⟩
    simp only [evS] at f
    rw [show isFresh e = false from by simpa using hf, Bool.false_and] at f
    exact f
theorem q_par {i j : Nat} {a b : M} (C : Cs g N cl k cal X W sc) {s : Stmt} (h : mS g N sc (.par i j a b) s = true) : PS X s (tS X.K W cl cal (.par i j a b)) := by
  unfold mS at h
  split at h <;> first | (cases h; done) | skip
  all_goals (rename_i hq; cases hq)
  simp only [Bool.and_eq_true, decide_eq_true_eq] at h
  obtain ⟨⟨⟨⟨⟨h1, h2⟩, h3⟩, h4⟩, h5⟩, h6⟩ := h
  exact p_par C h1 h2 h3 h4 ((snd a).e C.toCk h5) ((snd b).e C.toCk h6) h5 h6
theorem q_par3 {i j l : Nat} {a b c : M} (C : Cs g N cl k cal X W sc) {s : Stmt} (h : mS g N sc (.par3 i j l a b c) s = true) : PS X s (tS X.K W cl cal (.par3 i j l a b c)) := by
  unfold mS at h
  split at h <;> first | (cases h; done) | skip
  all_goals (rename_i hq; cases hq)
  simp only [Bool.and_eq_true, decide_eq_true_eq] at h
  obtain ⟨⟨⟨⟨⟨⟨⟨⟨⟨h1, h2⟩, h3⟩, h4⟩, h5⟩, h6⟩, h7⟩, h8⟩, h9⟩, h10⟩ := h
  exact p_par3 C h1 h2 h3 h4 h5 h6 h7 ((snd a).e C.toCk h8) ((snd b).e C.toCk h9) ((snd c).e C.toCk h10) h8 h9 h10
theorem q_ret {e : M} (C : Cs g N cl k cal X W sc) {s : Stmt} (h : mS g N sc (.ret e) s = true) : PS X s (tS X.K W cl cal (.ret e)) := by
  unfold mS at h
  split at h <;> first | (cases h; done) | skip
  all_goals (rename_i hq; cases hq)
  exact p_ret C ((snd e).e C.toCk h)
theorem q_ifs {c a b : M} (ia : Ps g N cl k cal a) (ib : Ps g N cl k cal b) (C : Cs g N cl k cal X W sc) {s : Stmt} (h : mS g N sc (.ifs c a b) s = true) : PS X s (tS X.K W cl cal (.ifs c a b)) := by
  unfold mS at h
  split at h <;> first | (cases h; done) | skip
  all_goals (rename_i hq; cases hq)
  simp only [Bool.and_eq_true] at h
  exact p_ifs C ((snd c).t C.toCk h.1.1) (ia.bs C h.1.2) (ib.bs C h.2)
theorem q_fr {t : Tg} {it b : M} {tmp : List Nat} (ib : Ps g N cl k cal b) (C : Cs g N cl k cal X W sc) {s : Stmt} (h : mS g N sc (.fr t it b tmp) s = true) : PS X s (tS X.K W cl cal (.fr t it b tmp)) := by
  unfold mS at h
  split at h <;> first | (cases h; done) | skip
  all_goals (rename_i hq; cases hq)
  simp only [Bool.and_eq_true] at h
  obtain ⟨⟨⟨h1, h2⟩, h3⟩, h4⟩ := h
  exact p_fr C ((snd it).i C.toCk h3) (mT_ok C.tk' h1) (ib.bs C h4) (fold_I h3 _)
theorem q_whl {c b : M} (ib : Ps g N cl k cal b) (C : Cs g N cl k cal X W sc) {s : Stmt} (h : mS g N sc (.whl c b) s = true) : PS X s (tS X.K W cl cal (.whl c b)) := by
  unfold mS at h
  split at h <;> first | (cases h; done) | skip
  all_goals (rename_i hq; cases hq)
  simp only [Bool.and_eq_true] at h
  exact p_whl C ((snd c).t C.toCk h.1) (ib.bs C h.2)
theorem q_app {i : Nat} {e : M} (C : Cs g N cl k cal X W sc) {s : Stmt} (h : mS g N sc (.app i e) s = true) : PS X s (tS X.K W cl cal (.app i e)) := by
  unfold mS at h
  split at h <;> first | (cases h; done) | skip
  all_goals (rename_i hq; cases hq)
  simp only [Bool.and_eq_true, decide_eq_true_eq] at h
  obtain ⟨⟨⟨⟨⟨h1, h2⟩, h3⟩, h4⟩, h5⟩, h6⟩ := h
  exact p_app C h1 h2 h3 h4 h5 h6 ((snd e).e C.toCk h6)
theorem q_ext {i : Nat} {e : M} (C : Cs g N cl k cal X W sc) {s : Stmt} (h : mS g N sc (.ext i e) s = true) : PS X s (tS X.K W cl cal (.ext i e)) := by
  unfold mS at h
  split at h <;> first | (cases h; done) | skip
  all_goals (rename_i hq; cases hq)
  simp only [Bool.and_eq_true, decide_eq_true_eq] at h
  obtain ⟨⟨⟨⟨⟨h1, h2⟩, h3⟩, h4⟩, h5⟩, h6⟩ := h
  exact p_ext C h1 h2 h3 h4 h5 h6 ((snd e).e C.toCk h6)
theorem q_sti {i : Nat} {z e : M} (C : Cs g N cl k cal X W sc) {s : Stmt} (h : mS g N sc (.sti i z e) s = true) : PS X s (tS X.K W cl cal (.sti i z e)) := by
  unfold mS at h
  split at h <;> first | (cases h; done) | skip
  all_goals (rename_i hq; cases hq)
  simp only [Bool.and_eq_true, decide_eq_true_eq] at h
  obtain ⟨⟨⟨⟨⟨h1, h2⟩, h3⟩, h4⟩, h5⟩, h6⟩ := h
  exact p_sti C h1 h2 h3 ((snd z).e C.toCk h4) ((snd e).e C.toCk h5) h4 h6
theorem q_rse {c : Nat} (C : Cs g N cl k cal X W sc) {s : Stmt} (h : mS g N sc (.rse c) s = true) : PS X s (tS X.K W cl cal (.rse c)) := by
  unfold mS at h
  split at h <;> first | (cases h; done) | skip
  all_goals (rename_i hq; cases hq)
  simp only [Bool.and_eq_true, decide_eq_true_eq] at h
  exact p_rse C h.1 h.2
theorem q_pass (C : Cs g N cl k cal X W sc) {s : Stmt} (h : mS g N sc .pass s = true) : PS X s (tS X.K W cl cal .pass) := by
  unfold mS at h
  split at h <;> first | (cases h; done) | skip
  all_goals (rename_i hq; cases hq)
  exact p_pass
theorem q_tri {b : M} {i : Nat} {js : List Nat} (ib : Ps g N cl k cal b) (C : Cs g N cl k cal X W sc) {s : Stmt} (h : mS g N sc (.tri b i js) s = true) : PS X s (tS X.K W cl cal (.tri b i js)) := by
  unfold mS at h
  split at h <;> first | (cases h; done) | skip
  all_goals (rename_i hq; first | cases hq | skip)
  simp only [Bool.and_eq_true, decide_eq_true_eq] at h
  obtain ⟨⟨⟨⟨⟨⟨⟨⟨⟨⟨⟨h1, h2⟩, h3⟩, h4⟩, h5⟩, h6⟩, h7⟩, h8⟩, h9⟩, h10⟩, h11⟩, h12⟩ := h
  subst h8
  subst h10
  exact p_tri C h1 h3 h4 h9 h5 h6 h7 h2 h11 fun X' W' C' => ib.bs C' h12
theorem q_tr2 {b x y : M} {i j n : Nat} (ib : Ps g N cl k cal b) (C : Cs g N cl k cal X W sc) {s : Stmt} (h : mS g N sc (.tr2 b i j n x y) s = true) : PS X s (tS X.K W cl cal (.tr2 b i j n x y)) := by
  unfold mS at h
  split at h <;> first | (cases h; done) | skip
  all_goals (rename_i hq; first | cases hq | skip)
  simp only [Bool.and_eq_true, decide_eq_true_eq] at h
  obtain ⟨⟨⟨⟨⟨⟨⟨⟨⟨⟨⟨⟨⟨⟨h1, h2⟩, h3⟩, h4⟩, h5⟩, h6⟩, h7⟩, h8⟩, h9⟩, h10⟩, h11⟩, h12⟩, h13⟩, h14⟩, h15⟩ := h
  subst h7 h9
  exact p_tr2 C h1 h2 h3 h4 h5 h6 h8 h10 h11 h12 h13 h14 fun X' W' C' => ib.bs C' h15
theorem q_own2 {i j : Nat} (C : Cs g N cl k cal X W sc) {s : Stmt} (h : mS g N sc (.own2 i j) s = true) : PS X s (tS X.K W cl cal (.own2 i j)) := by
  unfold mS at h
  split at h <;> first | (cases h; done) | skip
  all_goals (rename_i hq; cases hq)
  simp only [Bool.and_eq_true, decide_eq_true_eq] at h
  obtain ⟨⟨⟨h1, h2⟩, h3⟩, h4⟩ := h
  exact p_own2 C h1 h2 h3 h4
theorem q_owr {i j : Nat} {a : M} (C : Cs g N cl k cal X W sc) {s : Stmt} (h : mS g N sc (.owr i j a) s = true) : PS X s (tS X.K W cl cal (.owr i j a)) := by
  unfold mS at h
  split at h <;> first | (cases h; done) | skip
  all_goals (rename_i hq; cases hq)
  simp only [Bool.and_eq_true, decide_eq_true_eq] at h
  obtain ⟨⟨⟨⟨h1, h2⟩, h3⟩, h4⟩, h5⟩ := h
  exact p_owr C h1 h2 h3 h4 h5 ((snd a).e C.toCk h5)
theorem ps : ∀ m : M, Ps g N cl k cal m := by
  intro m
  induction m with
  | pass => exact .of (fun _ _ _ C s h => q_pass C h) (fun _ b => by cases b <;> rfl)
  | xpr e _ => exact .of (fun _ _ _ C s h => q_xpr C h) (fun _ b => by cases b <;> rfl)
  | asg t e _ => exact .of (fun _ _ _ C s h => q_asg C h) (fun _ b => by cases b <;> rfl)
  | aso i e _ => exact .of (fun _ _ _ C s h => q_aso C h) (fun _ b => by cases b <;> rfl)
  | par i j a b _ _ => exact .of (fun _ _ _ C s h => q_par C h) (fun _ b => by cases b <;> rfl)
  | par3 i j l a b c _ _ _ => exact .of (fun _ _ _ C s h => q_par3 C h) (fun _ b => by cases b <;> rfl)
  | ret e _ => exact .of (fun _ _ _ C s h => q_ret C h) (fun _ b => by cases b <;> rfl)
  | ifs c a b _ ia ib => exact .of (fun _ _ _ C s h => q_ifs ia ib C h) (fun _ b => by cases b <;> rfl)
  | fr t it b tmp _ ib => exact .of (fun _ _ _ C s h => q_fr ib C h) (fun _ b => by cases b <;> rfl)
  | whl c b _ ib => exact .of (fun _ _ _ C s h => q_whl ib C h) (fun _ b => by cases b <;> rfl)
  | app i e _ => exact .of (fun _ _ _ C s h => q_app C h) (fun _ b => by cases b <;> rfl)
  | ext i e _ => exact .of (fun _ _ _ C s h => q_ext C h) (fun _ b => by cases b <;> rfl)
  | sti i z e _ _ => exact .of (fun _ _ _ C s h => q_sti C h) (fun _ b => by cases b <;> rfl)
  | rse c => exact .of (fun _ _ _ C s h => q_rse C h) (fun _ b => by cases b <;> rfl)
  | tr2 b i j n x y ib _ _ => exact .of (fun _ _ _ C s h => q_tr2 ib C h) (fun _ b => by cases b <;> rfl)
  | tri b i js ib => exact .of (fun _ _ _ C s h => q_tri ib C h) (fun _ b => by cases b <;> rfl)
  | own2 i j => exact .of (fun _ _ _ C s h => q_own2 C h) (fun _ b => by cases b <;> rfl)
  | owr i j a _ => exact .of (fun _ _ _ C s h => q_owr C h) (fun _ b => by cases b <;> rfl)
  | nil =>
    refine ⟨fun _ _ _ _ s h => (by cases s <;> cases h), fun _ _ _ _ b h => ?_⟩
    cases b with
    | nil => exact p_nil
    | cons _ _ => cases h
  | sq a r ia ib =>
    refine ⟨fun _ _ _ _ s h => (by cases s <;> cases h), fun _ _ _ C b h => ?_⟩
    cases b with
    | nil => cases h
    | cons s r =>
      simp only [mB, Bool.and_eq_true] at h
      exact p_sq (ia.s C h.1) (ib.bs C h.2)
  | _ => exact ⟨fun _ _ _ _ s h => (by cases s <;> cases h), fun _ _ _ _ b h => by cases b <;> cases h⟩
end
end Mz

/-! Part 14m: count_covers, a def with a table of known answers: it answers what the def without the table answers. -/
namespace Mz
open PySem PySem.Spec PyProof.Rows L2

/-! ### the table -/
def subsL : List Int → List (List Int)
  | [] => [[]]
  | x :: r => subsL r ++ (subsL r).map (x :: ·)
theorem subsL_length : ∀ l : List Int, (subsL l).length = 2 ^ l.length
  | [] => rfl
  | x :: r => by
    rw [subsL, List.length_append, List.length_map, subsL_length r, List.length_cons, Nat.pow_succ]
    omega
theorem subsL_mem {l m : List Int} (h : l.Sublist m) : l ∈ subsL m := by
  induction h with
  | slnil => simp [subsL]
  | cons a h ih =>
    rw [subsL]
    exact List.mem_append_left _ ih
  | cons_cons a h ih =>
    rw [subsL]
    exact List.mem_append_right _ (List.mem_map_of_mem ih)
theorem nodup_len {α : Type} [DecidableEq α] : ∀ {l m : List α}, l.Nodup → (∀ x ∈ l, x ∈ m) → l.length ≤ m.length
  | [], m, _, _ => Nat.zero_le _
  | x :: r, m, nd, h => by
    obtain ⟨h1, h2⟩ := List.nodup_cons.mp nd
    have hx := h x List.mem_cons_self
    have q := nodup_len (m := m.erase x) h2 fun y hy => (List.mem_erase_of_ne (fun e => h1 (by rw [← e]; exact hy))).mpr (h y (List.mem_cons_of_mem _ hy))
    rw [List.length_erase_of_mem hx] at q
    have := List.length_pos_of_mem hx
    rw [List.length_cons]
    omega
abbrev kI (ns : List Int) : List Key := ns.map fun n => (.inl n : Key)
theorem kI_inj {a b : List Int} (h : kI a = kI b) : a = b := (List.map_inj_right (fun x y (e : (Sum.inl x : Key) = Sum.inl y) => Sum.inl.inj e)).mp h
theorem kI_kV (ns : List Int) : (kI ns).map L2.kV = ns.map V.int := by
  unfold kI
  rw [List.map_map]
  rfl
section
variable {an : D → List Int → D → Prop} {dt : D} {L0 ns : List Int} {kvs : List (List Key × V)} {i : Int}
theorem MemoOk.len (h : MemoOk an dt L0 kvs) (hl : L0.length ≤ 12) : kvs.length ≤ 4096 := by
  have q := nodup_len (m := (subsL L0).map kI) h.nd fun k hk => by
    obtain ⟨⟨k', v⟩, h1, h2⟩ := List.mem_map.mp hk
    obtain ⟨ns, i, e1, e2, _⟩ := h.at_ _ _ h1
    subst h2 e1
    exact List.mem_map_of_mem (subsL_mem e2)
  rw [List.length_map, List.length_map, subsL_length] at q
  have : (2 : Nat) ^ L0.length ≤ 2 ^ 12 := Nat.pow_le_pow_right (by decide) hl
  omega
theorem MemoOk.put (h : MemoOk an dt L0 kvs) (hs : ns.Sublist L0) (ha : an dt ns (.int i)) : MemoOk an dt L0 (putK kvs (kI ns) (.int i)) := by
  refine ⟨?_, fun k v hk => ?_⟩
  · unfold putK
    split
    · rw [List.map_map]
      have e : ((fun x : List Key × V => x.1) ∘ fun kv => if kv.1 = kI ns then (kv.1, V.int i) else kv) = fun kv => kv.1 := by
        funext kv
        simp only [Function.comp]
        split <;> rfl
      rw [e]
      exact h.nd
    · rename_i hn
      rw [List.map_append, List.map_cons, List.map_nil]
      refine List.nodup_append.mpr ⟨h.nd, by simp, fun a ha b hb e => hn ?_⟩
      obtain ⟨kv, h1, h2⟩ := List.mem_map.mp ha
      rw [List.mem_singleton] at hb
      refine List.any_eq_true.mpr ⟨kv, h1, ?_⟩
      rw [decide_eq_true_eq, h2, e, hb]
  · unfold putK at hk
    split at hk
    · obtain ⟨kv, h1, h2⟩ := List.mem_map.mp hk
      split at h2
      · rename_i e
        cases h2
        exact ⟨ns, i, e, hs, rfl, ha⟩
      · cases h2
        exact h.at_ _ _ h1
    · rcases List.mem_append.mp hk with h1 | h1
      · exact h.at_ _ _ h1
      · rw [List.mem_singleton] at h1
        cases h1
        exact ⟨ns, i, rfl, hs, rfl, ha⟩
theorem MemoOk.get {v : V} (h : MemoOk an dt L0 kvs) (e : valV kvs (kI ns) = some v) : ∃ i, v = .int i ∧ an dt ns (.int i) := by
  unfold valV at e
  obtain ⟨kv, h1, h2⟩ := Option.map_eq_some_iff.mp e
  have hm := List.mem_of_find?_eq_some h1
  have hk := List.find?_some h1
  rw [decide_eq_true_eq] at hk
  obtain ⟨k, v'⟩ := kv
  obtain ⟨ns', i, e1, _, e3, e4⟩ := h.at_ _ _ hm
  have e5 : ns' = ns := kI_inj (e1.symm.trans hk)
  subst e5
  exact ⟨i, by rw [← h2]; exact e3, e4⟩
end
theorem GrowX.of {F H F' H' : Hp} {p : Addr} (g : Grow F H F' H') (hp : H p ≠ none) : GrowX p F H F' H' := ⟨fun b u _ e => g.h b u e, g.f, g.s, g.n, fun z => by
  cases e : H p with
  | none => exact hp e
  | some u =>
    have := g.h p u e
    rw [z] at this
    cases this⟩
theorem GrowX.trans {F H F1 H1 F2 H2 : Hp} {p : Addr} (a : GrowX p F H F1 H1) (b : GrowX p F1 H1 F2 H2) (hp : H p ≠ none) : GrowX p F H F2 H2 :=
  ⟨fun c u hc e => b.h c u hc (a.h c u hc e), a.f.trans b.f, b.s, fun x hx => (b.n x hx).elim (fun q => a.n x q) fun q => .inr (by
    by_cases hx : x = p
    · rw [hx] at q
      exact absurd q a.p
    · cases e : H x with
      | none => rfl
      | some u =>
        have := a.h x u hx e
        rw [q] at this
        cases this), b.p⟩
theorem GrowX.none {F H F' H' : Hp} {p : Addr} (g : GrowX p F H F' H') (hF : F p = none) (hp : H p ≠ none) : F' p = none := by
  cases e : F' p with
  | none => rfl
  | some u =>
    rcases g.n p (by rw [e]; simp) with z | z
    · exact absurd hF z
    · exact absurd z hp

/-! ### what the evaluator's pieces say -/
def NoOwn (ρ : En) : Prop := ∀ (i : Nat) (ds : List D), ρ[i]? ≠ some (.own ds)
theorem NoOwn.thaw {ρ : En} (h : NoOwn ρ) : Mz.thaw ρ = ρ := by
  apply List.ext_getElem?
  intro i
  rw [thaw_get]
  cases e : ρ[i]? with
  | none => rfl
  | some s =>
    cases s with
    | un => rfl
    | py d => rfl
    | own ds => exact absurd e (h i ds)
theorem NoOwn.set {ρ : En} (h : NoOwn ρ) (i : Nat) (d : D) : NoOwn (ρ.set i (.py d)) := fun j ds e => by
  rw [List.getElem?_set] at e
  split at e
  · split at e <;> cases e
  · exact h j ds e
theorem NoOwn.setE {ρ : En} (h : NoOwn ρ) : ∀ (is : List Nat) (ds : List D), NoOwn (Mz.setE ρ is ds)
  | [], _ => by unfold Mz.setE; exact h
  | _ :: _, [] => by unfold Mz.setE; exact h
  | i :: is, d :: ds => by
    unfold Mz.setE
    exact (h.set i d).setE is ds
theorem setE_get {ρ : En} {j : Nat} : ∀ (is : List Nat) (ds : List D), j ∉ is → (Mz.setE ρ is ds)[j]? = ρ[j]?
  | [], _, _ => by unfold Mz.setE; rfl
  | _ :: _, [], _ => by unfold Mz.setE; rfl
  | i :: is, d :: ds, h => by
    unfold Mz.setE
    rw [setE_get (ρ := ρ.set i (.py d)) is ds (fun z => h (List.mem_cons_of_mem _ z)), List.getElem?_set_ne (fun z => h (by rw [z]; exact List.mem_cons_self))]
section
variable {cal : Nat → List D → Out D} {a b c m : M} {ρ : En} {d : D}
theorem sq_ret (h : evS cal (.sq a b) ρ = .ret d) : evS cal a ρ = .ret d ∨ ∃ ρ', evS cal a ρ = .nx ρ' ∧ evS cal b ρ' = .ret d := by
  simp only [evS] at h
  cases e : evS cal a ρ with
  | nx ρ' =>
    rw [e] at h
    exact .inr ⟨ρ', rfl, h⟩
  | bad => rw [e] at h; cases h
  | ret d' => rw [e] at h; exact .inl h
  | exc c ρ' => rw [e] at h; cases h
theorem sq_nx {ρ2 : En} (h : evS cal (.sq a b) ρ = .nx ρ2) : ∃ ρ', evS cal a ρ = .nx ρ' ∧ evS cal b ρ' = .nx ρ2 := by
  simp only [evS] at h
  cases e : evS cal a ρ with
  | nx ρ' =>
    rw [e] at h
    exact ⟨ρ', rfl, h⟩
  | bad => rw [e] at h; cases h
  | ret d' => rw [e] at h; cases h
  | exc c ρ' => rw [e] at h; cases h
theorem sq_nil : evS cal (.sq a .nil) ρ = evS cal a ρ := by
  simp only [evS]
  cases evS cal a ρ <;> rfl
theorem ifs_eq : evS cal (.ifs c a b) ρ = (evE cal (thaw ρ) c).wth (byB (evS cal a ρ) (evS cal b ρ)) ρ := by
  simp only [evS]
  rfl
/-- a test that came to an end -/
theorem ifs_inv {o : SO} (n : NoOwn ρ) (h : evS cal (.ifs c a b) ρ = o) (hb : o ≠ .bad) (hx : ∀ k ρ', o ≠ .exc k ρ') : ∃ k : Bool, evE cal ρ c = .ok (.bool k) ∧ (if k = true then evS cal a ρ else evS cal b ρ) = o := by
  rw [ifs_eq, n.thaw] at h
  cases e : evE cal ρ c with
  | bad => rw [e] at h; exact absurd h.symm hb
  | exc k => rw [e] at h; exact absurd h.symm (hx k ρ)
  | ok d =>
    rw [e, wth_ok] at h
    unfold byB at h
    cases d <;> first | exact absurd h.symm hb | skip
    rename_i k
    refine ⟨k, rfl, ?_⟩
    cases k <;> exact h
theorem NoOwn.own (n : NoOwn ρ) (i : Nat) : isOwn ρ[i]? = false := by
  cases e : ρ[i]? with
  | none => rfl
  | some s =>
    cases s with
    | un => rfl
    | py d => rfl
    | own ds => exact absurd e (n i ds)
theorem NoOwn.ment (n : NoOwn ρ) : ∀ m : M, Mz.ment ρ m = false := by
  intro m
  induction m <;> simp_all [Mz.ment, n.own]
theorem asg_eq (n : NoOwn ρ) (i : Nat) (e : M) : evS cal (.asg (.n i) e) ρ = (evE cal ρ e).wth (fun d => .nx (ρ.set i (.py d))) ρ := by
  simp only [evS]
  unfold evX
  rw [if_neg (by rw [n.ment]; decide)]
  rfl
theorem compL_sub {f : D → Out (Option D)} (hf : ∀ x y, f x = .ok (some y) → y = x) : ∀ {xs l : List D}, compL f xs = .ok l → l.Sublist xs
  | [], l, h => by
    cases h
    exact List.Sublist.refl _
  | x :: xs, l, h => by
    simp only [compL] at h
    cases e : f x with
    | bad => rw [e] at h; cases h
    | exc c => rw [e] at h; cases h
    | ok o =>
      rw [e] at h
      cases o with
      | none =>
        simp only at h
        cases e2 : compL f xs with
        | bad => rw [e2] at h; cases h
        | exc c => rw [e2] at h; cases h
        | ok l' =>
          rw [e2] at h
          cases h
          exact (compL_sub hf e2).cons x
      | some y =>
        simp only at h
        cases e2 : compL f xs with
        | bad => rw [e2] at h; cases h
        | exc c => rw [e2] at h; cases h
        | ok l' =>
          rw [e2] at h
          cases h
          rw [hf x y e]
          exact (compL_sub hf e2).cons_cons x
end
/-! ### the def -/
/-- left == () -/
abbrev mm0 : M := .cmp .Eq (.nm 1) (.tup .nil)
abbrev mm2 : M := .band (.cmp .In (.sub (.nm 1) (.ci 0)) (.nm 5)) (.b1 (.blt .all (.cons (.lc [("beat", 6)] (.n 6) (.b1 (.nm 5)) .nil (.cmp .In (.nm 6) (.nm 1))) .nil)))
abbrev mm3 : M := .blt .tuple (.cons (.lc [("beat", 6)] (.n 6) (.b1 (.nm 1)) (.b1 (.cmp .NotIn (.nm 6) (.nm 5))) (.nm 6)) .nil)
def mmB (jv : Nat) : M := .sq (.ifs mm2 (.sq (.asg (.n 3) (.bin .Add (.nm 3) (.call jv (.cons (.nm 0) (.cons mm3 .nil))))) .nil) .nil) .nil
/-- the def without the table -/
def memoV (jv : Nat) : M :=
  .sq (.ifs mm0 (.sq (.ret (.ci 1)) .nil) .nil) <| .sq (.asg (.n 3) (.ci 0)) <| .sq (.fr (.t [4, 5]) (.b1 (.nm 0)) (mmB jv) []) <| .sq (.ret (.nm 3)) .nil
abbrev memoN : List Str := ["tiles", "left", "known", "total", "name", "beats", "beat"]
def memoF (jv : Nat) : Fn := ⟨2, memoN, memoV jv⟩
def nmB (sc : Scope) (i : Nat) (e : Expr) : Bool := match e with
  | .Name x _ => decide (memoN[i]? = some x) && visB sc x && plainNm x
  | _ => false
def memoB (g : Pg) (sc : Scope) (x : Str) : List Stmt → Bool
  | [.If e0 [.Return (some e1) _] [] _, .If (.Compare l1 [.NotIn] [k1] _) [.Assign [.Name t1 tp] (.Constant (.int z) _ _) _, .For tg it [.If c [.Assign [.Name t2 tp2] (.BinOp t3 .Add (.Call (.Name f _) [a1, a2, k2] [] _) _) _] [] _] [] _, .Assign [.Subscript k3 l2 _] (.Name t4 tp4) _] [] _, .Return (some (.Subscript k4 l3 _)) _] =>
    mE g memoN sc mm0 e0 && mE g memoN sc (.ci 1) e1 && nmB sc 1 l1 && nmB sc 2 k1 && tgN memoN (fun _ => true) sc 3 (.Name t1 tp) && decide (z = 0) && mT memoN (fun _ => true) sc (.t [4, 5]) tg && mI g memoN sc tg (.b1 (.nm 0)) it &&
      mE g memoN sc mm2 c && tgN memoN (fun _ => true) sc 3 (.Name t2 tp2) && nmB sc 3 t3 && decide (f = x) && glB sc f && mE g memoN sc (.nm 0) a1 && mE g memoN sc mm3 a2 && nmB sc 2 k2 && nmB sc 2 k3 && nmB sc 1 l2 && nmB sc 3 (.Name t4 tp4) && nmB sc 2 k4 && nmB sc 1 l3
  | _ => false
theorem mmB_inv {cal : Nat → List D → Out D} {ρ : En} {jv : Nat} {t : Int} (n : NoOwn ρ) (h3 : ρ[3]? = some (.py (.int t))) (hb : evS cal (mmB jv) ρ ≠ .bad) (hx : ∀ c ρ', evS cal (mmB jv) ρ ≠ .exc c ρ') : ∃ k : Bool, evE cal ρ mm2 = .ok (.bool k) ∧ ((k = false ∧ evS cal (mmB jv) ρ = .nx ρ) ∨ (k = true ∧ ∃ dt y c, evE cal ρ (.nm 0) = .ok dt ∧ evE cal ρ mm3 = .ok y ∧ cal jv [dt, y] = .ok (.int c) ∧ evS cal (mmB jv) ρ = .nx (ρ.set 3 (.py (.int (t + c)))))) := by
  have e0 : evS cal (mmB jv) ρ = evS cal (.ifs mm2 (.sq (.asg (.n 3) (.bin .Add (.nm 3) (.call jv (.cons (.nm 0) (.cons mm3 .nil))))) .nil) .nil) ρ := sq_nil
  rw [e0] at hb hx ⊢
  rw [ifs_eq, n.thaw] at hb hx ⊢
  cases e : evE cal ρ mm2 with
  | bad => rw [e] at hb; exact absurd rfl hb
  | exc c => rw [e] at hx; exact absurd rfl (hx c ρ)
  | ok d =>
    rw [e, wth_ok] at hb hx
    cases d <;> first | exact absurd rfl hb | skip
    rename_i k
    refine ⟨k, rfl, ?_⟩
    rw [wth_ok]
    cases k with
    | false => exact .inl ⟨rfl, rfl⟩
    | true =>
      right
      refine ⟨rfl, ?_⟩
      simp only [byB] at hb hx ⊢
      rw [sq_nil, asg_eq n] at hb hx ⊢
      have e2 : evE cal ρ (.bin .Add (.nm 3) (.call jv (.cons (.nm 0) (.cons mm3 .nil)))) = ((evE cal ρ (.nm 0)).bnd fun dt => (evE cal ρ mm3).bnd fun y => cal jv [dt, y]).bnd fun y => opBin .Add (.int t) y := by
        simp only [evE, evA, h3, bnd_ok, bnd_assoc]
      rw [e2] at hb hx ⊢
      cases o1 : evE cal ρ (.nm 0) with
      | bad => rw [o1] at hb; exact absurd rfl hb
      | exc c => rw [o1] at hx; exact absurd rfl (hx c ρ)
      | ok dt =>
        rw [o1, bnd_ok] at hb hx
        cases o2 : evE cal ρ mm3 with
        | bad => rw [o2] at hb; exact absurd rfl hb
        | exc c => rw [o2] at hx; exact absurd rfl (hx c ρ)
        | ok y =>
          rw [o2, bnd_ok] at hb hx
          cases o3 : cal jv [dt, y] with
          | bad => rw [o3] at hb; exact absurd rfl hb
          | exc c => rw [o3] at hx; exact absurd rfl (hx c ρ)
          | ok r =>
            rw [o3, bnd_ok] at hb hx
            cases r <;> first | exact absurd rfl hb | skip
            rename_i c
            refine ⟨dt, y, c, rfl, rfl, o3, ?_⟩
            rw [bnd_ok, bnd_ok, o3]
            rfl
section
variable {K : PySem.W.Frag} {F0 H0 F H F' H' : Hp} {σ : L2.St} {ρ : En} {cal : Nat → List D → Out D}
theorem EnvOk.rb (E : EnvOk K F0 H0 F H σ ρ) (n : NoOwn ρ) (f : Same F F') (s : Same F' H') : EnvOk K F' H' F' H' σ ρ :=
  ⟨Grow.refl s, E.len, fun i d e => let ⟨v, h1, h2⟩ := E.py i d e; ⟨v, h1, h2.same f⟩, fun i ds e => absurd e (n i ds)⟩
theorem blt1 (b : Bl) (a : M) : evE cal ρ (.blt b (.cons a .nil)) = (evE cal ρ a).bnd fun x => opBl b [x] := by
  simp only [evE, evA]
  cases evE cal ρ a <;> rfl
/-- the beats that are left: a part of those before -/
theorem rest_sub {ns : List Int} {y : D} (h1 : ρ[1]? = some (.py (tupI ns))) (h : evE cal ρ mm3 = .ok y) : ∃ ns' : List Int, y = tupI ns' ∧ ns'.Sublist ns := by
  unfold mm3 at h
  rw [blt1, evE_lc] at h
  rw [show evI cal ρ (.b1 (.nm 1)) = .ok (ns.map .int) by
    simp only [evI, evE, h1]
    rfl] at h
  rw [bnd_ok] at h
  cases e : compL (turnL cal ρ [("beat", 6)] (.n 6) (.b1 (.cmp .NotIn (.nm 6) (.nm 5))) (.nm 6)) (ns.map .int) with
  | bad => rw [e] at h; cases h
  | exc c => rw [e] at h; cases h
  | ok l =>
    rw [e] at h
    simp only [bnd_ok, opBl, Out.ok.injEq] at h
    have q := compL_sub (fun x y hx => by
      unfold turnL at hx
      simp only [asgT] at hx
      generalize asB (evE cal _ (.b1 (.cmp .NotIn (.nm 6) (.nm 5)))) = o at hx
      cases o with
      | bad => cases hx
      | exc c => cases hx
      | ok k =>
        rw [bnd_ok] at hx
        cases k with
        | false => cases hx
        | true =>
          rw [if_pos rfl] at hx
          simp only [evE, List.getElem?_set, if_true] at hx
          split at hx
          · rename_i d hd
            split at hd
            · cases hd
              cases hx
              rfl
            · cases hd
          · cases hx) e
    obtain ⟨l', h2, h3⟩ := List.sublist_map_iff.mp q
    exact ⟨l', by rw [← h, h3] <;> rfl, h2⟩
end
section
variable {g : Pg} {cl : Nat → Addr} {k : Nat} {cal : Nat → List D → Out D} {X : Cx} {W : WX} {sc : Scope}
theorem nmB_pe (C : Cs g memoN cl k cal X W sc) {i : Nat} {e : Expr} (h : nmB sc i e = true) : PE X e (tVar i) := by
  unfold nmB at h
  split at h
  · simp only [Bool.and_eq_true, decide_eq_true_eq] at h
    exact nm_pe C h.1.1 h.1.2 h.2
  · cases h
theorem nmB_nl {i : Nat} {e : Expr} (h : nmB sc i e = true) : ∃ x p, e = .Name x p := by
  unfold nmB at h
  split at h
  · exact ⟨_, _, rfl⟩
  · cases h
/-- what the body is told -/
def tMemo (K : PySem.W.Frag) (cal : Nat → List D → Out D) (jv : Nat) (an : D → List Int → D → Prop) : TS := fun D' σ H => ∃ (F : Hp) (p : Addr) (kvs : List (List Key × V)) (dt : D) (ns L0 : List Int) (d : D) (ρ : En), EnvOk K F H F H σ ρ ∧ NoOwn ρ ∧
  ρ[0]? = some (.py dt) ∧ ρ[1]? = some (.py (tupI ns)) ∧ 3 < ρ.length ∧ σ[2]? = some (some (.ref p)) ∧ F p = none ∧ H p = some (.dT kvs) ∧ ns.Sublist L0 ∧ L0.length ≤ 12 ∧ MemoOk an dt L0 kvs ∧ evS cal (memoV jv) ρ = .ret d ∧ an dt ns d ∧
  ∀ v F' H' kvs', GrowX p F H F' H' → F' p = none → H' p = some (.dT kvs') → MemoOk an dt L0 kvs' → Dn K F' v d → D'.rt v H'
theorem memo_body {jv : Nat} {x : Str} {an : D → List Int → D → Prop} {body : List Stmt} (C : Cs g memoN cl k cal X W sc) (hx : g.mf = some (jv, x)) (A : AnOk (cal jv) an) (one : ∀ dt ns d d', an dt ns d → an dt ns d' → d = d') (h : memoB g sc x body = true) : PSs X body (tMemo X.K cal jv an) := by
  unfold memoB at h
  split at h
  rotate_left
  · cases h
  rename_i e0 e1 _ _ l1 k1 _ t1 tp z _ _ _ tg it c t2 tp2 t3 f fp a1 a2 k2 _ _ _ _ _ k3 l2 _ t4 tp4 _ _ k4 l3 _ _
  simp only [Bool.and_eq_true, decide_eq_true_eq] at h
  obtain ⟨⟨⟨⟨⟨⟨⟨⟨⟨⟨⟨⟨⟨⟨⟨⟨⟨⟨⟨⟨h1, h2⟩, h3⟩, h4⟩, h5⟩, h6⟩, h7⟩, h8⟩, h9⟩, h10⟩, h11⟩, h12⟩, h13⟩, h14⟩, h15⟩, h16⟩, h17⟩, h18⟩, h19⟩, h20⟩, h21⟩ := h
  subst h12
  obtain ⟨fa, fd, ps0, c1, c2, c3, c4⟩ := C.fc.mf jv _ hx
  have FN := c4 an A
  obtain ⟨gl1, gl2, gl3⟩ := C.toCk.gl h13
  have hu : X.A.units + 1 < cLine := by
    have := C.toCk.hu
    omega
  obtain ⟨xl2, pl2, el2⟩ := nmB_nl h18
  obtain ⟨xk1, pk1, ek1⟩ := nmB_nl h4
  obtain ⟨xl3, pl3, el3⟩ := nmB_nl h21
  obtain ⟨xk2, pk2, ek2⟩ := nmB_nl h16
  have s1 := fun pos pos' => ps_if (X := X) (pos := pos) ((snd mm0).t C.toCk h1) ((ps (.sq (.ret (.ci 1)) .nil)).bs C (s := [.Return (some e1) pos']) (by simp only [mB, mS, h2, Bool.and_true])) pss_nil
  have args : PA X [a1, a2, k2] (tCons (tE X.K W cl cal (.nm 0)) (tCons (tE X.K W cl cal mm3) (tCons (tVar 2) tNil))) := pa_cons ((snd (.nm 0)).e C.toCk h14) (pa_cons ((snd mm3).e C.toCk h15) (pa_cons (nmB_pe C h16) pa_nil (by rw [ek2] <;> rfl)) (star_ok h15 _ _)) (star_ok h14 _ _)
  have call := fun p2 => pe_callS (pos := p2) (p := fp) FN C.room gl1 c1 c2 c3 (fun σ => passAt C.tk σ) args gl2 (star_ok h14 _ _) (by
    unfold backTo
    rw [star_ok h15, ek2] <;> rfl)
  have s2 := fun p1 p2 p3 p4 p5 p6 p7 p8 pt8 p9 kz pz => ps_if (X := X) (pos := p1) (pt_cmp (pos := p2) (pc_dnotin hu (nmB_pe C h3) (nmB_pe C h4)) (by rw [ek1] <;> rfl))
    (pss_cons (ps_asg (pos := p3) (pe_int (i := z) (j := kz) (pos := pz)) (tgN_ok C.tk' h5))
      (pss_cons (ps_for (pos := p4) C.po C.calm ((snd (.b1 (.nm 0))).i C.toCk h8) (mT_ok C.tk' h7) (pss_one (ps_if (pos := p5) ((snd mm2).t C.toCk h9) (pss_one (ps_asg (pos := p6) (pe_op (pos := p7) op_add (nmB_pe C h11) (call p9)) (tgN_ok C.tk' h10))) pss_nil)) (fold_I h8 _))
        (pss_one (ps_dput (pos := p8) (pos' := pt8) hu (nmB_pe C h17) (nmB_pe C h18) (nmB_pe C h19) rfl)))) pss_nil
  have s3 := fun p1 p2 => ps_ret (X := X) (pos := p1) (pe_dget (pos := p2) hu (nmB_pe C h20) (nmB_pe C h21) (by
    rw [el3]
    exact fun _ _ => rfl))
  refine ⟨fun pins s σ H D' I hyp => (pss_cons (s1 _ _) (pss_cons (s2 _ _ _ _ _ _ _ _ _ _ _ _) (pss_one (s3 _ _)))).run pins s σ H D' I ?_⟩
  obtain ⟨F, p, kvs, dt, ns, L0, d, ρ, E, nO, r0, r1, rl, s2', nF, hp, hsub, hl, mo, hev, had, fin⟩ := hyp
  have hpn : H p ≠ none := by
    rw [hp]
    simp
  -- what the evaluator says up to the loop
  have key : ∃ kk : Bool, evE cal ρ mm0 = .ok (.bool kk) ∧ (kk = true → d = .int 1) ∧ (kk = false → evS cal (.sq (.asg (.n 3) (.ci 0)) <| .sq (.fr (.t [4, 5]) (.b1 (.nm 0)) (mmB jv) []) <| .sq (.ret (.nm 3)) .nil) ρ = .ret d) := by
    have e1 : evS cal (.sq (.ret (.ci 1)) .nil) ρ = .ret (.int 1) := by
      rw [sq_nil]
      simp only [evS, evE, wth_ok]
    unfold memoV at hev
    rcases sq_ret hev with hA | ⟨ρ', hA, hB⟩
    · obtain ⟨kk, q1, q2⟩ := ifs_inv nO hA (fun z => nomatch z) (fun _ _ z => nomatch z)
      cases kk with
      | true =>
        rw [if_pos rfl, e1] at q2
        exact ⟨true, q1, fun _ => (SO.ret.inj q2).symm, fun z => nomatch z⟩
      | false =>
        rw [if_neg (by decide)] at q2
        simp only [evS] at q2
        cases q2
    · obtain ⟨kk, q1, q2⟩ := ifs_inv nO hA (fun z => nomatch z) (fun _ _ z => nomatch z)
      cases kk with
      | true =>
        rw [if_pos rfl, e1] at q2
        cases q2
      | false =>
        rw [if_neg (by decide)] at q2
        simp only [evS] at q2
        cases q2
        exact ⟨false, q1, fun z => (nomatch z), fun _ => hB⟩
  obtain ⟨kk, q0, qt, qf⟩ := key
  show tT X.K W cl cal mm0 σ H _
  refine ⟨F, H, ρ, F, E, ?_⟩
  rw [q0]
  intro b F1 H1 L1 g1 hb
  have hb' : b = kk := hb
  subst hb'
  have E1 : EnvOk X.K F1 H1 F1 H1 σ ρ := (E.grow g1).rb nO (Same.refl _) g1.s
  have hp1 : H1 p = some (.dT kvs) := g1.h _ _ hp
  have hpn1 : H1 p ≠ none := by
    rw [hp1]
    simp
  have gx1 : GrowX p F H F1 H1 := .of g1 hpn
  have nF1 := gx1.none nF hpn
  cases b with
  | true =>
    rw [if_pos rfl]
    refine ⟨F1, H1, ρ, F1, E1, ?_⟩
    rw [sq_nil]
    simp only [evS, evE, wth_ok]
    intro v F2 H2 g2 r2
    have gx2 : GrowX p F1 H1 F2 H2 := .of g2 hpn1
    rw [← qt rfl] at r2
    exact fin v F2 H2 kvs (gx1.trans gx2 hpn) (gx2.none nF1 hpn1) (g2.h _ _ hp1) mo r2
  | false =>
    have hev := qf rfl
    rw [if_neg (by decide)]
    -- the key
    obtain ⟨vl, hs1, hdl⟩ := E1.py 1 _ r1
    cases hdl with
    | tup hb1 ha1 =>
    rename_i ba xs
    have vI : ∀ ns : List Int, allInts (ns.map .int) = some ns := fun ns => by
      induction ns with
      | nil => rfl
      | cons x r ih =>
        rw [List.map_cons]
        unfold allInts
        rw [ih]
    obtain ⟨ex, _⟩ := ha1.ints (vI ns)
    subst ex
    have hbk : H1 ba = some (.tup ((kI ns).map L2.kV)) := by
      rw [kI_kV]
      exact E1.s _ _ hb1
    refine ⟨.ref ba, hs1, .ref p, s2', p, valV kvs (kI ns), rfl, DGet.t hp1 hbk, _, rfl, ?_⟩
    cases hv : valV kvs (kI ns) with
    | some v0 =>
      rw [if_neg (by simp)]
      obtain ⟨i, ei, ha⟩ := mo.get hv
      refine ⟨.ref p, s2', .ref ba, hs1, p, v0, rfl, ?_, fin v0 F1 H1 kvs gx1 nF1 hp1 mo ?_⟩
      · rw [← hv]
        exact DGet.t hp1 hbk
      · rw [ei, one _ _ _ _ had ha]
        exact .int i
    | none =>
      rw [if_pos (by simp)]
      subst h6
      have n1 : NoOwn (ρ.set 3 (.py (.int 0))) := nO.set 3 (.int 0)
      have E1' : EnvOk X.K F1 H1 F1 H1 (σ.set 3 (some (.int 0))) (ρ.set 3 (.py (.int 0))) := E1.set (.int 0) 3
      have q0' : (ρ.set 3 (.py (.int 0)))[0]? = some (.py dt) := by rw [List.getElem?_set_ne (by decide)]; exact r0
      have q1' : (ρ.set 3 (.py (.int 0)))[1]? = some (.py (tupI ns)) := by rw [List.getElem?_set_ne (by decide)]; exact r1
      have q3' : (ρ.set 3 (.py (.int 0)))[3]? = some (.py (.int 0)) := by rw [List.getElem?_set_self rl]
      have p2' : (σ.set 3 (some (.int 0)))[2]? = some (some (.ref p)) := by rw [List.getElem?_set_ne (by decide)]; exact s2'
      have hev2 : evS cal (.sq (.fr (.t [4, 5]) (.b1 (.nm 0)) (mmB jv) []) <| .sq (.ret (.nm 3)) .nil) (ρ.set 3 (.py (.int 0))) = .ret d := by
        rcases sq_ret hev with z | ⟨ρ', z1, z2⟩
        · rw [asg_eq nO] at z
          simp only [evE, wth_ok] at z
          cases z
        · rw [asg_eq nO] at z1
          simp only [evE, wth_ok] at z1
          cases z1
          exact z2
      generalize ρ.set 3 (.py (.int 0)) = ρ1 at n1 E1' q0' q1' q3' hev2
      have ho := sq_ret hev2
      obtain ⟨o, eo⟩ : ∃ o, evS cal (.fr (.t [4, 5]) (.b1 (.nm 0)) (mmB jv) []) ρ1 = o := ⟨_, rfl⟩
      rw [eo] at ho
      have hob : o ≠ .bad := by
        rcases ho with z | ⟨_, z, _⟩ <;> rw [z] <;> exact fun y => nomatch y
      have hox : ∀ c ρ', o ≠ .exc c ρ' := by
        rcases ho with z | ⟨_, z, _⟩ <;> rw [z] <;> exact fun _ _ y => nomatch y
      obtain ⟨fL, efL⟩ : ∃ fL : D → En → SO, fL = fun x ρ' => match asgT (.t [4, 5]) x ρ' with
        | some ρ2 => evS cal (mmB jv) ρ2
        | none => .bad := ⟨_, rfl⟩
      have eo2 : (match evI cal ρ1 (.b1 (.nm 0)) with
        | .ok xs => forL fL [] xs ρ1
        | .exc c => .exc c ρ1
        | .bad => .bad) = o := by
        rw [← eo, efL]
        simp only [evS]
        rw [if_neg (by rw [n1.ment]; decide)] <;> cases evI cal ρ1 (.b1 (.nm 0)) <;> rfl
      refine ⟨F1, H1, ρ1, F1, E1', ?_⟩
      cases oi : evI cal ρ1 (.b1 (.nm 0)) with
      | bad => rw [oi] at eo2; exact absurd eo2.symm hob
      | exc c => rw [oi] at eo2; exact absurd eo2.symm (hox c ρ1)
      | ok xs =>
      rw [oi] at eo2
      simp only at eo2
      intro J F2 H2 Lw g2 ⟨lx, wk⟩
      have gx2 : GrowX p F H F2 H2 := gx1.trans (.of g2 hpn1) hpn
      refine for_it wk (fun i σ' H' => ∃ F' ρi kvs' t, EnvOk X.K F' H' F' H' σ' ρi ∧ NoOwn ρi ∧ ρi[0]? = some (.py dt) ∧ ρi[1]? = some (.py (tupI ns)) ∧ ρi[3]? = some (.py (.int t)) ∧ σ'[2]? = some (some (.ref p)) ∧
        GrowX p F H F' H' ∧ H' p = some (.dT kvs') ∧ MemoOk an dt L0 kvs' ∧ Same F2 F' ∧ forL fL [] (xs.drop i) ρi = o) ?_ ?_ ?_ ?_
      · exact ⟨F2, ρ1, kvs, 0, (E1'.grow g2).rb n1 (Same.refl _) g2.s, n1, q0', q1', q3', p2', gx2, g2.h _ _ hp1, mo, Same.refl _, eo2⟩
      · rintro i σ' H' _ ⟨F', ρi, kvs', t, E', _, _, _, _, _, _, _, _, sf, _⟩
        exact sf.trans E'.s
      · rintro i v σ2 H3 H4 hi ⟨F3, ρi, kvs3, t, E3, n3, a0, a1', a3, b2, gx3, hp3, mo3, sf, f3⟩ hy
        obtain ⟨F4, d4, g4, hd4, rd4⟩ := hy F3 sf E3.s
        have hdr : xs.drop i = d4 :: xs.drop (i + 1) := by
          obtain ⟨h1, h2⟩ := List.getElem?_eq_some_iff.mp hd4
          rw [← h2]
          exact List.drop_eq_getElem_cons h1
        rw [hdr] at f3
        simp only [forL] at f3
        have hpn3 : H3 p ≠ none := by rw [hp3]; simp
        have gx4 : GrowX p F H F4 H4 := gx3.trans (.of g4 hpn3) hpn
        have hp4 : H4 p = some (.dT kvs3) := g4.h _ _ hp3
        have hpn4 : H4 p ≠ none := by rw [hp4]; simp
        have E4 : EnvOk X.K F4 H4 F4 H4 σ2 ρi := (E3.grow g4).rb n3 (Same.refl _) g4.s
        cases oa : asgT (.t [4, 5]) d4 ρi with
        | none =>
          rw [show fL d4 ρi = .bad by rw [efL]; simp only [oa]] at f3
          exact absurd f3.symm hob
        | some ρ2 =>
        have ef : fL d4 ρi = evS cal (mmB jv) ρ2 := by rw [efL]; simp only [oa]
        rw [ef] at f3
        refine gT_rd oa rd4 E4 fun σ5 E5 w5 => ?_
        -- the slots that the target does not name
        have hset : ∃ ds, ρ2 = setE ρi [4, 5] ds := by
          simp only [asgT] at oa
          split at oa
          · split at oa <;> cases oa
            exact ⟨_, rfl⟩
          · split at oa <;> cases oa
            exact ⟨_, rfl⟩
          · cases oa
        obtain ⟨ds, eset⟩ := hset
        have n5 : NoOwn ρ2 := by rw [eset]; exact n3.setE _ _
        have c0 : ρ2[0]? = some (.py dt) := by rw [eset, setE_get _ _ (by decide)]; exact a0
        have c1' : ρ2[1]? = some (.py (tupI ns)) := by rw [eset, setE_get _ _ (by decide)]; exact a1'
        have c3' : ρ2[3]? = some (.py (.int t)) := by rw [eset, setE_get _ _ (by decide)]; exact a3
        have w5' := w5 [("", 4), ("", 5)] (by decide)
        have d2 : σ5[2]? = some (some (.ref p)) := by
          have z := congrArg (fun l => l[2]?) w5'
          simp only at z
          rw [wipe_get, wipe_get, if_neg (by simp), if_neg (by simp)] at z
          rw [z]
          exact b2
        have gb : evS cal (mmB jv) ρ2 ≠ .bad := fun z => by
          rw [z] at f3
          exact hob f3.symm
        have gxc : ∀ c ρ', evS cal (mmB jv) ρ2 ≠ .exc c ρ' := fun c ρ' z => by
          rw [z] at f3
          exact hox c ρ' f3.symm
        obtain ⟨kk, u1, u2⟩ := mmB_inv n5 c3' gb gxc
        refine ⟨F4, H4, ρ2, F4, E5, ?_⟩
        rw [u1]
        intro bb F5 H5 L5 g5 hbb
        have hbb' : bb = kk := hbb
        subst hbb'
        have hp5 : H5 p = some (.dT kvs3) := g5.h _ _ hp4
        have hpn5 : H5 p ≠ none := by rw [hp5]; simp
        have gx5 : GrowX p F H F5 H5 := gx4.trans (.of g5 hpn4) hpn
        have E6 : EnvOk X.K F5 H5 F5 H5 σ5 ρ2 := (E5.grow g5).rb n5 (Same.refl _) g5.s
        have sf5 : Same F2 F5 := (sf.trans g4.f).trans g5.f
        rcases u2 with ⟨ek, u2⟩ | ⟨ek, dt', y, c, u2, u3, u4, u5⟩
        · subst ek
          rw [if_neg (by decide)]
          rw [u2] at f3
          exact ⟨F5, ρ2, kvs3, t, E6, n5, c0, c1', c3', d2, gx5, hp5, mo3, sf5, f3⟩
        · subst ek
          rw [if_pos rfl]
          rw [u5] at f3
          have edt : dt' = dt := by
            simp only [evE, c0] at u2
            exact (Out.ok.inj u2).symm
          subst edt
          obtain ⟨ns', ey, hs'⟩ := rest_sub c1' u3
          subst ey
          obtain ⟨v3, hv3, rv3⟩ := E6.py 3 _ c3'
          cases rv3
          refine ⟨_, hv3, ?_⟩
          refine ⟨F5, H5, ρ2, F5, E6, ?_⟩
          rw [u2]
          intro x1 F6 H6 L6 g6 rx1
          have E7 := E6.grow g6
          refine ⟨F5, H5, ρ2, F6, E7, ?_⟩
          rw [u3]
          intro x2 F7 H7 L7 g7 rx2
          refine ⟨_, d2, ?_⟩
          have hp7 : H7 p = some (.dT kvs3) := g7.h _ _ (g6.h _ _ hp5)
          have hpn7 : H7 p ≠ none := by rw [hp7]; simp
          have gx7 : GrowX p F H F7 H7 := gx5.trans (.of (g6.trans g7) hpn5) hpn
          refine ⟨F7, x1, x2, p, kvs3, dt', ns', L0, .int c, rfl, g7.s, gx7.none nF hpn, hp7, rx1.same g7.f, rx2, hs'.trans hsub, hl, mo3, u4, fun v F8 H8 kvs8 gx8 nF8 hp8 mo8 rv8 => ?_⟩
          cases rv8
          refine ⟨_, _, rfl, rfl, ?_⟩
          have gx9 := gx7.trans gx8 hpn
          refine ⟨F8, ρ2.set 3 (.py (.int (t + c))), kvs8, t + c, ((E6.rb n5 ((g6.f.trans g7.f).trans gx8.f) gx8.s)).set (.int _) 3, n5.set 3 _, ?_, ?_, ?_, ?_, gx9, hp8, mo8, ((sf5.trans g6.f).trans g7.f).trans gx8.f, f3⟩
          · rw [List.getElem?_set_ne (by decide)]; exact c0
          · rw [List.getElem?_set_ne (by decide)]; exact c1'
          · rw [List.getElem?_set_self (List.getElem?_eq_some_iff.mp c3').1]
          · rw [List.getElem?_set_ne (by decide)]; exact d2
      · rintro σ2 H3 ⟨F3, ρi, kvs3, t, E3, n3, a0, a1', a3, b2, gx3, hp3, mo3, sf, f3⟩
        rw [List.drop_length] at f3
        simp only [forL] at f3
        -- the end of the loop
        have ed : d = .int t := by
          rcases ho with z | ⟨ρe, z1, z2⟩
          · rw [z] at f3
            cases f3
          · rw [z1] at f3
            cases f3
            rw [sq_nil] at z2
            simp only [evS, n3.thaw, evE, a3, wth_ok] at z2
            exact (SO.ret.inj z2).symm
        subst ed
        obtain ⟨v3, hv3, rv3⟩ := E3.py 3 _ a3
        cases rv3
        obtain ⟨vk, hs3, hdk⟩ := E3.py 1 _ a1'
        cases hdk with
        | tup hb3 ha3 =>
        rename_i bk xk
        obtain ⟨ex3, _⟩ := ha3.ints (vI ns)
        subst ex3
        have hbk3 : H3 bk = some (.tup ((kI ns).map L2.kV)) := by
          rw [kI_kV]
          exact E3.s _ _ hb3
        have lenk := mo3.len hl
        refine ⟨_, hv3, ?_⟩
        refine ⟨_, b2, ?_⟩
        refine ⟨_, hs3, ?_⟩
        refine ⟨p, _, rfl, DPut.t hp3 hbk3 (by rw [sizeLine_eq]; omega), ?_⟩
        -- the answer is read back
        have hpn3 : H3 p ≠ none := by rw [hp3]; simp
        have nF3 := gx3.none nF hpn
        have mo4 := mo3.put hsub had
        have pne : ∀ b u, b ≠ p → H3 b = some u → upd H3 p (.dT (putK kvs3 (kI ns) (.int t))) b = some u := fun b u hb e => by
          rw [upd_ne hb]
          exact e
        have gx4 : GrowX p F H F3 (upd H3 p (.dT (putK kvs3 (kI ns) (.int t)))) := gx3.trans ⟨pne, Same.refl _, fun b u e => pne b u (ne_of_none e nF3) (E3.s b u e), fun a ha => .inl ha, by rw [upd_same]; simp⟩ hpn
        have hbp : bk ≠ p := fun z => by
          rw [z, hp3] at hbk3
          cases hbk3
        refine ⟨_, b2, ?_⟩
        refine ⟨_, hs3, ?_⟩
        refine ⟨p, .int t, rfl, ?_, fin _ F3 _ _ gx4 nF3 upd_same mo4 (.int t)⟩
        have z := DGet.t (H := upd H3 p (.dT (putK kvs3 (kI ns) (.int t)))) (b := bk) (k := kI ns) upd_same (by rw [upd_ne hbp]; exact hbk3)
        rw [valV_put, if_pos rfl] at z
        exact z
end
end Mz

/-! Part 15: defs; the program's table; the end. -/
namespace Mz
open PySem PySem.Spec PyProof.Rows L2

/-- one def of the text: its name, its statement, its parameters' names, what the evaluator has for it -/
structure Tb where
  nm : Str
  st : Stmt
  ps : List Str
  fn : Fn
def Tb.dd (t : Tb) : He.DefD := ⟨(t.nm, none), t.nm, t.nm, defArgs t.st, defBody t.st, defScope t.st, [], []⟩
structure TbOk (g : Pg) (t : Tb) : Prop where
  sc : FnScope t.fn.N t.ps (defScope t.st)
  np : t.fn.np = t.ps.length
  mt : fnB g t.fn t.st = true
  bd : ∀ (kV doc pm : Value) (an : Option Addr) (cdv ct : Value) (us : List Value), us.length = t.ps.length → bindArgs (PySem.W.fnOf t.nm t.nm (defArgs t.st) (defBody t.st) (defScope t.st) .none kV doc pm an cdv ct) ⟨us, []⟩ = pure (t.ps.zip us)
def facts (g : Pg) : List He.Fa := g.fn.map .glo ++ (blNames.map (fun x => .free x) ++ ((g.cs.map (fun p => .int p.1 p.2) ++ g.ct.map (fun p => .str p.1 p.2)) ++ (g.ex.map .glo ++ g.ex.map .exc)))
def clOf (K : PySem.W.Frag) (g : Pg) (c : Nat) : Addr := He.ga K (g.ex.getD c "")
section
variable {P : Program} {w : World} {K : PySem.W.Frag} {mg : Str → Option Value} {base h : Heap} {g : Pg} {cl : Nat → Addr} {k : Nat} {cal : Nat → List D → Out D}
theorem _root_.Mz.DnAll.at_ {F : Hp} : ∀ {vs : List V} {ds : List D}, DnAll K F vs ds → ∀ {i : Nat} {d : D}, ds[i]? = some d → ∃ v, vs[i]? = some v ∧ Dn K F v d
  | _, _, .nil, i, d, h => by simp at h
  | _, _, .cons a r, 0, d, h => by
    cases h
    exact ⟨_, rfl, a⟩
  | _, _, .cons a r, i + 1, d, h => DnAll.at_ r (i := i) h
theorem start_ok {F H : Hp} {vs : List V} {ds : List D} (s : Same F H) (a : DnAll K F vs ds) (N : List Str) : EnvOk K F H F H (L2.start N vs) (start0 N.length ds) := by
  have hl := a.length
  refine ⟨Grow.refl s, ?_, fun i d e => ?_, fun i xs e => ?_⟩
  · simp [L2.start, start0, hl]
  · unfold start0 at e
    unfold L2.start
    rw [List.getElem?_append] at e ⊢
    rw [List.length_map] at e ⊢
    by_cases hi : i < ds.length
    · rw [if_pos hi, List.getElem?_map] at e
      rw [if_pos (by omega), List.getElem?_map]
      cases hd : ds[i]? with
      | none => rw [hd] at e; cases e
      | some d' =>
        rw [hd] at e
        cases e
        obtain ⟨v, h1, h2⟩ := a.at_ hd
        exact ⟨v, by rw [h1] <;> rfl, h2⟩
    · rw [if_neg hi, List.getElem?_replicate] at e
      split at e <;> cases e
  · unfold start0 at e
    rw [List.getElem?_append] at e
    rw [List.length_map] at e
    split at e
    · rw [List.getElem?_map] at e
      cases hd : ds[i]? <;> rw [hd] at e <;> cases e
    · rw [List.getElem?_replicate] at e
      split at e <;> cases e
theorem ok_def {t : Tb} {f : Addr} {fd : FuncData} {dvs : List V} {kws : List (Str × V)} (F : FunD K t.nm t.nm (defArgs t.st) (defBody t.st) (defScope t.st) dvs kws f fd) (T : TbOk g t) (fc : Fc g P w K mg base cl k cal) :
    FnOk P w K mg base (L2.CX P w) (k + 1) f fd t.ps (spD K cl t.ps.length (evFn cal t.fn)) := by
  refine F.ok T.sc (fun vs H Q E h => ?_) (fun cdv A outer s H vs Q E hr h => ?_)
  · obtain ⟨F, ds, h1, _⟩ := h
    exact h1
  · obtain ⟨F, ds, h1, h2, h3, h4⟩ := h
    refine ⟨tS K (fun cls d _ H => E cls d H) cl cal t.fn.body, (ps t.fn.body).bs (W := fun cls d _ H => E cls d H) (sc := defScope t.st) ⟨⟨rfl, T.sc.nd, rfl, rfl, hr, takes_of rfl rfl rfl rfl, fc⟩, fun _ => rfl, passes_of rfl, T.sc.kind, rfl, rfl⟩ T.mt, ?_⟩
    refine ⟨F, H, start0 t.fn.N.length ds, F, start_ok h2 h3 _, ?_⟩
    have hl : ds.length = t.fn.np := by rw [T.np, ← h1, h3.length]
    unfold evFn at h4
    rw [if_pos hl] at h4
    cases o : evS cal t.fn.body (start0 t.fn.N.length ds) with
    | bad => rw [o] at h4; exact h4
    | nx ρ' =>
      rw [o] at h4
      exact fun σ' F' H' E' s' => h4 .non F' H' E'.g .non
    | ret d =>
      rw [o] at h4
      exact fun v F' H' g' r' => h4 v F' H' g' r'
    | exc c ρ' =>
      rw [o] at h4
      exact fun σ' F' H' E' => h4 F' H' E'.g
/-- the def with a table, its text -/
structure MfOk (g : Pg) (tabs : List Tb) (fs : List Fn) : Prop where
  ok : ∀ j x, g.mf = some (j, x) → ∃ (i : Nat) (t : Tb), tabs[i]? = some t ∧ t.nm = x ∧ fs[j]? = some (memoF j) ∧ FnScope memoN t.ps (defScope t.st) ∧ t.ps.length = 3 ∧ memoB g (defScope t.st) x (defBody t.st) = true
theorem MfOk.no {g : Pg} {tabs : List Tb} {fs : List Fn} (h : g.mf = none) : MfOk g tabs fs := ⟨fun j x e => by rw [h] at e; cases e⟩
theorem memo_nnx {jv : Nat} {ρ ρ' : En} : evS cal (memoV jv) ρ ≠ .nx ρ' := fun h => by
  unfold memoV at h
  obtain ⟨_, _, h⟩ := sq_nx h
  obtain ⟨_, _, h⟩ := sq_nx h
  obtain ⟨_, _, h⟩ := sq_nx h
  obtain ⟨q, h, _⟩ := sq_nx h
  simp only [evS] at h
  rename_i q2 _ _ _
  generalize thaw _ = q3 at h
  cases o : evE cal q3 (.nm 3) <;> rw [o] at h <;> cases h
theorem ok_memo {t : Tb} {f : Addr} {fd : FuncData} {dvs : List V} {kws : List (Str × V)} {j : Nat} {an : D → List Int → D → Prop} (F : FunD K t.nm t.nm (defArgs t.st) (defBody t.st) (defScope t.st) dvs kws f fd) (hx : g.mf = some (j, t.nm)) (sc : FnScope memoN t.ps (defScope t.st)) (np : t.ps.length = 3) (look : memoB g (defScope t.st) t.nm (defBody t.st) = true)
    (fc : Fc g P w K mg base cl k cal) (A : AnOk (cal j) an) (A' : AnOk (evFn cal (memoF j)) an) : FnOk P w K mg base (L2.CX P w) (k + 1) f fd t.ps (spM K an (evFn cal (memoF j))) := by
  refine F.ok sc (fun vs H Q E h => ?_) (fun cdv A outer s H vs Q E hr h => ?_)
  · obtain ⟨_, _, _, _, _, _, _, _, _, e, _⟩ := h
    rw [e, np]
    rfl
  · obtain ⟨F, v1, v2, p, kvs, dt, ns, L0, d, e, sm, nF, hp, r1, r2, hs, hl, mo, hc, fin⟩ := h
    subst e
    refine ⟨tMemo K cal j an, memo_body (W := fun cls d _ H => E cls d H) (sc := defScope t.st) ⟨⟨rfl, sc.nd, rfl, rfl, hr, takes_of rfl rfl rfl rfl, fc⟩, fun _ => rfl, passes_of rfl, sc.kind, rfl, rfl⟩ hx ‹AnOk (cal j) an› A'.one look, ?_⟩
    have had := A'.of _ _ _ hc
    refine ⟨F, p, kvs, dt, ns, L0, d, start0 7 [dt, tupI ns], ?_, ?_, rfl, rfl, Nat.lt_of_lt_of_le (by decide) (Nat.le_refl 7), rfl, nF, hp, hs, hl, mo, ?_, had, fin⟩
    · refine ⟨Grow.refl sm, rfl, fun i d' e => ?_, fun i ds e => ?_⟩
      · match i, e with
        | 0, e =>
          cases e
          exact ⟨v1, rfl, r1⟩
        | 1, e =>
          cases e
          exact ⟨v2, rfl, r2⟩
        | 2, e => cases e
        | 3, e => cases e
        | 4, e => cases e
        | 5, e => cases e
        | 6, e => cases e
        | _ + 7, e => cases e
      · match i, e with
        | 0, e => cases e
        | 1, e => cases e
        | 2, e => cases e
        | 3, e => cases e
        | 4, e => cases e
        | 5, e => cases e
        | 6, e => cases e
        | _ + 7, e => cases e
    · intro i ds e
      match i, e with
      | 0, e => cases e
      | 1, e => cases e
      | 2, e => cases e
      | 3, e => cases e
      | 4, e => cases e
      | 5, e => cases e
      | 6, e => cases e
      | _ + 7, e => cases e
    · have e : evFn cal (memoF j) [dt, tupI ns] = Mz.fin (evS cal (memoV j) (start0 7 [dt, tupI ns])) := rfl
      rw [e] at hc
      cases o : evS cal (memoV j) (start0 7 [dt, tupI ns]) with
      | bad => rw [o] at hc; cases hc
      | exc c ρ' => rw [o] at hc; cases hc
      | nx ρ' => exact absurd o memo_nnx
      | ret d' =>
        rw [o] at hc
        cases hc
        rfl
/-- what the classes of errors must say -/
def excB (K : PySem.W.Frag) (a : Addr) : Bool :=
  He.eqO (PySem.W.findIn K (.ref a) "__getattribute__") (some (some (.builtin "BaseException.__getattribute__"))) && He.eqO (PySem.W.findIn K (.ref a) "__getattr__") (some none) &&
  decide (PySem.W.subIn K (.ref a) (.type "BaseException") = some true) && PySem.W.hasDictIn K a && He.eqO (PySem.W.findIn K (.ref a) "__class__") (some (some (.builtin "object.__class__"))) &&
  He.eqO (PySem.W.specialIn K (.builtin "object.__class__") "__get__") (some (some (.builtin "getset_descriptor.__get__"))) && decide (PySem.W.takesIn K (.builtin "object.__class__") = some true) && decide (PySem.W.mroIn K a (.type "object") = some true)
theorem excB_ok {K : PySem.W.Frag} {a : Addr} (h : excB K a = true) : ExcC K a := by
  unfold excB at h
  simp only [Bool.and_eq_true, decide_eq_true_eq] at h
  obtain ⟨⟨⟨⟨⟨⟨⟨h1, h2⟩, h3⟩, h4⟩, h5⟩, h6⟩, h7⟩, h8⟩ := h
  exact ⟨He.eqO_ok h1, He.eqO_ok h2, h3, h4, He.eqO_ok h5, He.eqO_ok h6, h7, h8⟩
def kitB (K : PySem.W.Frag) (l : List Str) (c : Nat) (x : Str) : Bool := (List.range l.length).all fun c' => decide (PySem.W.kitOne K (.ref (He.ga K x)) (.ref (He.ga K (l.getD c' ""))) = some (decide (c = c')))
def xB (g : Pg) (K : PySem.W.Frag) : Bool := !g.hx || ((He.Fa.glo g.bx).ok K && (List.range g.ex.length).all fun c => decide (PySem.W.exmOne K (.ref (He.ga K (g.ex.getD c ""))) (.ref (He.ga K g.bx)) = some true) && excB K (He.ga K (g.ex.getD c "")) && kitB K g.ex c (g.ex.getD c ""))
theorem xB_ok {K : PySem.W.Frag} {mg : Str → Option Value} {h : Heap} {g : Pg} (X : K.In h) (G : h.Ns mainGlobals mg) (b : xB g K = true) (hh : g.hx = true) : ExFacts g K mg (clOf K g) := by
  unfold xB at b
  rw [hh] at b
  simp only [Bool.not_true, Bool.false_or, Bool.and_eq_true, List.all_eq_true, List.mem_range, decide_eq_true_eq] at b
  obtain ⟨b1, b2⟩ := b
  have at_ : ∀ (c : Nat) (x : Str), g.ex[c]? = some x → c < g.ex.length ∧ g.ex.getD c "" = x := fun c x hc => ⟨(List.getElem?_eq_some_iff.mp hc).1, by rw [List.getD_eq_getElem?_getD, hc] <;> rfl⟩
  refine ⟨He.ga K g.bx, He.glo_ok X G b1, fun c x hc => ?_⟩
  obtain ⟨h1, h2⟩ := at_ c x hc
  obtain ⟨⟨q1, q2⟩, q3⟩ := b2 c h1
  refine ⟨q1, excB_ok q2, fun c' x' hc' => ?_⟩
  obtain ⟨h3, h4⟩ := at_ c' x' hc'
  unfold kitB at q3
  rw [List.all_eq_true] at q3
  exact of_decide_eq_true (q3 c' (List.mem_range.mpr h3))
def obsX (n : Nat) (g : Pg) (dd : List He.DefD) (gt : Addr → Option Obj) : Bool × He.AlD := (xB g (He.frG gt (He.asD gt n)), He.obsDG n (facts g) dd gt)
def hookX (n : Nat) (g : Pg) (dd : List He.DefD) : PySem.W.Hook where
  α := Bool × He.AlD
  obs := fun s => obsX n g dd s.heap.get?
  val := fun _ => (true, He.valD dd)
  says := fun _ h => ∃ K : PySem.W.Frag, K.In h ∧ He.SaysD (facts g) dd K ∧ xB g K = true
  of := fun _ _ e => ⟨_, He.frG_in, congrArg Prod.snd e, congrArg Prod.fst e⟩
  keeps := fun _ _ _ ⟨K, hK, c, b⟩ k => ⟨K, PySem.W.Frag.In.keeps hK k, c, b⟩
theorem obsX_eq {n : Nat} {g : Pg} {dd : List He.DefD} {gt : Addr → Option Obj} {s : Shared} (h : ∀ a, gt a = s.heap.get? a) : obsX n g dd gt = (hookX n g dd).obs s := by
  have e : gt = s.heap.get? := funext h
  rw [e] <;> rfl
theorem at_vf {tabs : List Tb} {vf : List Fn} {j : Nat} {t : Tb} (ht : tabs[j]? = some t) : (tabs.map Tb.fn ++ vf)[j]? = some t.fn := by
  rw [List.getElem?_append_left (by
    rw [List.length_map]
    exact (List.getElem?_eq_some_iff.mp ht).1), List.getElem?_map, ht] <;> rfl
theorem fact_in {fa : List He.Fa} {fn : List He.DefD} (c : He.SaysD fa fn K) {f : He.Fa} (h : f ∈ fa) : f.ok K = true := by
  obtain ⟨i, hi⟩ := List.getElem?_of_mem h
  exact c.fact i hi
theorem fc_all {tabs : List Tb} {vf : List Fn} (X : K.In h) (G : h.Ns mainGlobals mg) (c : He.SaysD (facts g) (tabs.map Tb.dd) K) (xb : xB g K = true) (hg : g.fn = tabs.map Tb.nm) (ok : ∀ t ∈ tabs, TbOk g t) (mfo : MfOk g tabs (tabs.map Tb.fn ++ vf)) :
    ∀ n, Fc g P w K mg base (clOf K g) n (run (tabs.map Tb.fn ++ vf) n) := by
  have look : ∀ (j : Nat) (x : Str), g.fn[j]? = some x → ∃ t, tabs[j]? = some t ∧ t.nm = x := fun j x hj => by
    rw [hg, List.getElem?_map] at hj
    cases e : tabs[j]? with
    | none => rw [e] at hj; cases hj
    | some t =>
      rw [e] at hj
      exact ⟨t, rfl, Option.some.inj hj⟩
  have hfn : ∀ x, x ∈ g.fn → mg x = some (.ref (He.ga K x)) := fun x hx => He.glo_ok X G (fact_in c (List.mem_append_left _ (List.mem_map_of_mem hx)))
  have hcs : ∀ (x : Str) (v : Int), g.cs.lookup x = some v → ∃ t, mg x = some (.int v t) := fun x v hx => by
    have hm : (x, v) ∈ g.cs := by
      clear hfn look
      revert hx
      generalize g.cs = l
      induction l with
      | nil => intro hx; cases hx
      | cons p r ih =>
        obtain ⟨y, z⟩ := p
        intro hx
        unfold List.lookup at hx
        split at hx
        · rename_i hb
          cases hx
          rw [eq_of_beq hb]
          exact List.mem_cons_self
        · exact List.mem_cons_of_mem _ (ih hx)
    exact He.int_ok X G (fact_in c (List.mem_append_right _ (List.mem_append_right _ (List.mem_append_left _ (List.mem_append_left _ (List.mem_map_of_mem (f := fun p : Str × Int => He.Fa.int p.1 p.2) hm))))))
  have hct : ∀ (x v : Str), g.ct.lookup x = some v → ∃ t, mg x = some (.str v t) := fun x v hx => by
    have hm : (x, v) ∈ g.ct := by
      clear hfn look hcs
      revert hx
      generalize g.ct = l
      induction l with
      | nil => intro hx; cases hx
      | cons p r ih =>
        obtain ⟨y, z⟩ := p
        intro hx
        unfold List.lookup at hx
        split at hx
        · rename_i hb
          cases hx
          rw [eq_of_beq hb]
          exact List.mem_cons_self
        · exact List.mem_cons_of_mem _ (ih hx)
    exact He.str_ok X G (fact_in c (List.mem_append_right _ (List.mem_append_right _ (List.mem_append_left _ (List.mem_append_right _ (List.mem_map_of_mem (f := fun p : Str × Str => He.Fa.str p.1 p.2) hm))))))
  have hbl : ∀ x ∈ blNames, mg x = none := fun x hx => He.free_ok X G (fact_in c (List.mem_append_right _ (List.mem_append_left _ (List.mem_map_of_mem (f := fun x : Str => He.Fa.free x) hx))))
  have hex : ∀ (z : Nat) (x : Str), g.ex[z]? = some x → mg x = some (.ref (clOf K g z)) ∧ PySem.W.excIn K (clOf K g z) [.type "ValueError", .type "Exception", .type "BaseException", .type "object"] "ValueError.__new__" = true ∧ PySem.W.keepIn K (.ref (clOf K g z)) = true ∧
      PySem.W.subIn K (.ref (clOf K g z)) (.type "BaseException") = some true ∧ PySem.W.typeIn K (.ref (clOf K g z)) = some (.type "type") := fun z x hx => by
    have e : clOf K g z = He.ga K x := by
      unfold clOf
      rw [List.getD_eq_getElem?_getD, hx] <;> rfl
    have hm := List.mem_of_getElem? hx
    rw [e]
    exact ⟨He.glo_ok X G (fact_in c (List.mem_append_right _ (List.mem_append_right _ (List.mem_append_right _ (List.mem_append_left _ (List.mem_map_of_mem hm)))))),
      He.exc_ok (fact_in c (List.mem_append_right _ (List.mem_append_right _ (List.mem_append_right _ (List.mem_append_right _ (List.mem_map_of_mem hm))))))⟩
  intro n
  induction n with
  | zero =>
    refine ⟨fun j x hj => ?_, hcs, hct, hbl, hex, fun hh => xB_ok X G xb hh, fun j x hj => ?_⟩
    rotate_left
    · obtain ⟨i, t, ht, rfl, hv, sc, np, look⟩ := mfo.ok j x hj
      have hd : (tabs.map Tb.dd)[i]? = some t.dd := by rw [List.getElem?_map, ht] <;> rfl
      obtain ⟨fd, F⟩ := c.def_ i hd
      have hin : t.nm ∈ g.fn := by
        rw [hg]
        exact List.mem_map_of_mem (List.mem_of_getElem? ht)
      refine ⟨_, fd, t.ps, hfn _ hin, F.kp, FunD.bindsN (F : FunD K t.nm t.nm (defArgs t.st) (defBody t.st) (defScope t.st) [] [] (He.ga K t.nm) fd) (ok t (List.mem_of_getElem? ht)).bd, fun an A => ⟨fun vs H Q E ⟨_, _, _, _, _, _, _, _, _, e, _⟩ => (by rw [e, np]; rfl), fun A outer s H args us vs Q E hr he hb hv ⟨_, _, _, _, _, _, _, _, _, _, _, _, _, _, _, _, _, _, z, _⟩ => nomatch z⟩⟩
    obtain ⟨t, ht, rfl⟩ := look j x hj
    have hd : (tabs.map Tb.dd)[j]? = some t.dd := by rw [List.getElem?_map, ht] <;> rfl
    obtain ⟨fd, F⟩ := c.def_ j hd
    exact ⟨_, fd, t.ps, hfn _ (List.mem_of_getElem? hj), F.kp, FunD.bindsN (F : FunD K t.nm t.nm (defArgs t.st) (defBody t.st) (defScope t.st) [] [] (He.ga K t.nm) fd) (ok t (List.mem_of_getElem? ht)).bd,
      ⟨fun vs H Q E ⟨_, _, h1, _⟩ => h1, fun A outer s H args us vs Q E hr he hb hv ⟨_, _, _, _, _, z⟩ => False.elim z⟩, fun ds z => absurd rfl z⟩
  | succ n ih =>
    refine ⟨fun j x hj => ?_, hcs, hct, hbl, hex, fun hh => xB_ok X G xb hh, fun j x hj => ?_⟩
    rotate_left
    · obtain ⟨i, t, ht, rfl, hv, sc, np, look⟩ := mfo.ok j x hj
      have hd : (tabs.map Tb.dd)[i]? = some t.dd := by rw [List.getElem?_map, ht] <;> rfl
      obtain ⟨fd, F⟩ := c.def_ i hd
      have F' : FunD K t.nm t.nm (defArgs t.st) (defBody t.st) (defScope t.st) [] [] (He.ga K t.nm) fd := F
      have hin : t.nm ∈ g.fn := by
        rw [hg]
        exact List.mem_map_of_mem (List.mem_of_getElem? ht)
      have e2 : run (tabs.map Tb.fn ++ vf) (n + 1) j = evFn (run (tabs.map Tb.fn ++ vf) n) (memoF j) := funext fun ds => by
        rw [run_succ, hv]
      refine ⟨_, fd, t.ps, hfn _ hin, F.kp, FunD.bindsN F' (ok t (List.mem_of_getElem? ht)).bd, fun an A => ?_⟩
      rw [e2] at A ⊢
      refine ok_memo F' hj sc np look ih ⟨fun dt ns d hd => A.of dt ns d ?_, A.one⟩ A
      have q := le_run (tabs.map Tb.fn ++ vf) n j [dt, tupI ns] (by rw [hd]; exact fun z => nomatch z)
      rw [hd] at q
      rw [← e2]
      exact q
    obtain ⟨t, ht, rfl⟩ := look j x hj
    have hd : (tabs.map Tb.dd)[j]? = some t.dd := by rw [List.getElem?_map, ht] <;> rfl
    have T := ok t (List.mem_of_getElem? ht)
    obtain ⟨fd, F⟩ := c.def_ j hd
    have F' : FunD K t.nm t.nm (defArgs t.st) (defBody t.st) (defScope t.st) [] [] (He.ga K t.nm) fd := F
    have e : ∀ ds, run (tabs.map Tb.fn ++ vf) (n + 1) j ds = evFn (run (tabs.map Tb.fn ++ vf) n) t.fn ds := fun ds => by
      rw [run_succ, at_vf ht]
    have e2 : run (tabs.map Tb.fn ++ vf) (n + 1) j = evFn (run (tabs.map Tb.fn ++ vf) n) t.fn := funext e
    refine ⟨_, fd, t.ps, hfn _ (List.mem_of_getElem? hj), F'.kp, FunD.bindsN F' T.bd, ?_, fun ds z => ?_⟩
    · rw [e2]
      exact ok_def F' T ih
    · rw [e2] at z
      unfold evFn at z
      split at z
      · rw [← T.np]
        assumption
      · exact absurd rfl z
end
/-- the end of a law: the evaluator answers True on every script -/
theorem the_end {l : PySem.W.OpenLaw} {q : Program} {loose : List Str} {XP : (Str → Option Value) → Heap → Prop} {d : DefRec} {g : Pg} {tabs : List Tb} {vf : List Fn} {x : Str} {j : Nat} {t : Tb} {m k : Nat}
    (hn : l.most = some m) (hn2 : m ≤ sizeLine) (hdf : d.params.defaults = []) (hr : Room (k + 1) callerA) (hnm : d.name = t.nm) (hg : g.fn = tabs.map Tb.nm) (ok : ∀ t ∈ tabs, TbOk g t) (mfo : MfOk g tabs (tabs.map Tb.fn ++ vf)) (ht : tabs[j]? = some t) (hps : t.ps = [x])
    (hrun : ∀ ns : List Int, ns.length ≤ m → run (tabs.map Tb.fn ++ vf) (k + 1) j [scr ns] = .ok (.bool true)) :
    PySem.W.WalkO q loose XP (hookX 4 g (tabs.map Tb.dd)).says l.row.toRowW d [] (fun f vs => PySem.call f vs) := by
  refine Att.attach_call hn hdf fun w s₀ s₁ mg mb fa o pm cd doc a vs ns G Y ho hd hcd hmg hobj hints hlen hg' => ?_
  obtain ⟨K, KX, c, xb⟩ := Y
  have T := ok t (List.mem_of_getElem? ht)
  have hj : g.fn[j]? = some t.nm := by rw [hg, List.getElem?_map, ht] <;> rfl
  have hd1 : (tabs.map Tb.dd)[j]? = some t.dd := by rw [List.getElem?_map, ht] <;> rfl
  obtain ⟨fd, F⟩ := c.def_ j hd1
  have F' : FunD K t.nm t.nm (defArgs t.st) (defBody t.st) (defScope t.st) [] [] (He.ga K t.nm) fd := F
  have e0 : mg t.nm = some (.ref (He.ga K t.nm)) := He.glo_ok KX G.T.g (fact_in c (List.mem_append_left _ (List.mem_map_of_mem (List.mem_of_getElem? hj))))
  rw [hnm, e0] at hmg
  cases hmg
  refine law_call (x := x) (sp := spD K (clOf K g) 1 (run (tabs.map Tb.fn ++ vf) (k + 1) j)) (fd := fd) (CX := L2.CX l.prog w) KX G.T.g G.T.b G.T.builtins G.T.nolimit hg' hobj hints (Nat.le_trans hlen hn2) hr (fun base _ _ => ?_) (fun s u => ?_) (fun H hO hS => ?_) (fun H e s' z => ?_)
  · have fc := fc_all (P := l.prog) (w := w) (base := base) KX G.T.g c xb hg ok mfo k
    have e2 : run (tabs.map Tb.fn ++ vf) (k + 1) j = evFn (run (tabs.map Tb.fn ++ vf) k) t.fn := funext fun ds => by
      rw [run_succ, at_vf ht]
    have q := ok_def F' T fc
    rw [hps] at q
    rw [e2]
    exact q
  · have q := FunD.bindsA F' T.bd s [u] (by rw [hps] <;> rfl)
    rw [hps] at q
    exact q
  · refine ⟨H, [scr ns], rfl, Same.refl H, .cons (.scr hS) .nil, ?_⟩
    rw [hrun ns hlen]
    intro v F' H' g' r'
    cases r'
    rfl
  · obtain ⟨_, _, _, _, _, _, _, _, _, _, _, _, z⟩ := z
    exact z
end Mz

/-! Plain facts: data, lists of ints, comprehensions, sorting, orders; steps of the evaluator. -/
namespace Mz
open PySem

/-! ### data -/
@[simp] theorem sh_int (i : Int) : SeqAt.shaped (.int i) = true := rfl
@[simp] theorem sh_bool (b : Bool) : SeqAt.shaped (.bool b) = true := rfl
@[simp] theorem sh_none : SeqAt.shaped .none = true := rfl
theorem can_ints : ∀ l : List Int, PyData.canLayAll0 (l.map .int) = true
  | [] => rfl
  | _ :: r => can_ints r
theorem depth_ints : ∀ l : List Int, PyData.depthAll (l.map .int) = 0
  | [] => rfl
  | x :: r => by
    show max (PyData.depth (.int x)) (PyData.depthAll (r.map .int)) = 0
    rw [depth_ints r] <;> rfl
@[simp] theorem sh_tupI (l : List Int) : SeqAt.shaped (tupI l) = true := by
  unfold SeqAt.shaped tupI
  simp only [PyData.canLay0, PyData.depth, can_ints, depth_ints]
  rfl
@[simp] theorem sh_lstI (l : List Int) : SeqAt.shaped (lstI l) = true := by
  unfold SeqAt.shaped lstI
  simp only [PyData.canLay0, PyData.depth, can_ints, depth_ints]
  rfl
theorem can_tups : ∀ l : List (List Int), PyData.canLayAll0 (l.map tupI) = true
  | [] => rfl
  | x :: r => by
    show (PyData.canLay0 (tupI x) && PyData.canLayAll0 (r.map tupI)) = true
    rw [can_tups r]
    unfold tupI
    rw [PyData.canLay0, can_ints] <;> rfl
theorem depth_tups : ∀ l : List (List Int), PyData.depthAll (l.map tupI) ≤ 1
  | [] => by decide
  | x :: r => by
    show max (PyData.depth (tupI x)) (PyData.depthAll (r.map tupI)) ≤ 1
    unfold tupI
    rw [PyData.depth, depth_ints]
    have := depth_tups r
    unfold tupI at this
    omega
@[simp] theorem sh_tups (l : List (List Int)) : SeqAt.shaped (.list (l.map tupI)) = true := by
  unfold SeqAt.shaped
  simp only [PyData.canLay0, PyData.depth, can_tups, Bool.true_and, decide_eq_true_eq]
  exact decide_eq_true (Nat.le_trans (Nat.add_le_add_right (depth_tups l) 1) (show 1 + 1 ≤ 64 by decide))
@[simp] theorem eqv_int (i j : Int) : PyData.eqv (.int i) (.int j) = decide (i = j) := by
  simp only [PyData.eqv]
  by_cases h : i = j <;> simp [h]
@[simp] theorem eqv_bool (i j : Bool) : PyData.eqv (.bool i) (.bool j) = decide (i = j) := by
  simp only [PyData.eqv]
  cases i <;> cases j <;> rfl
theorem eqv_ints : ∀ a b : List Int, PyData.eqvAll (a.map .int) (b.map .int) = decide (a = b)
  | [], [] => by simp [PyData.eqvAll]
  | [], _ :: _ => by simp [PyData.eqvAll]
  | _ :: _, [] => by simp [PyData.eqvAll]
  | x :: a, y :: b => by simp [PyData.eqvAll, eqv_ints a b]
@[simp] theorem eqv_tupI (a b : List Int) : PyData.eqv (tupI a) (tupI b) = decide (a = b) := by
  unfold tupI
  rw [PyData.eqv, eqv_ints]
@[simp] theorem eqv_lstI (a b : List Int) : PyData.eqv (lstI a) (lstI b) = decide (a = b) := by
  unfold lstI
  rw [PyData.eqv, eqv_ints]
theorem eqv_tupsA : ∀ a b : List (List Int), PyData.eqvAll (a.map tupI) (b.map tupI) = decide (a = b)
  | [], [] => by simp [PyData.eqvAll]
  | [], _ :: _ => by simp [PyData.eqvAll]
  | _ :: _, [] => by simp [PyData.eqvAll]
  | x :: a, y :: b => by simp [PyData.eqvAll, eqv_tupsA a b]
@[simp] theorem eqv_tups (a b : List (List Int)) : PyData.eqv (.list (a.map tupI)) (.list (b.map tupI)) = decide (a = b) := by
  rw [PyData.eqv, eqv_tupsA]
theorem mem_enc {α : Type} [DecidableEq α] (enc : α → D) (he : ∀ a b, PyData.eqv (enc a) (enc b) = decide (a = b)) (x : α) : ∀ l : List α, memD (enc x) (l.map enc) = decide (x ∈ l)
  | [] => by simp [memD]
  | y :: r => by
    have ih := mem_enc enc he x r
    unfold memD at ih ⊢
    rw [List.map_cons, List.any_cons, ih, he]
    by_cases h : y = x
    · subst h
      simp
    · simp [h, Ne.symm h]
@[simp] theorem mem_int (x : Int) (l : List Int) : memD (.int x) (l.map .int) = decide (x ∈ l) := mem_enc .int eqv_int x l
@[simp] theorem mem_tup (x : List Int) (l : List (List Int)) : memD (tupI x) (l.map tupI) = decide (x ∈ l) := by
  rw [Bool.eq_iff_iff, mem_enc tupI eqv_tupI]
  simp
@[simp] theorem allInts_map : ∀ l : List Int, allInts (l.map .int) = some l
  | [] => rfl
  | x :: r => by simp [allInts, allInts_map r]
@[simp] theorem allBools_map : ∀ l : List Bool, allBools (l.map .bool) = some l
  | [] => rfl
  | x :: r => by simp [allBools, allBools_map r]
theorem allBools_mapf {α : Type} (f : α → Bool) (l : List α) : allBools (l.map fun x => .bool (f x)) = some (l.map f) := by
  rw [← allBools_map (l.map f), List.map_map] <;> rfl
@[simp] theorem allTups_map : ∀ l : List (List Int), allTups (l.map tupI) = some l
  | [] => rfl
  | x :: r => by
    have h := allTups_map r
    rw [List.map_cons]
    unfold allTups
    rw [h]
    unfold tupI
    simp only [allInts_map]
theorem flat_ints (l : List Int) : (l.map PyData.int).all flatD = true := by
  rw [List.all_eq_true]
  intro x hx
  obtain ⟨i, _, rfl⟩ := List.mem_map.mp hx
  rfl
/-! ### operations -/
theorem c_eqI (i j : Int) : opCmp .Eq (.int i) (.int j) = .ok (decide (i = j)) := by simp [opCmp]
theorem c_neI (i j : Int) : opCmp .NotEq (.int i) (.int j) = .ok (decide (i ≠ j)) := by simp [opCmp]
theorem c_eqB (i j : Bool) : opCmp .Eq (.bool i) (.bool j) = .ok (decide (i = j)) := by simp [opCmp]
theorem c_neB (i j : Bool) : opCmp .NotEq (.bool i) (.bool j) = .ok (decide (i ≠ j)) := by simp [opCmp]
theorem c_eqT (i j : List Int) : opCmp .Eq (tupI i) (tupI j) = .ok (decide (i = j)) := by simp [opCmp]
theorem c_neT (i j : List Int) : opCmp .NotEq (tupI i) (tupI j) = .ok (decide (i ≠ j)) := by
  show (if SeqAt.shaped (tupI i) && SeqAt.shaped (tupI j) then Out.ok (!PyData.eqv (tupI i) (tupI j)) else .bad) = _
  simp
theorem c_eqL (i j : List Int) : opCmp .Eq (lstI i) (lstI j) = .ok (decide (i = j)) := by simp [opCmp]
theorem c_neL (i j : List Int) : opCmp .NotEq (lstI i) (lstI j) = .ok (decide (i ≠ j)) := by
  show (if SeqAt.shaped (lstI i) && SeqAt.shaped (lstI j) then Out.ok (!PyData.eqv (lstI i) (lstI j)) else .bad) = _
  simp
theorem c_eqLT (i j : List (List Int)) : opCmp .Eq (.list (i.map tupI)) (.list (j.map tupI)) = .ok (decide (i = j)) := by simp [opCmp]
theorem c_neLT (i j : List (List Int)) : opCmp .NotEq (.list (i.map tupI)) (.list (j.map tupI)) = .ok (decide (i ≠ j)) := by simp [opCmp]
theorem c_inI (i : Int) (l : List Int) : opCmp .In (.int i) (lstI l) = .ok (decide (i ∈ l)) := by
  show (if SeqAt.shaped (.int i) && SeqAt.shaped (lstI l) then Out.ok (memD (.int i) (l.map .int)) else .bad) = _
  simp
theorem c_inT (i : Int) (l : List Int) : opCmp .In (.int i) (tupI l) = .ok (decide (i ∈ l)) := by
  show (if flatD (.int i) && (l.map PyData.int).all flatD then Out.ok (memD (.int i) (l.map .int)) else .bad) = _
  rw [flat_ints, mem_int] <;> rfl
theorem c_inLT (i : List Int) (l : List (List Int)) : opCmp .In (tupI i) (.list (l.map tupI)) = .ok (decide (i ∈ l)) := by
  show (if SeqAt.shaped (tupI i) && SeqAt.shaped (.list (l.map tupI)) then Out.ok (memD (tupI i) (l.map tupI)) else .bad) = _
  simp
/-! ### ranges -/
def rgI (a b : Int) : List Int := (List.range (b - a).toNat).map fun (i : Nat) => a + (i : Int)
theorem mem_rgI {a b x : Int} : x ∈ rgI a b ↔ a ≤ x ∧ x < b := by
  unfold rgI
  rw [List.mem_map]
  constructor
  · rintro ⟨i, hi, rfl⟩
    rw [List.mem_range] at hi
    omega
  · rintro ⟨h1, h2⟩
    exact ⟨(x - a).toNat, by rw [List.mem_range]; omega, by omega⟩
theorem rngI_ok {a b : Int} (h1 : -1000000 ≤ a) (h2 : a ≤ 1000000) (h3 : -1000000 ≤ b) (h4 : b ≤ 1000000) : opRng (.int a) (.int b) = .ok ((rgI a b).map .int) := by
  have hk : rngOk a b = true := by
    unfold rngOk two62 SZ
    rw [decide_eq_true_eq]
    omega
  show (if rngOk a b then Out.ok (rngD a b) else .bad) = _
  rw [if_pos hk]
  unfold rngD rgI
  rw [List.map_map] <;> rfl
/-- strictly rising -/
abbrev Up (l : List Int) : Prop := l.Pairwise (· < ·)
theorem up_range (n : Nat) : (List.range n).Pairwise (· < ·) := List.pairwise_lt_range
theorem up_rgI (a b : Int) : Up (rgI a b) := by
  unfold Up rgI
  rw [List.pairwise_map]
  exact (up_range _).imp fun h => by omega
theorem up_ext : ∀ {a b : List Int}, Up a → Up b → (∀ x, x ∈ a ↔ x ∈ b) → a = b
  | [], [], _, _, _ => rfl
  | [], y :: b, _, _, h => by
    have := (h y).mpr List.mem_cons_self
    cases this
  | x :: a, [], _, _, h => by
    have := (h x).mp List.mem_cons_self
    cases this
  | x :: a, y :: b, ha, hb, h => by
    rw [Up, List.pairwise_cons] at ha hb
    have h1 : x = y := by
      rcases List.mem_cons.mp ((h x).mp List.mem_cons_self) with e | e
      · exact e
      · rcases List.mem_cons.mp ((h y).mpr List.mem_cons_self) with f | f
        · exact f.symm
        · have := ha.1 y f
          have := hb.1 x e
          omega
    subst h1
    rw [up_ext ha.2 hb.2 fun z => ⟨fun hz => ?_, fun hz => ?_⟩]
    · rcases List.mem_cons.mp ((h z).mp (List.mem_cons_of_mem _ hz)) with e | e
      · have := ha.1 z hz
        omega
      · exact e
    · rcases List.mem_cons.mp ((h z).mpr (List.mem_cons_of_mem _ hz)) with e | e
      · have := hb.1 z hz
        omega
      · exact e
theorem mem_ins (x y : Int) : ∀ l : List Int, x ∈ ins ltI y l ↔ x = y ∨ x ∈ l
  | [] => by simp [ins]
  | z :: r => by
    unfold ins
    split
    · rw [List.mem_cons, mem_ins x y r, List.mem_cons]
      constructor
      · rintro (h | h | h) <;> simp [h]
      · rintro (h | h | h) <;> simp [h]
    · rw [List.mem_cons]
theorem mem_isort (x : Int) : ∀ l : List Int, x ∈ isort ltI l ↔ x ∈ l
  | [] => by simp [isort]
  | y :: r => by
    unfold isort
    rw [mem_ins, mem_isort x r, List.mem_cons]
theorem up_ins (y : Int) : ∀ l : List Int, Up l → y ∉ l → Up (ins ltI y l)
  | [], _, _ => by simp [ins, Up]
  | z :: r, h, hn => by
    rw [Up, List.pairwise_cons] at h
    rw [List.mem_cons, not_or] at hn
    unfold ins
    split
    · rename_i hl
      rw [ltI, decide_eq_true_eq] at hl
      rw [Up, List.pairwise_cons]
      refine ⟨fun w hw => ?_, up_ins y r h.2 hn.2⟩
      rcases (mem_ins w y r).mp hw with e | e
      · omega
      · exact h.1 w e
    · rename_i hl
      rw [ltI, decide_eq_true_eq] at hl
      rw [Up, List.pairwise_cons]
      refine ⟨fun w hw => ?_, List.pairwise_cons.mpr h⟩
      rcases List.mem_cons.mp hw with e | e
      · omega
      · have := h.1 w e
        omega
theorem up_isort : ∀ l : List Int, l.Nodup → Up (isort ltI l)
  | [], _ => by simp [isort, Up]
  | y :: r, h => by
    rw [List.nodup_cons] at h
    unfold isort
    exact up_ins y _ (up_isort r h.2) (by rw [mem_isort]; exact h.1)
theorem len_ins (y : Int) : ∀ l : List Int, (ins ltI y l).length = l.length + 1
  | [] => rfl
  | z :: r => by
    unfold ins
    split
    · rw [List.length_cons, len_ins y r, List.length_cons]
    · rfl
/-! ### a set of beats in a cycle -/
def fil (m : Int) (p : Int → Bool) : List Int := (rgI 0 m).filter p
theorem mem_fil {m : Int} {p : Int → Bool} {x : Int} : x ∈ fil m p ↔ (0 ≤ x ∧ x < m) ∧ p x = true := by
  unfold fil
  rw [List.mem_filter, mem_rgI]
theorem up_fil (m : Int) (p : Int → Bool) : Up (fil m p) := (up_rgI 0 m).filter p
theorem fil_ext {m : Int} {p q : Int → Bool} (h : ∀ x, 0 ≤ x → x < m → p x = q x) : fil m p = fil m q := by
  refine up_ext (up_fil m p) (up_fil m q) fun x => ?_
  rw [mem_fil, mem_fil]
  constructor <;> rintro ⟨⟨h1, h2⟩, h3⟩
  · exact ⟨⟨h1, h2⟩, by rw [← h x h1 h2]; exact h3⟩
  · exact ⟨⟨h1, h2⟩, by rw [h x h1 h2]; exact h3⟩
theorem fil_iff {m : Int} {p q : Int → Bool} : fil m p = fil m q ↔ ∀ x, 0 ≤ x → x < m → p x = q x := by
  refine ⟨fun h x h1 h2 => ?_, fil_ext⟩
  have e : x ∈ fil m p ↔ x ∈ fil m q := by rw [h]
  rw [mem_fil, mem_fil] at e
  have e2 : p x = true ↔ q x = true := ⟨fun z => (e.mp ⟨⟨h1, h2⟩, z⟩).2, fun z => (e.mpr ⟨⟨h1, h2⟩, z⟩).2⟩
  cases hp : p x <;> cases hq : q x <;> simp_all
theorem emod_add_sub {m a k : Int} (h1 : 0 ≤ a) (h2 : a < m) : ((a + k) % m - k) % m = a := by
  have h := Int.emod_add_mul_ediv (a + k) m
  have e : (a + k) % m - k = a + m * (-((a + k) / m)) := by
    have : m * (-((a + k) / m)) = -(m * ((a + k) / m)) := by rw [Int.mul_neg]
    omega
  rw [e, Int.add_mul_emod_self_left]
  exact Int.emod_eq_of_lt h1 h2
theorem emod_sub_add {m a k : Int} (h1 : 0 ≤ a) (h2 : a < m) : ((a - k) % m + k) % m = a := by
  have := emod_add_sub (k := -k) h1 h2
  rw [Int.sub_neg, Int.add_neg_eq_sub] at this
  exact this
/-- a set moved, sorted -/
theorem moved_fil {m k : Int} {p : Int → Bool} (hm : 0 < m) : isort ltI ((fil m p).map fun b => (b + k) % m) = fil m fun b => p ((b - k) % m) := by
  refine up_ext (up_isort _ ?_) (up_fil _ _) fun x => ?_
  · rw [List.Nodup, List.pairwise_map]
    refine (up_fil m p).imp_of_mem fun {a b} ha hb hab e => ?_
    rw [mem_fil] at ha hb
    have e1 := emod_add_sub (k := k) ha.1.1 ha.1.2
    have e2 := emod_add_sub (k := k) hb.1.1 hb.1.2
    rw [e] at e1
    omega
  · rw [mem_isort, List.mem_map, mem_fil]
    constructor
    · rintro ⟨b, hb, rfl⟩
      rw [mem_fil] at hb
      refine ⟨⟨Int.emod_nonneg _ (by omega), Int.emod_lt_of_pos _ hm⟩, ?_⟩
      rw [emod_add_sub hb.1.1 hb.1.2]
      exact hb.2
    · rintro ⟨⟨h1, h2⟩, h3⟩
      refine ⟨(x - k) % m, mem_fil.mpr ⟨⟨Int.emod_nonneg _ (by omega), Int.emod_lt_of_pos _ hm⟩, h3⟩, emod_sub_add h1 h2⟩
/-! ### comprehensions -/
theorem compL_enc {α : Type} {enc : α → D} {f : D → Out (Option D)} {k : α → Bool} {h : α → D} : ∀ (l : List α), (∀ x ∈ l, f (enc x) = .ok (if k x = true then some (h x) else none)) → compL f (l.map enc) = .ok ((l.filter k).map h)
  | [], _ => rfl
  | x :: r, hf => by
    have h0 := hf x List.mem_cons_self
    have ih := compL_enc r fun y hy => hf y (List.mem_cons_of_mem _ hy)
    rw [List.map_cons]
    unfold compL
    rw [h0]
    by_cases hk : k x = true
    · rw [if_pos hk, List.filter_cons_of_pos hk]
      simp only [ih, List.map_cons]
    · rw [if_neg hk, List.filter_cons_of_neg hk]
      simp only [ih]
theorem compL_all {α : Type} {enc : α → D} {f : D → Out (Option D)} {h : α → D} (l : List α) (hf : ∀ x ∈ l, f (enc x) = .ok (some (h x))) : compL f (l.map enc) = .ok (l.map h) := by
  have := compL_enc (f := f) (k := fun _ => true) (h := h) l fun x hx => by rw [hf x hx, if_pos rfl]
  rw [this, List.filter_eq_self.mpr fun _ _ => rfl]
section
variable {cal : Nat → List D → Out D} {ρ : En}
theorem lc_enc {α : Type} {enc : α → D} {ow : List (Str × Nat)} {t : Tg} {it c e : M} (l : List α) (k : α → Bool) (h : α → D) (hi : evI cal ρ it = .ok (l.map enc)) (hf : ∀ x ∈ l, turnL cal ρ ow t c e (enc x) = .ok (if k x = true then some (h x) else none)) :
    evE cal ρ (.lc ow t it c e) = .ok (.list ((l.filter k).map h)) := by
  rw [evE_lc, hi, bnd_ok, compL_enc l hf] <;> rfl
theorem lc_all {α : Type} {enc : α → D} {ow : List (Str × Nat)} {t : Tg} {it c e : M} (l : List α) (h : α → D) (hi : evI cal ρ it = .ok (l.map enc)) (hf : ∀ x ∈ l, turnL cal ρ ow t c e (enc x) = .ok (some (h x))) :
    evE cal ρ (.lc ow t it c e) = .ok (.list (l.map h)) := by
  rw [evE_lc, hi, bnd_ok, compL_all l hf] <;> rfl
/-! ### expressions, one step -/
@[simp] theorem e_nm {i : Nat} : evE cal ρ (.nm i) = match ρ[i]? with
  | some (.py d) => .ok d
  | _ => .bad := by
  simp only [evE] <;> rfl
@[simp] theorem e_ci {i : Int} : evE cal ρ (.ci i) = .ok (.int i) := by simp only [evE]
@[simp] theorem e_cb {i : Bool} : evE cal ρ (.cb i) = .ok (.bool i) := by simp only [evE]
@[simp] theorem e_cs {i : Str} : evE cal ρ (.cs i) = .ok (.str i) := by simp only [evE]
@[simp] theorem e_cn : evE cal ρ .cn = .ok .none := by simp only [evE]
@[simp] theorem e_gi {x : Str} {v : Int} : evE cal ρ (.gi x v) = .ok (.int v) := by simp only [evE]
@[simp] theorem e_bin {op : Operator} {a b : M} : evE cal ρ (.bin op a b) = (evE cal ρ a).bnd fun x => (evE cal ρ b).bnd fun y => opBin op x y := by simp only [evE]
@[simp] theorem e_cmp {op : CmpOp} {a b : M} : evE cal ρ (.cmp op a b) = (evE cal ρ a).bnd fun x => (evE cal ρ b).bnd fun y => (opCmp op x y).bnd fun k => .ok (.bool k) := by simp only [evE]
@[simp] theorem e_b1 {a : M} : evE cal ρ (.b1 a) = evE cal ρ a := by simp only [evE]
@[simp] theorem e_band {a b : M} : evE cal ρ (.band a b) = (asB (evE cal ρ a)).bnd fun k => if k = true then (asB (evE cal ρ b)).bnd fun k' => .ok (.bool k') else .ok (.bool false) := by simp only [evE]
@[simp] theorem e_bor {a b : M} : evE cal ρ (.bor a b) = (asB (evE cal ρ a)).bnd fun k => if k = true then .ok (.bool true) else (asB (evE cal ρ b)).bnd fun k' => .ok (.bool k') := by simp only [evE]
@[simp] theorem e_bnot {a : M} : evE cal ρ (.bnot a) = (asB (evE cal ρ a)).bnd fun k => .ok (.bool (!k)) := by simp only [evE]
@[simp] theorem e_ite {c a b : M} : evE cal ρ (.ite c a b) = (asB (evE cal ρ c)).bnd fun k => if k = true then evE cal ρ a else evE cal ρ b := by simp only [evE]
@[simp] theorem e_tup {as : M} : evE cal ρ (.tup as) = (evA cal ρ as).bnd fun xs => if xs.length ≤ SZ then .ok (.tuple xs) else .bad := by simp only [evE]
@[simp] theorem e_lst {as : M} : evE cal ρ (.lst as) = (evA cal ρ as).bnd fun xs => if xs.length ≤ SZ then .ok (.list xs) else .bad := by simp only [evE]
@[simp] theorem e_sub {a b : M} : evE cal ρ (.sub a b) = (evE cal ρ a).bnd fun x => (evE cal ρ b).bnd fun y => opIx x y := by simp only [evE]
@[simp] theorem e_slc {a l h : M} : evE cal ρ (.slc a l h) = (evE cal ρ a).bnd fun x => (evO cal ρ l).bnd fun l => (evO cal ρ h).bnd fun h => opSlc x l h := by simp only [evE]
@[simp] theorem e_call {f : Nat} {as : M} : evE cal ρ (.call f as) = (evA cal ρ as).bnd fun xs => cal f xs := by simp only [evE]
@[simp] theorem e_blt {b : Bl} {as : M} : evE cal ρ (.blt b as) = (evA cal ρ as).bnd fun xs => opBl b xs := by simp only [evE]
@[simp] theorem e_isi {a : M} {c : Cl} : evE cal ρ (.isi a c) = (evE cal ρ a).bnd fun x => (isD c x).bnd fun k => .ok (.bool k) := by simp only [evE]
@[simp] theorem a_nil' : evA cal ρ .nil = .ok [] := by simp only [evA]
@[simp] theorem a_cons' {a as : M} : evA cal ρ (.cons a as) = (evE cal ρ a).bnd fun x => (evA cal ρ as).bnd fun xs => .ok (x :: xs) := by simp only [evA]
@[simp] theorem asB_ok' (k : Bool) : asB (.ok (.bool k)) = .ok k := rfl
@[simp] theorem thaw_nil : thaw [] = [] := rfl
@[simp] theorem thaw_py (d : D) (r : En) : thaw (.py d :: r) = .py d :: thaw r := rfl
@[simp] theorem thaw_un (r : En) : thaw (.un :: r) = .un :: thaw r := rfl
@[simp] theorem thaw_own (ds : List D) (r : En) : thaw (.own ds :: r) = .py (.list ds) :: thaw r := rfl
theorem o_all {α : Type} (f : α → Bool) (l : List α) : opBl .all [.list (l.map fun x => .bool (f x))] = .ok (.bool (l.all f)) := by
  show (match allBools (l.map fun x => .bool (f x)) with
    | some bs => Out.ok (PyData.bool (bs.all id))
    | none => .bad) = _
  rw [allBools_mapf]
  simp
theorem o_any {α : Type} (f : α → Bool) (l : List α) : opBl .any [.list (l.map fun x => .bool (f x))] = .ok (.bool (l.any f)) := by
  show (match allBools (l.map fun x => .bool (f x)) with
    | some bs => Out.ok (PyData.bool (bs.any id))
    | none => .bad) = _
  rw [allBools_mapf]
  simp
theorem o_lenL (l : List D) : opBl .len [.list l] = .ok (.int l.length) := rfl
theorem o_lenT (l : List D) : opBl .len [.tuple l] = .ok (.int l.length) := rfl
theorem o_tup (l : List D) : opBl .tuple [.list l] = .ok (.tuple l) := rfl
theorem o_tupI (l : List Int) : opBl .tuple [.list (l.map .int)] = .ok (tupI l) := rfl
theorem o_sortI (l : List Int) : opBl .sorted [.list (l.map .int)] = .ok (.list ((isort ltI l).map .int)) := by
  show opSorted (.list (l.map .int)) = _
  unfold opSorted
  simp only [allInts_map]
  rfl
theorem o_minT {x : List Int} {r : List (List Int)} {m : List Int} (h : minBy lexI (x :: r) = some m) : opBl .min [.list ((x :: r).map tupI)] = .ok (tupI m) := by
  show (match allInts ((x :: r).map tupI) with
    | some ns => match minBy ltI ns with
      | some m => Out.ok (PyData.int m)
      | none => .bad
    | none => match allTups ((x :: r).map tupI) with
      | some ts => match minBy lexI ts with
        | some m => .ok (tupI m)
        | none => .bad
      | none => if srtOk ((x :: r).map tupI) = true then minR ((x :: r).map tupI) else .bad) = _
  rw [allTups_map]
  simp only [h]
  rfl
theorem o_minT' {l : List (List Int)} {m : List Int} (h : minBy lexI l = some m) : opBl .min [.list (l.map tupI)] = .ok (tupI m) := by
  cases l with
  | nil => cases h
  | cons x r => exact o_minT h
theorem b_mod (i j : Int) (h : 0 < j) : opBin .Mod (.int i) (.int j) = .ok (.int (i % j)) := by
  show (if 0 < j then Out.ok (PyData.int (i % j)) else .bad) = _
  rw [if_pos h]
@[simp] theorem b_add (i j : Int) : opBin .Add (.int i) (.int j) = .ok (.int (i + j)) := rfl
@[simp] theorem b_sub (i j : Int) : opBin .Sub (.int i) (.int j) = .ok (.int (i - j)) := rfl
theorem b_mul (i j : Int) (h : -two64 < i ∧ i < two64 ∨ -two64 < j ∧ j < two64) : opBin .Mult (.int i) (.int j) = .ok (.int (i * j)) := by
  show (if (-two64 < i ∧ i < two64) ∨ (-two64 < j ∧ j < two64) then Out.ok (PyData.int (i * j)) else .bad) = _
  rw [if_pos h]
theorem b_div (i j : Int) (h : 0 < j ∧ j < two64) : opBin .FloorDiv (.int i) (.int j) = .ok (.int (i / j)) := by
  show (if 0 < j ∧ j < two64 then Out.ok (PyData.int (i / j)) else .bad) = _
  rw [if_pos h]
@[simp] theorem c_lt (i j : Int) : opCmp .Lt (.int i) (.int j) = .ok (decide (i < j)) := rfl
@[simp] theorem c_le (i j : Int) : opCmp .LtE (.int i) (.int j) = .ok (decide (i ≤ j)) := rfl
@[simp] theorem c_gt (i j : Int) : opCmp .Gt (.int i) (.int j) = .ok (decide (j < i)) := rfl
@[simp] theorem c_ge (i j : Int) : opCmp .GtE (.int i) (.int j) = .ok (decide (j ≤ i)) := rfl
theorem atI_nat {α : Type} {l : List α} {i : Int} {x : α} (h : 0 ≤ i) (hx : l[i.toNat]? = some x) : L2.atI l i = some x := by
  have hl := (List.getElem?_eq_some_iff.mp hx).1
  unfold L2.atI L2.ixN
  rw [if_pos h, if_pos (by omega)]
  exact hx
/-! ### statements -/
theorem s_asg {t : Tg} {e : M} {d : D} {ρ' : En} (he : evE cal ρ e = .ok d) (hm : ment ρ e = false := by rfl) (ha : asgT t d ρ = some ρ' := by rfl) : evS cal (.asg t e) ρ = .nx ρ' := by
  simp only [evS, evX, hm, he, wth_ok, ha, Bool.false_eq_true, if_false]
theorem s_par {i j : Nat} {a b : M} {x y : D} (ha : evE cal ρ a = .ok x) (hb : evE cal ρ b = .ok y) (hm : (ment ρ a || ment ρ b) = false := by rfl) : evS cal (.par i j a b) ρ = .nx ((ρ.set i (.py x)).set j (.py y)) := by
  simp only [evS, hm, ha, hb, wth_ok, Bool.false_eq_true, if_false]
theorem s_xpr {e : M} {d : D} (he : evE cal ρ e = .ok d) (hm : ment ρ e = false := by rfl) : evS cal (.xpr e) ρ = .nx ρ := by
  simp only [evS, evX, hm, he, wth_ok, Bool.false_eq_true, if_false]
theorem s_ret {e : M} {d : D} (he : evE cal (thaw ρ) e = .ok d) : evS cal (.ret e) ρ = .ret d := by
  simp only [evS, he, wth_ok]
theorem s_if {c a b : M} {k : Bool} (he : evE cal (thaw ρ) c = .ok (.bool k)) : evS cal (.ifs c a b) ρ = if k = true then evS cal a ρ else evS cal b ρ := by
  cases k <;> simp [evS, he]
theorem s_sq {a b : M} {ρ' : En} (h : evS cal a ρ = .nx ρ') : evS cal (.sq a b) ρ = evS cal b ρ' := by
  simp only [evS, h]
theorem s_nil : evS cal .nil ρ = .nx ρ := by simp only [evS]
theorem s_fr {t : Tg} {it b : M} {tmp : List Nat} {xs : List D} (hi : evI cal ρ it = .ok xs) (hm : ment ρ it = false := by rfl) : evS cal (.fr t it b tmp) ρ = forL (fun x ρ' => match asgT t x ρ' with
        | some ρ2 => evS cal b ρ2
        | none => .bad) tmp xs ρ := by
  simp only [evS, hm, hi, Bool.false_eq_true, if_false] <;> rfl
theorem t_sq {a b : M} {ρ' : En} {o : SO} (h : evS cal a ρ = .nx ρ') (h2 : evS cal b ρ' = o) : evS cal (.sq a b) ρ = o := (s_sq h).trans h2
theorem t_ret {e b : M} {d : D} (he : evE cal (thaw ρ) e = .ok d) : evS cal (.sq (.ret e) b) ρ = .ret d := by
  simp only [evS, he, wth_ok]
theorem s_ifF {c a b : M} {o : SO} (he : evE cal (thaw ρ) c = .ok (.bool false)) (h : evS cal b ρ = o) : evS cal (.ifs c a b) ρ = o := (s_if he).trans h
theorem s_ifT {c a b : M} {o : SO} (he : evE cal (thaw ρ) c = .ok (.bool true)) (h : evS cal a ρ = o) : evS cal (.ifs c a b) ρ = o := (s_if he).trans h
theorem t_ifR {c a b r : M} {d : D} (he : evE cal (thaw ρ) c = .ok (.bool true)) (h : evS cal a ρ = .ret d) : evS cal (.sq (.ifs c a b) r) ρ = .ret d := by
  simp only [evS, he, wth_ok, h]
theorem fin_ret {o : SO} {d : D} (h : o = .ret d) : fin o = .ok d := by rw [h] <;> rfl
theorem fin_nx {o : SO} {ρ' : En} (h : o = .nx ρ') : fin o = .ok .none := by rw [h] <;> rfl
end
end Mz

/-! Plain facts: a set of beats moved round a cycle; its period; the least of its moves. -/
namespace Mz
open PySem
/-! ### the order of tuples -/
theorem lex_irr : ∀ a : List Int, lexI a a = false
  | [] => rfl
  | x :: a => by simp [lexI, lex_irr a]
theorem lex_tr : ∀ {a b c : List Int}, lexI a b = true → lexI b c = true → lexI a c = true
  | _, [], _, h, _ => by cases ‹List Int› <;> simp [lexI] at h
  | _, _ :: _, [], _, h => by simp [lexI] at h
  | [], _ :: _, _ :: _, _, _ => by simp [lexI]
  | x :: a, y :: b, z :: c, h, g => by
    unfold lexI at h g ⊢
    by_cases e1 : x = y
    · subst e1
      by_cases e2 : x = z
      · subst e2
        rw [if_pos rfl] at h g ⊢
        exact lex_tr h g
      · rw [if_neg e2] at g ⊢
        exact g
    · rw [if_neg e1, decide_eq_true_eq] at h
      by_cases e2 : y = z
      · subst e2
        rw [if_neg e1, decide_eq_true_eq]
        exact h
      · rw [if_neg e2, decide_eq_true_eq] at g
        rw [if_neg (by omega), decide_eq_true_eq]
        omega
theorem lex_con : ∀ {a b : List Int}, lexI a b = false → lexI b a = false → a = b
  | [], [], _, _ => rfl
  | [], _ :: _, h, _ => by simp [lexI] at h
  | _ :: _, [], _, h => by simp [lexI] at h
  | x :: a, y :: b, h, g => by
    unfold lexI at h g
    by_cases e : x = y
    · subst e
      rw [if_pos rfl] at h g
      rw [lex_con h g]
    · rw [if_neg e, decide_eq_false_iff_not] at h
      rw [if_neg (Ne.symm e), decide_eq_false_iff_not] at g
      omega
theorem fold_min (r : List (List Int)) : ∀ (x : List Int) (S : List (List Int)), x ∈ S → (∀ y ∈ S, lexI y x = false) → let m := r.foldl (fun m y => if lexI y m then y else m) x; (m ∈ S ∨ m ∈ r) ∧ (∀ y ∈ S, lexI y m = false) ∧ ∀ y ∈ r, lexI y m = false := by
  induction r with
  | nil =>
    intro x S h1 h2
    exact ⟨.inl h1, h2, fun y hy => by cases hy⟩
  | cons z r ih =>
    intro x S h1 h2
    rw [List.foldl_cons]
    by_cases hz : lexI z x = true
    · rw [if_pos hz]
      obtain ⟨g1, g2, g3⟩ := ih z (z :: S) List.mem_cons_self (fun y hy => by
        rcases List.mem_cons.mp hy with rfl | hy
        · exact lex_irr _
        · cases e : lexI y z with
          | false => rfl
          | true => exact absurd (h2 y hy) (by rw [lex_tr e hz]; decide))
      refine ⟨?_, fun y hy => g2 y (List.mem_cons_of_mem _ hy), fun y hy => ?_⟩
      · rcases g1 with g1 | g1
        · rcases List.mem_cons.mp g1 with e | g1
          · exact .inr (by rw [e]; exact List.mem_cons_self)
          · exact .inl g1
        · exact .inr (List.mem_cons_of_mem _ g1)
      · rcases List.mem_cons.mp hy with rfl | hy
        · exact g2 _ List.mem_cons_self
        · exact g3 y hy
    · rw [if_neg hz]
      obtain ⟨g1, g2, g3⟩ := ih x (z :: S) (List.mem_cons_of_mem _ h1) (fun y hy => by
        rcases List.mem_cons.mp hy with rfl | hy
        · simpa using hz
        · exact h2 y hy)
      refine ⟨?_, fun y hy => g2 y (List.mem_cons_of_mem _ hy), fun y hy => ?_⟩
      · rcases g1 with g1 | g1
        · rcases List.mem_cons.mp g1 with e | g1
          · exact .inr (by rw [e]; exact List.mem_cons_self)
          · exact .inl g1
        · exact .inr (List.mem_cons_of_mem _ g1)
      · rcases List.mem_cons.mp hy with rfl | hy
        · exact g2 _ List.mem_cons_self
        · exact g3 y hy
theorem min_ok {l : List (List Int)} {m : List Int} (h : minBy lexI l = some m) : m ∈ l ∧ ∀ y ∈ l, lexI y m = false := by
  cases l with
  | nil => cases h
  | cons x r =>
    cases h
    obtain ⟨g1, g2, g3⟩ := fold_min r x [x] List.mem_cons_self (fun y hy => by
      rw [List.mem_singleton] at hy
      subst hy
      exact lex_irr _)
    refine ⟨?_, fun y hy => ?_⟩
    · rcases g1 with g1 | g1
      · rw [List.mem_singleton] at g1
        rw [g1]
        exact List.mem_cons_self
      · exact List.mem_cons_of_mem _ g1
    · rcases List.mem_cons.mp hy with rfl | hy
      · exact g2 _ List.mem_cons_self
      · exact g3 y hy
theorem min_same {a b : List (List Int)} (h : ∀ x, x ∈ a ↔ x ∈ b) : minBy lexI a = minBy lexI b := by
  cases ha : minBy lexI a with
  | none =>
    cases a with
    | nil =>
      cases b with
      | nil => rfl
      | cons y r =>
        have := (h y).mpr List.mem_cons_self
        cases this
    | cons x r => cases ha
  | some m =>
    cases hb : minBy lexI b with
    | none =>
      cases b with
      | nil =>
        have := (h m).mp (min_ok ha).1
        cases this
      | cons x r => cases hb
    | some k =>
      obtain ⟨a1, a2⟩ := min_ok ha
      obtain ⟨b1, b2⟩ := min_ok hb
      rw [lex_con (b2 m ((h m).mp a1)) (a2 k ((h k).mpr b1))]
/-! ### moves -/
/-- the set moved by k -/
def mv (m : Int) (p : Int → Bool) (k : Int) : List Int := fil m fun b => p ((b - k) % m)
theorem sub_mod (x k m : Int) : (x % m - k) % m = (x - k) % m := Int.emod_sub_emod ..
theorem mv_iff {m : Int} (hm : 0 < m) {p q : Int → Bool} {i j : Int} : mv m p i = mv m q j ↔ ∀ x, p ((x - i) % m) = q ((x - j) % m) := by
  unfold mv
  rw [fil_iff]
  refine ⟨fun h x => ?_, fun h x _ _ => h x⟩
  have := h (x % m) (Int.emod_nonneg _ (by omega)) (Int.emod_lt_of_pos _ hm)
  rw [sub_mod, sub_mod] at this
  exact this
theorem mv_zero {m : Int} {p : Int → Bool} : mv m p 0 = fil m p := by
  unfold mv
  refine fil_ext fun x h1 h2 => ?_
  rw [Int.sub_zero, Int.emod_eq_of_lt h1 h2]
theorem mv_self {m : Int} {p : Int → Bool} : mv m p m = fil m p := by
  unfold mv
  refine fil_ext fun x h1 h2 => ?_
  rw [Int.sub_emod_right, Int.emod_eq_of_lt h1 h2]
/-- does moving by d leave the set -/
def Sb (m : Int) (p : Int → Bool) (d : Int) : Prop := ∀ x, p ((x - d) % m) = p (x % m)
theorem sb_iff {m : Int} (hm : 0 < m) {p : Int → Bool} {d : Int} : mv m p d = fil m p ↔ Sb m p d := by
  rw [← mv_zero, mv_iff hm]
  unfold Sb
  simp only [Int.sub_zero]
theorem Sb.sub {m : Int} {p : Int → Bool} {a b : Int} (ha : Sb m p a) (hb : Sb m p b) : Sb m p (a - b) := fun x => by
  have h1 := ha (x + b)
  have h2 := hb (x + b)
  rw [show x - (a - b) = x + b - a by omega, h1, ← h2, show x + b - b = x by omega]
theorem Sb.zero {m : Int} {p : Int → Bool} : Sb m p 0 := fun x => by rw [Int.sub_zero]
theorem Sb.add {m : Int} {p : Int → Bool} {a b : Int} (ha : Sb m p a) (hb : Sb m p b) : Sb m p (a + b) := by
  have := ha.sub (Sb.zero.sub hb)
  rw [show a - (0 - b) = a + b by omega] at this
  exact this
theorem Sb.mulN {m : Int} {p : Int → Bool} {a : Int} (ha : Sb m p a) : ∀ n : Nat, Sb m p (a * n)
  | 0 => by
    rw [Int.natCast_zero, Int.mul_zero]
    exact Sb.zero
  | n + 1 => by
    rw [Int.natCast_succ, Int.mul_add, Int.mul_one]
    exact (ha.mulN n).add ha
theorem Sb.mul {m : Int} {p : Int → Bool} {a : Int} (ha : Sb m p a) (q : Int) : Sb m p (a * q) := by
  rcases Int.le_total 0 q with h | h
  · obtain ⟨n, rfl⟩ := Int.eq_ofNat_of_zero_le h
    exact ha.mulN n
  · obtain ⟨n, hn⟩ := Int.eq_ofNat_of_zero_le (show 0 ≤ -q by omega)
    have := Sb.zero.sub (ha.mulN n)
    rw [← hn, Int.mul_neg] at this
    rw [show a * q = 0 - -(a * q) by omega]
    exact this
theorem Sb.self {m : Int} {p : Int → Bool} : Sb m p m := fun x => by rw [Int.sub_emod_right]
def parts (m : Int) (p : Int → Bool) : List Int := (rgI 1 (m + 1)).filter fun d => decide (m % d = 0) && decide (mv m p d = fil m p)
def per (m : Int) (p : Int → Bool) : Int := (parts m p).headD 0
theorem mem_parts {m : Int} {p : Int → Bool} {d : Int} : d ∈ parts m p ↔ (1 ≤ d ∧ d < m + 1) ∧ m % d = 0 ∧ mv m p d = fil m p := by
  unfold parts
  rw [List.mem_filter, mem_rgI, Bool.and_eq_true, decide_eq_true_eq, decide_eq_true_eq]
theorem parts_ne {m : Int} (hm : 0 < m) {p : Int → Bool} : ∃ t, parts m p = per m p :: t := by
  have h : m ∈ parts m p := mem_parts.mpr ⟨⟨by omega, by omega⟩, Int.emod_self, mv_self⟩
  unfold per
  cases e : parts m p with
  | nil =>
    rw [e] at h
    cases h
  | cons x t => exact ⟨t, rfl⟩
theorem up_head {x : Int} {t : List Int} (h : Up (x :: t)) : ∀ y ∈ x :: t, x ≤ y := fun y hy => by
  rw [Up, List.pairwise_cons] at h
  rcases List.mem_cons.mp hy with rfl | hy
  · exact Int.le_refl _
  · have := h.1 y hy
    omega
theorem per_spec {m : Int} (hm : 0 < m) {p : Int → Bool} : 1 ≤ per m p ∧ per m p ≤ m ∧ ∀ d, Sb m p d ↔ d % per m p = 0 := by
  classical
  obtain ⟨t, ht⟩ := parts_ne (p := p) hm
  have hg : per m p ∈ parts m p := by rw [ht]; exact List.mem_cons_self
  have upP : Up (per m p :: t) := by
    rw [← ht]
    exact (up_rgI 1 (m + 1)).filter _
  -- the least one that leaves the set
  have hE : m ∈ (rgI 1 (m + 1)).filter fun d => decide (Sb m p d) := List.mem_filter.mpr ⟨mem_rgI.mpr ⟨by omega, by omega⟩, decide_eq_true Sb.self⟩
  have upE : Up ((rgI 1 (m + 1)).filter fun d => decide (Sb m p d)) := (up_rgI 1 (m + 1)).filter _
  have memE : ∀ d, d ∈ ((rgI 1 (m + 1)).filter fun d => decide (Sb m p d)) ↔ (1 ≤ d ∧ d < m + 1) ∧ Sb m p d := fun d => by rw [List.mem_filter, mem_rgI, decide_eq_true_eq]
  cases e : (rgI 1 (m + 1)).filter fun d => decide (Sb m p d) with
  | nil =>
    rw [e] at hE
    cases hE
  | cons g r =>
    rw [e] at upE memE
    have g1 := (memE g).mp List.mem_cons_self
    have key : ∀ d, Sb m p d → d % g = 0 := fun d hd => by
      have h2 := g1.2.mul (d / g)
      have h3 := hd.sub h2
      have h4 : d - g * (d / g) = d % g := by
        have := Int.emod_add_mul_ediv d g
        omega
      rw [h4] at h3
      have h5 := Int.emod_nonneg d (show g ≠ 0 by omega)
      have h6 := Int.emod_lt_of_pos d (show 0 < g by omega)
      rcases Int.lt_or_eq_of_le h5 with h7 | h7
      · have h8 := up_head upE (d % g) ((memE _).mpr ⟨⟨by omega, by omega⟩, h3⟩)
        omega
      · exact h7.symm
    have hgp : g ∈ parts m p := mem_parts.mpr ⟨g1.1, key m Sb.self, (sb_iff hm).mpr g1.2⟩
    have hpm := mem_parts.mp hg
    have l1 : per m p ≤ g := by
      rw [ht] at hgp
      exact up_head upP g hgp
    have l2 : g ≤ per m p := up_head upE (per m p) ((memE _).mpr ⟨hpm.1, (sb_iff hm).mp hpm.2.2⟩)
    have eg : per m p = g := by omega
    rw [eg]
    refine ⟨g1.1.1, by omega, fun d => ⟨key d, fun h => ?_⟩⟩
    have := g1.2.mul (d / g)
    have h4 : g * (d / g) = d := by
      have := Int.emod_add_mul_ediv d g
      omega
    rw [h4] at this
    exact this
theorem mv_eq {m : Int} (hm : 0 < m) {p : Int → Bool} {i j : Int} : mv m p i = mv m p j ↔ (j - i) % per m p = 0 := by
  rw [mv_iff hm, ← (per_spec hm).2.2]
  unfold Sb
  refine ⟨fun h x => ?_, fun h x => ?_⟩
  · have := h (x + i)
    rw [show x + i - i = x by omega, show x + i - j = x - (j - i) by omega] at this
    exact this.symm
  · have := h (x - i)
    rw [show x - i - (j - i) = x - j by omega] at this
    exact this.symm
def mvs (m : Int) (p : Int → Bool) : List (List Int) := (rgI 0 m).map (mv m p)
theorem mem_mvs {m : Int} (hm : 0 < m) {p : Int → Bool} {l : List Int} : l ∈ mvs m p ↔ ∃ k, l = mv m p k := by
  unfold mvs
  rw [List.mem_map]
  constructor
  · rintro ⟨k, _, rfl⟩
    exact ⟨k, rfl⟩
  · rintro ⟨k, rfl⟩
    refine ⟨k % m, mem_rgI.mpr ⟨Int.emod_nonneg _ (by omega), Int.emod_lt_of_pos _ hm⟩, ?_⟩
    rw [mv_iff hm]
    intro x
    have e : x - k % m = x - k + m * (k / m) := by
      have := Int.emod_add_mul_ediv k m
      omega
    rw [e, Int.add_mul_emod_self_left]
theorem len_rgI (a b : Int) : (rgI a b).length = (b - a).toNat := by
  unfold rgI
  rw [List.length_map, List.length_range]
theorem get_rgI {a b : Int} {i : Nat} (h : i < (rgI a b).length) : (rgI a b)[i] = a + i := by
  simp only [rgI, List.getElem_map, List.getElem_range]
theorem idx_mvs {m : Int} (hm : 0 < m) {p : Int → Bool} {k : Int} (h1 : 0 ≤ k) (h2 : k < m) : (mvs m p).findIdx? (fun y => decide (y = mv m p k)) = some (k % per m p).toNat := by
  obtain ⟨g1, g2, _⟩ := per_spec (p := p) hm
  have l : (mvs m p).length = m.toNat := by
    unfold mvs
    rw [List.length_map, len_rgI, Int.sub_zero]
  have r0 := Int.emod_nonneg k (show per m p ≠ 0 by omega)
  have r1 := Int.emod_lt_of_pos k (show 0 < per m p by omega)
  have hd := Int.emod_add_mul_ediv k (per m p)
  have r3 : 0 ≤ per m p * (k / per m p) := Int.mul_nonneg (by omega) (Int.ediv_nonneg h1 (by omega))
  have r2 : k % per m p ≤ k := by omega
  rw [List.findIdx?_eq_some_iff_getElem]
  have get : ∀ (i : Nat) (hi : i < (mvs m p).length), (mvs m p)[i] = mv m p (i : Int) := fun i hi => by
    simp only [mvs, List.getElem_map, get_rgI, Int.zero_add]
  refine ⟨by rw [l]; omega, ?_, fun j hj => ?_⟩
  · rw [get, decide_eq_true_eq, mv_eq hm]
    have : k - (((k % per m p).toNat : Nat) : Int) = per m p * (k / per m p) := by omega
    rw [this, Int.mul_emod_right]
  · rw [get, decide_eq_true_eq, mv_eq hm]
    intro e
    have d1 : per m p ∣ k - (j : Int) := Int.dvd_of_emod_eq_zero e
    have d2 : per m p ∣ k - k % per m p := ⟨k / per m p, by omega⟩
    have d3 := Int.dvd_sub d1 d2
    rw [show k - (j : Int) - (k - k % per m p) = k % per m p - j by omega] at d3
    have := Int.le_of_dvd (by omega) d3
    omega
def lea (m : Int) (p : Int → Bool) : List Int := (minBy lexI (mvs m p)).getD []
theorem lea_ok {m : Int} (hm : 0 < m) {p : Int → Bool} : minBy lexI (mvs m p) = some (lea m p) := by
  unfold lea
  cases e : minBy lexI (mvs m p) with
  | some x => rfl
  | none =>
    have h : mv m p 0 ∈ mvs m p := (mem_mvs hm).mpr ⟨0, rfl⟩
    cases e2 : mvs m p with
    | nil =>
      rw [e2] at h
      cases h
    | cons x r =>
      rw [e2] at e
      cases e
theorem lea_iff {m : Int} (hm : 0 < m) {p q : Int → Bool} : lea m p = lea m q ↔ fil m q ∈ mvs m p := by
  rw [mem_mvs hm]
  constructor
  · intro h
    obtain ⟨a, ha⟩ := (mem_mvs hm).mp (min_ok (lea_ok (p := p) hm)).1
    obtain ⟨b, hb⟩ := (mem_mvs hm).mp (min_ok (lea_ok (p := q) hm)).1
    rw [ha, hb, mv_iff hm] at h
    refine ⟨a - b, ?_⟩
    rw [← mv_zero, mv_iff hm]
    intro x
    have := h (x + b)
    rw [show x + b - b = x - 0 by omega, show x + b - a = x - (a - b) by omega] at this
    exact this.symm
  · rintro ⟨k, hk⟩
    rw [← mv_zero, mv_iff hm] at hk
    unfold lea
    rw [min_same (b := mvs m q) fun l => ?_]
    rw [mem_mvs hm, mem_mvs hm]
    constructor
    · rintro ⟨a, rfl⟩
      refine ⟨a - k, (mv_iff hm).mpr fun x => ?_⟩
      have := hk (x - a + k)
      rw [show x - a + k - 0 = x - (a - k) by omega, show x - a + k - k = x - a by omega] at this
      exact this.symm
    · rintro ⟨a, rfl⟩
      refine ⟨a + k, (mv_iff hm).mpr fun x => ?_⟩
      have := hk (x - a)
      rw [Int.sub_zero, show x - a - k = x - (a + k) by omega] at this
      exact this
end Mz

/-! Plain facts: counting claps. -/
namespace Mz
open PySem
/-- pairs that meet at b -/
def pr (m : Int) (R T : List Int) (b : Int) : Nat := (T.map fun s => R.countP fun x => decide ((x + s) % m = b)).sum
theorem sum_zero {α : Type} : ∀ l : List α, (l.map fun _ => (0 : Nat)).sum = 0
  | [] => rfl
  | x :: r => by simp [sum_zero r]
theorem sum_add {α : Type} (f g : α → Nat) : ∀ l : List α, (l.map fun x => f x + g x).sum = (l.map f).sum + (l.map g).sum
  | [] => rfl
  | x :: r => by
    rw [List.map_cons, List.sum_cons, sum_add f g r, List.map_cons, List.sum_cons, List.map_cons, List.sum_cons]
    omega
theorem swap_count {α β : Type} (P : α → β → Bool) (R : List β) : ∀ T : List α, (T.map fun s => R.countP (P s)).sum = (R.map fun x => T.countP fun s => P s x).sum
  | [] => by simp [sum_zero]
  | s :: T => by
    rw [List.map_cons, List.sum_cons, swap_count P R T]
    have e : ∀ x, (s :: T).countP (fun s => P s x) = (if P s x = true then 1 else 0) + T.countP fun s => P s x := fun x => by
      rw [List.countP_cons]
      omega
    simp only [e]
    rw [sum_add]
    congr 1
    clear e
    induction R with
    | nil => rfl
    | cons x R ih =>
      rw [List.countP_cons, List.map_cons, List.sum_cons, ih]
      omega
theorem swap_sum {α β : Type} (f : α → β → Nat) (R : List β) : ∀ T : List α, (T.map fun s => (R.map (f s)).sum).sum = (R.map fun x => (T.map fun s => f s x).sum).sum
  | [] => by simp [sum_zero]
  | s :: T => by
    rw [List.map_cons, List.sum_cons, swap_sum f R T]
    have e : ∀ x, ((s :: T).map fun s => f s x).sum = f s x + (T.map fun s => f s x).sum := fun x => by rw [List.map_cons, List.sum_cons]
    simp only [e]
    rw [sum_add]
theorem pr_comm (m : Int) (R T : List Int) (b : Int) : pr m R T b = pr m T R b := by
  unfold pr
  rw [swap_count (fun s x => decide ((x + s) % m = b)) R T]
  simp only [Int.add_comm]
/-- how often a beat is one of a list that rises -/
theorem count_one {l : List Int} (h : Up l) (y : Int) : l.countP (fun x => decide (x = y)) = if y ∈ l then 1 else 0 := by
  induction l with
  | nil => rfl
  | cons x r ih =>
    rw [Up, List.pairwise_cons] at h
    rw [List.countP_cons, ih h.2]
    by_cases e : x = y
    · subst e
      have : x ∉ r := fun z => by
        have := h.1 x z
        omega
      simp [this]
    · simp [e, Ne.symm e]
theorem meet_iff {m x s b : Int} (h1 : 0 ≤ x) (h2 : x < m) (h3 : 0 ≤ b) (h4 : b < m) : (x + s) % m = b ↔ x = (b - s) % m := by
  constructor
  · rintro rfl
    rw [emod_add_sub h1 h2]
  · rintro rfl
    exact emod_sub_add h3 h4
/-- the starts at which beat b is clapped -/
def cnt (m : Int) (R T : List Int) (b : Int) : Nat := (T.filter fun s => decide ((b - s) % m ∈ R)).length
theorem cnt_pr {m : Int} {R T : List Int} (hR : Up R) (hb : ∀ x ∈ R, 0 ≤ x ∧ x < m) {b : Int} (h3 : 0 ≤ b) (h4 : b < m) : cnt m R T b = pr m R T b := by
  unfold cnt pr
  induction T with
  | nil => rfl
  | cons s T ih =>
    rw [List.map_cons, List.sum_cons, ← ih]
    have e : R.countP (fun x => decide ((x + s) % m = b)) = if (b - s) % m ∈ R then 1 else 0 := by
      rw [← count_one hR]
      refine List.countP_congr fun x hx => ?_
      rw [decide_eq_true_eq, decide_eq_true_eq]
      exact meet_iff (hb x hx).1 (hb x hx).2 h3 h4
    rw [e, List.filter_cons]
    by_cases q : (b - s) % m ∈ R
    · simp [q]
      omega
    · simp [q]
def cts (m : Int) (R T : List Int) : List Int := (rgI 0 m).map fun b => (cnt m R T b : Int)
theorem cts_comm {m : Int} {R T : List Int} (hR : Up R) (hb : ∀ x ∈ R, 0 ≤ x ∧ x < m) (hT : Up T) (hc : ∀ x ∈ T, 0 ≤ x ∧ x < m) : cts m T R = cts m R T := by
  unfold cts
  refine List.map_congr_left fun b h => ?_
  have h := mem_rgI.mp h
  rw [cnt_pr hR hb h.1 h.2, cnt_pr hT hc h.1 h.2, pr_comm]
theorem sum_cast {α : Type} (f : α → Nat) : ∀ l : List α, (l.map fun x => (f x : Int)).sum = ((l.map f).sum : Nat)
  | [] => rfl
  | x :: r => by
    rw [List.map_cons, List.sum_cons, sum_cast f r, List.map_cons, List.sum_cons]
    omega
theorem sum_one {α : Type} (f : α → Nat) : ∀ l : List α, (∀ x ∈ l, f x = 1) → (l.map f).sum = l.length
  | [], _ => rfl
  | x :: r, h => by
    rw [List.map_cons, List.sum_cons, h x List.mem_cons_self, sum_one f r fun y hy => h y (List.mem_cons_of_mem _ hy), List.length_cons]
    omega
theorem sum_const {α : Type} (k : Nat) : ∀ l : List α, (l.map fun _ => k).sum = l.length * k
  | [] => by simp
  | x :: r => by
    rw [List.map_cons, List.sum_cons, sum_const k r, List.length_cons, Nat.succ_mul]
    omega
theorem sum_cts {m : Int} (hm : 0 < m) {R T : List Int} (hR : Up R) (hb : ∀ x ∈ R, 0 ≤ x ∧ x < m) : (cts m R T).sum = (R.length : Int) * T.length := by
  unfold cts
  have e1 : (rgI 0 m).map (fun b => (cnt m R T b : Int)) = (rgI 0 m).map fun b => (pr m R T b : Int) := List.map_congr_left fun b h => by
    have h := mem_rgI.mp h
    rw [cnt_pr hR hb h.1 h.2]
  rw [e1, sum_cast]
  unfold pr
  rw [swap_sum (fun b s => R.countP fun x => decide ((x + s) % m = b)) T (rgI 0 m)]
  have e2 : ∀ s, ((rgI 0 m).map fun b => R.countP fun x => decide ((x + s) % m = b)).sum = R.length := fun s => by
    rw [swap_count (fun b x => decide ((x + s) % m = b)) R (rgI 0 m)]
    refine sum_one _ R fun x _ => ?_
    have e3 : (rgI 0 m).countP (fun b => decide ((x + s) % m = b)) = (rgI 0 m).countP fun b => decide (b = (x + s) % m) := List.countP_congr fun b _ => by
      rw [decide_eq_true_eq, decide_eq_true_eq]
      exact eq_comm
    rw [e3, count_one (up_rgI 0 m), if_pos]
    exact mem_rgI.mpr ⟨Int.emod_nonneg _ (by omega), Int.emod_lt_of_pos _ hm⟩
  simp only [e2]
  rw [sum_const, Nat.mul_comm]
  exact Int.natCast_mul ..
/-- adding the claps of one start -/
def addS (m s : Int) : List Int → (Int → Int) → Int → Int
  | [], c => c
  | x :: r, c => addS m s r fun b => if b = (x + s) % m then c b + 1 else c b
theorem addS_eq (m s : Int) : ∀ (R : List Int) (c : Int → Int) (b : Int), addS m s R c b = c b + (R.countP (fun x => decide ((x + s) % m = b)) : Nat)
  | [], c, b => by simp [addS]
  | x :: r, c, b => by
    unfold addS
    rw [addS_eq m s r, List.countP_cons]
    by_cases h : b = (x + s) % m
    · simp [h]
      omega
    · simp [h, Ne.symm h]
def addT (m : Int) (R : List Int) : List Int → (Int → Int) → Int → Int
  | [], c => c
  | s :: T, c => addT m R T (addS m s R c)
theorem addT_eq (m : Int) (R : List Int) : ∀ (T : List Int) (c : Int → Int) (b : Int), addT m R T c b = c b + (pr m R T b : Nat)
  | [], c, b => by simp [addT, pr]
  | s :: T, c, b => by
    unfold addT
    rw [addT_eq m R T, addS_eq]
    unfold pr
    rw [List.map_cons, List.sum_cons]
    omega
theorem set_rg {m k : Int} (h0 : 0 ≤ k) (h1 : k < m) (c : Int → Int) (v : Int) : ((rgI 0 m).map fun b => PyData.int (c b)).set k.toNat (.int v) = (rgI 0 m).map fun b => PyData.int (if b = k then v else c b) := by
  refine List.ext_getElem (by simp) fun i h2 h3 => ?_
  rw [List.getElem_set]
  simp only [List.getElem_map, get_rgI]
  by_cases e : k.toNat = i
  · rw [if_pos e, if_pos (by omega)]
  · rw [if_neg e, if_neg (by omega)]
theorem get_rg {m k : Int} (h0 : 0 ≤ k) (h1 : k < m) (c : Int → Int) : L2.atI ((rgI 0 m).map fun b => PyData.int (c b)) k = some (.int (c k)) := by
  refine atI_nat h0 ?_
  have hl : k.toNat < (rgI 0 m).length := by
    rw [len_rgI]
    omega
  rw [List.getElem?_map, List.getElem?_eq_getElem hl, get_rgI]
  have : 0 + ((k.toNat : Nat) : Int) = k := by omega
  rw [this] <;> rfl
theorem zeros (m : Int) (v : Int) : (List.replicate m.toNat [PyData.int v]).flatten = (rgI 0 m).map fun _ => PyData.int v := by
  have e : ∀ n : Nat, (List.replicate n [PyData.int v]).flatten = List.replicate n (PyData.int v) := fun n => by
    induction n with
    | zero => rfl
    | succ n ih =>
      rw [List.replicate_succ, List.flatten_cons, ih, List.replicate_succ] <;> rfl
  rw [e]
  refine List.ext_getElem (by simp [len_rgI]) fun i h2 h3 => ?_
  simp
theorem enm_rg (c : Int → Int) : ∀ (n : Nat) (a : Nat), enmD a ((List.range' a n).map fun (i : Nat) => PyData.int (c i)) = (List.range' a n).map fun (i : Nat) => PyData.tuple [.int (i : Int), .int (c i)]
  | 0, a => rfl
  | n + 1, a => by
    rw [List.range'_succ, List.map_cons, List.map_cons]
    unfold enmD
    rw [enm_rg c n (a + 1)]
theorem rgI0 (m : Int) : rgI 0 m = (List.range' 0 m.toNat).map fun (i : Nat) => (i : Int) := by
  unfold rgI
  rw [Int.sub_zero, List.range_eq_range']
  exact List.map_congr_left fun i _ => Int.zero_add _
theorem enm0 (m : Int) (c : Int → Int) : enmD 0 ((rgI 0 m).map fun b => PyData.int (c b)) = (rgI 0 m).map fun b => PyData.tuple [.int b, .int (c b)] := by
  rw [rgI0, List.map_map, List.map_map]
  exact enm_rg c m.toNat 0
theorem lst_cts (m : Int) (R T : List Int) : lstI (cts m R T) = .list ((rgI 0 m).map fun b => PyData.int (cnt m R T b : Int)) := by
  unfold lstI cts
  rw [List.map_map] <;> rfl
theorem o_sumI (l : List Int) : opBl .sum [lstI l] = .ok (.int l.sum) := by
  show (match allInts (l.map .int) with
    | some ns => Out.ok (PyData.int ns.sum)
    | none => .bad) = _
  rw [allInts_map]
theorem o_lenI (l : List Int) : opBl .len [tupI l] = .ok (.int l.length) := by
  show Out.ok (PyData.int ((l.map PyData.int).length : Nat)) = _
  rw [List.length_map]
theorem o_lenLI (l : List Int) : opBl .len [lstI l] = .ok (.int l.length) := by
  show Out.ok (PyData.int ((l.map PyData.int).length : Nat)) = _
  rw [List.length_map]
def mxI (l : List Int) : Int := (maxBy ltI l).getD 0
def mnI (l : List Int) : Int := (minBy ltI l).getD 0
theorem o_maxI {l : List Int} (h : l ≠ []) : opBl .max [lstI l] = .ok (.int (mxI l)) := by
  show (match allInts (l.map .int) with
    | some ns => match maxBy ltI ns with
      | some m => Out.ok (PyData.int m)
      | none => .bad
    | none => .bad) = _
  rw [allInts_map]
  cases l with
  | nil => exact absurd rfl h
  | cons x r => rfl
theorem o_minI {l : List Int} (h : l ≠ []) : opBl .min [lstI l] = .ok (.int (mnI l)) := by
  show (match allInts (l.map .int) with
    | some ns => match minBy ltI ns with
      | some m => Out.ok (PyData.int m)
      | none => .bad
    | none => match allTups (l.map .int) with
      | some ts => match minBy lexI ts with
        | some m => .ok (tupI m)
        | none => .bad
      | none => if srtOk (l.map .int) = true then minR (l.map .int) else .bad) = _
  rw [allInts_map]
  cases l with
  | nil => exact absurd rfl h
  | cons x r => rfl
theorem cts_ne {m : Int} (hm : 0 < m) (R T : List Int) : cts m R T ≠ [] := by
  intro z
  have h : (cts m R T).length = m.toNat := by
    unfold cts
    rw [List.length_map, len_rgI, Int.sub_zero]
  rw [z, List.length_nil] at h
  omega
theorem len_fil {m : Int} (p : Int → Bool) : (fil m p).length ≤ m.toNat := by
  unfold fil
  refine Nat.le_trans (List.length_filter_le _ _) ?_
  rw [len_rgI, Int.sub_zero]
  exact Nat.le_refl _
theorem ones {m : Int} (h0 : 0 ≤ m) (h1 : m ≤ 1000) (v : Int) : opBin .Mult (.list [.int v]) (.int m) = .ok (lstI ((rgI 0 m).map fun _ => v)) := by
  have e : lstI ((rgI 0 m).map fun _ => v) = .list (List.replicate m.toNat [PyData.int v]).flatten := by
    rw [zeros]
    unfold lstI
    rw [List.map_map] <;> rfl
  rw [e]
  show (if 0 ≤ m ∧ m < two62 ∧ [PyData.int v].length * m.toNat ≤ SZ then Out.ok (PyData.list (List.replicate m.toNat [PyData.int v]).flatten) else .bad) = _
  rw [if_pos ⟨by omega, by unfold two62; omega, by unfold SZ; simp; omega⟩]
theorem cnt_mv {m : Int} (hm : 0 < m) (p : Int → Bool) (T : List Int) (k b : Int) : cnt m (mv m p k) T b = cnt m (fil m p) T ((b - k) % m) := by
  unfold cnt
  congr 2
  funext s
  have a0 := Int.emod_nonneg (b - s) (show m ≠ 0 by omega)
  have a1 := Int.emod_lt_of_pos (b - s) hm
  have b0 := Int.emod_nonneg ((b - k) % m - s) (show m ≠ 0 by omega)
  have b1 := Int.emod_lt_of_pos ((b - k) % m - s) hm
  rw [Bool.eq_iff_iff, decide_eq_true_eq, decide_eq_true_eq]
  unfold mv
  rw [mem_fil, mem_fil, sub_mod, sub_mod, show b - s - k = b - k - s by omega]
  constructor
  · rintro ⟨_, h⟩
    exact ⟨⟨Int.emod_nonneg _ (by omega), Int.emod_lt_of_pos _ hm⟩, h⟩
  · rintro ⟨_, h⟩
    exact ⟨⟨a0, a1⟩, h⟩
theorem cut_hi {l : List D} {k : Int} (h0 : 0 ≤ k) (h1 : k ≤ l.length) : cutD l (some k) none = l.drop k.toNat := by
  unfold cutD
  have e : HT.sIx l.length 0 (some k) = k.toNat := by
    show (if k < 0 then (k + (l.length : Int)).toNat else min k.toNat l.length) = _
    rw [if_neg (by omega)]
    omega
  rw [e, HT.sIx_none]
  exact List.take_of_length_le (by rw [List.length_drop]; omega)
theorem cut_lo {l : List D} {k : Int} (h0 : 0 ≤ k) (h1 : k ≤ l.length) : cutD l none (some k) = l.take k.toNat := by
  unfold cutD
  have e : HT.sIx l.length l.length (some k) = k.toNat := by
    show (if k < 0 then (k + (l.length : Int)).toNat else min k.toNat l.length) = _
    rw [if_neg (by omega)]
    omega
  rw [e, HT.sIx_none, List.drop_zero, Nat.sub_zero]
theorem turned {m k : Int} (h0 : 0 ≤ k) (h1 : k < m) (g : Int → Int) : ((rgI 0 m).map fun b => PyData.int (g b)).drop (m - k).toNat ++ ((rgI 0 m).map fun b => PyData.int (g b)).take (m - k).toNat = (rgI 0 m).map fun b => PyData.int (g ((b - k) % m)) := by
  have l : (rgI 0 m).length = m.toNat := by rw [len_rgI, Int.sub_zero]
  refine List.ext_getElem (by
    rw [List.length_append, List.length_drop, List.length_take, List.length_map, List.length_map, l]
    omega) fun i h2 h3 => ?_
  rw [List.length_map, l] at h3
  rw [List.getElem_append]
  simp only [List.length_drop, List.length_map, l, List.getElem_drop, List.getElem_take, List.getElem_map, get_rgI]
  split
  · have e : (0 + (i : Int) - k) % m = (0 + (((m - k).toNat + i : Nat) : Int)) := by
      have e2 : 0 + (i : Int) - k = (((m - k).toNat + i : Nat) : Int) + m * (-1) := by omega
      rw [e2, Int.add_mul_emod_self_left, Int.emod_eq_of_lt (by omega) (by omega)]
      omega
    rw [e]
  · have e : (0 + (i : Int) - k) % m = (0 + ((i - (m.toNat - (m - k).toNat) : Nat) : Int)) := by
      rw [Int.emod_eq_of_lt (by omega) (by omega)]
      omega
    rw [e]
end Mz

/-! Plain facts: how many beats a set shares with its moves. -/
namespace Mz
open PySem
/-- beats that the set shares with its move by k -/
def shS (m : Int) (p : Int → Bool) (k : Int) : List Int := fil m fun b => p b && p ((b - k) % m)
def sh (m : Int) (p : Int → Bool) (k : Int) : Int := (shS m p k).length
def shl (m : Int) (p : Int → Bool) : List Int := (rgI 0 m).map (sh m p)
theorem shS_1 {m k : Int} {p : Int → Bool} (hm : 0 < m) : (fil m p).filter (fun x => decide ((x - k) % m ∈ fil m p)) = shS m p k := by
  refine up_ext ((up_fil m p).filter _) (up_fil _ _) fun x => ?_
  unfold shS
  have a0 := Int.emod_nonneg (x - k) (show m ≠ 0 by omega)
  have a1 := Int.emod_lt_of_pos (x - k) hm
  rw [List.mem_filter, decide_eq_true_eq, mem_fil, mem_fil, mem_fil, Bool.and_eq_true]
  constructor
  · rintro ⟨⟨h1, h2⟩, _, h3⟩
    exact ⟨h1, h2, h3⟩
  · rintro ⟨h1, h2, h3⟩
    exact ⟨⟨h1, h2⟩, ⟨a0, a1⟩, h3⟩
theorem shS_2 {m k : Int} {p : Int → Bool} : (mv m p k).filter (fun x => decide (x ∈ fil m p)) = shS m p k := by
  refine up_ext ((up_fil m _).filter _) (up_fil _ _) fun x => ?_
  unfold shS mv
  rw [List.mem_filter, decide_eq_true_eq, mem_fil, mem_fil, mem_fil, Bool.and_eq_true]
  constructor
  · rintro ⟨⟨h1, h2⟩, _, h3⟩
    exact ⟨h1, h3, h2⟩
  · rintro ⟨h1, h2, h3⟩
    exact ⟨⟨h1, h3⟩, h1, h2⟩
theorem countP_sum {α : Type} (P : α → Bool) : ∀ l : List α, l.countP P = (l.map fun x => if P x = true then 1 else 0).sum
  | [] => rfl
  | x :: r => by
    rw [List.countP_cons, countP_sum P r, List.map_cons, List.sum_cons]
    omega
theorem sh_count {m k : Int} {p : Int → Bool} (hm : 0 < m) : (shS m p k).length = (fil m p).countP fun x => decide ((x - k) % m ∈ fil m p) := by
  rw [← shS_1 hm, List.countP_eq_length_filter]
theorem sub_eq {m x k y : Int} (h1 : 0 ≤ k) (h2 : k < m) (h3 : 0 ≤ y) (h4 : y < m) : y = (x - k) % m ↔ k = (x - y) % m := by
  constructor
  · rintro rfl
    have e : x - (x - k) % m = k + m * ((x - k) / m) := by
      have := Int.emod_add_mul_ediv (x - k) m
      omega
    rw [e, Int.add_mul_emod_self_left, Int.emod_eq_of_lt h1 h2]
  · rintro rfl
    have e : x - (x - y) % m = y + m * ((x - y) / m) := by
      have := Int.emod_add_mul_ediv (x - y) m
      omega
    rw [e, Int.add_mul_emod_self_left, Int.emod_eq_of_lt h3 h4]
theorem ind_count {l : List Int} (h : Up l) (y : Int) : (if y ∈ l then 1 else 0) = l.countP fun x => decide (x = y) := (count_one h y).symm
theorem sum_sh {m : Int} {p : Int → Bool} (hm : 0 < m) : (shl m p).sum = ((fil m p).length : Int) * (fil m p).length := by
  unfold shl sh
  rw [sum_cast]
  simp only [sh_count hm]
  rw [swap_count (fun k x => decide ((x - k) % m ∈ fil m p)) (fil m p) (rgI 0 m)]
  have e : ∀ x, (rgI 0 m).countP (fun k => decide ((x - k) % m ∈ fil m p)) = (fil m p).length := fun x => by
    rw [countP_sum]
    simp only [decide_eq_true_eq, ind_count (up_fil m p)]
    rw [swap_count (fun k y => decide (y = (x - k) % m)) (fil m p) (rgI 0 m)]
    refine sum_one _ _ fun y hy => ?_
    have hy := (mem_fil.mp hy).1
    have e2 : (rgI 0 m).countP (fun k => decide (y = (x - k) % m)) = (rgI 0 m).countP fun k => decide (k = (x - y) % m) := List.countP_congr fun k hk => by
      have hk := mem_rgI.mp hk
      rw [decide_eq_true_eq, decide_eq_true_eq]
      exact sub_eq hk.1 hk.2 hy.1 hy.2
    rw [e2, count_one (up_rgI 0 m), if_pos]
    exact mem_rgI.mpr ⟨Int.emod_nonneg _ (by omega), Int.emod_lt_of_pos _ hm⟩
  simp only [e]
  rw [sum_const]
  exact Int.natCast_mul ..
theorem sh_zero {m : Int} {p : Int → Bool} : sh m p 0 = (fil m p).length := by
  unfold sh shS
  congr 2
  refine fil_ext fun x h1 h2 => ?_
  rw [Int.sub_zero, Int.emod_eq_of_lt h1 h2, Bool.and_self]
theorem sh_sym {m k : Int} {p : Int → Bool} (hm : 0 < m) : sh m p k = sh m p (m - k) := by
  unfold sh
  congr 1
  rw [sh_count hm, sh_count hm, countP_sum]
  simp only [decide_eq_true_eq, ind_count (up_fil m p)]
  rw [swap_count (fun x y => decide (y = (x - k) % m)) (fil m p) (fil m p), countP_sum]
  simp only [decide_eq_true_eq, ind_count (up_fil m p)]
  congr 1
  refine List.map_congr_left fun y hy => List.countP_congr fun x hx => ?_
  have hy := (mem_fil.mp hy).1
  have hx := (mem_fil.mp hx).1
  rw [decide_eq_true_eq, decide_eq_true_eq]
  have e : (y - (m - k)) % m = (y + k) % m := by
    rw [show y - (m - k) = y + k + m * (-1) by omega, Int.add_mul_emod_self_left]
  rw [e]
  constructor
  · rintro rfl
    exact (emod_sub_add hx.1 hx.2).symm
  · rintro rfl
    exact (emod_add_sub hy.1 hy.2).symm
theorem len_isort : ∀ l : List Int, (isort ltI l).length = l.length
  | [] => rfl
  | x :: r => by
    unfold isort
    rw [len_ins, len_isort r, List.length_cons]
theorem len_mv {m : Int} (hm : 0 < m) (p : Int → Bool) (k : Int) : (mv m p k).length = (fil m p).length := by
  unfold mv
  rw [← moved_fil hm, len_isort, List.length_map]
theorem shl_mv {m : Int} (hm : 0 < m) (p : Int → Bool) (j : Int) : shl m (fun b => p ((b - j) % m)) = shl m p := by
  unfold shl
  refine List.map_congr_left fun k _ => ?_
  unfold sh shS
  rw [← len_mv hm (fun b => p b && p ((b - k) % m)) j]
  congr 2
  unfold mv
  refine fil_ext fun b _ _ => ?_
  show (p ((b - j) % m) && p (((b - k) % m - j) % m)) = (p ((b - j) % m) && p (((b - j) % m - k) % m))
  rw [sub_mod, sub_mod, show b - k - j = b - j - k by omega]
/-- a set turned round -/
theorem turned_fil {m : Int} {p : Int → Bool} (hm : 0 < m) : isort ltI ((fil m p).map fun b => (0 - b) % m) = fil m fun b => p ((0 - b) % m) := by
  have inv : ∀ x, 0 ≤ x → x < m → (0 - (0 - x) % m) % m = x := fun x h1 h2 => by
    have e : 0 - (0 - x) % m = x + m * ((0 - x) / m) := by
      have := Int.emod_add_mul_ediv (0 - x) m
      omega
    rw [e, Int.add_mul_emod_self_left, Int.emod_eq_of_lt h1 h2]
  refine up_ext (up_isort _ ?_) (up_fil _ _) fun x => ?_
  · rw [List.Nodup, List.pairwise_map]
    refine (up_fil m p).imp_of_mem fun {a b} ha hb hab e => ?_
    rw [mem_fil] at ha hb
    have e1 := inv a ha.1.1 ha.1.2
    have e2 := inv b hb.1.1 hb.1.2
    rw [e] at e1
    omega
  · rw [mem_isort, List.mem_map, mem_fil]
    constructor
    · rintro ⟨b, hb, rfl⟩
      rw [mem_fil] at hb
      refine ⟨⟨Int.emod_nonneg _ (by omega), Int.emod_lt_of_pos _ hm⟩, ?_⟩
      rw [inv b hb.1.1 hb.1.2]
      exact hb.2
    · rintro ⟨⟨h1, h2⟩, h3⟩
      exact ⟨(0 - x) % m, mem_fil.mpr ⟨⟨Int.emod_nonneg _ (by omega), Int.emod_lt_of_pos _ hm⟩, h3⟩, inv x h1 h2⟩
theorem mx_ok (l : List Int) (h : l ≠ []) : mxI l ∈ l ∧ ∀ y ∈ l, y ≤ mxI l := by
  cases l with
  | nil => exact absurd rfl h
  | cons x r =>
    have key : ∀ (r : List Int) (x : Int), (r.foldl (fun m y => if ltI m y then y else m) x = x ∨ r.foldl (fun m y => if ltI m y then y else m) x ∈ r) ∧ x ≤ r.foldl (fun m y => if ltI m y then y else m) x ∧ ∀ y ∈ r, y ≤ r.foldl (fun m y => if ltI m y then y else m) x := by
      intro r
      induction r with
      | nil => exact fun x => ⟨.inl rfl, Int.le_refl _, fun y hy => by cases hy⟩
      | cons z r ih =>
        intro x
        rw [List.foldl_cons]
        by_cases hz : ltI x z = true
        · rw [if_pos hz]
          rw [ltI, decide_eq_true_eq] at hz
          obtain ⟨g1, g2, g3⟩ := ih z
          refine ⟨?_, by omega, fun y hy => ?_⟩
          · rcases g1 with g1 | g1
            · exact .inr (by rw [g1]; exact List.mem_cons_self)
            · exact .inr (List.mem_cons_of_mem _ g1)
          · rcases List.mem_cons.mp hy with rfl | hy
            · exact g2
            · exact g3 y hy
        · rw [if_neg hz]
          rw [ltI, decide_eq_true_eq] at hz
          obtain ⟨g1, g2, g3⟩ := ih x
          refine ⟨?_, g2, fun y hy => ?_⟩
          · rcases g1 with g1 | g1
            · exact .inl g1
            · exact .inr (List.mem_cons_of_mem _ g1)
          · rcases List.mem_cons.mp hy with rfl | hy
            · omega
            · exact g3 y hy
    obtain ⟨g1, g2, g3⟩ := key r x
    refine ⟨?_, fun y hy => ?_⟩
    · rcases g1 with g1 | g1
      · exact List.mem_cons.mpr (.inl g1)
      · exact List.mem_cons_of_mem _ g1
    · rcases List.mem_cons.mp hy with rfl | hy
      · exact g2
      · exact g3 y hy
theorem two_of {l : List Int} {s t : Int} (hs : s ∈ l) (ht : t ∈ l) (h : s ≠ t) : 2 ≤ l.length := by
  match l, hs, ht with
  | [x], hs, ht =>
    rw [List.mem_singleton] at hs ht
    exact absurd (hs.trans ht.symm) h
  | _ :: _ :: _, _, _ => simp
theorem of_two {l : List Int} (hu : Up l) (h : 2 ≤ l.length) : ∃ s t, s ∈ l ∧ t ∈ l ∧ s < t := by
  match l, hu, h with
  | x :: y :: r, hu, _ =>
    rw [Up, List.pairwise_cons] at hu
    exact ⟨x, y, by simp, by simp, hu.1 y (by simp)⟩
theorem sh_pos {m k : Int} {p : Int → Bool} : 0 < sh m p k ↔ ∃ x, (0 ≤ x ∧ x < m) ∧ p x = true ∧ p ((x - k) % m) = true := by
  unfold sh
  have e : (0 : Int) < ((shS m p k).length : Int) ↔ 0 < (shS m p k).length := by omega
  rw [e, List.length_pos_iff_exists_mem]
  unfold shS
  simp only [mem_fil, Bool.and_eq_true]
/-- starts clash, or no beat is clapped twice -/
theorem pack_iff {m : Int} (hm : 0 < m) {p : Int → Bool} {T : List Int} (uT : Up T) (bT : ∀ x ∈ T, 0 ≤ x ∧ x < m) : mxI (cts m (fil m p) T) ≤ 1 ↔ ¬ ∃ s ∈ T, ∃ t ∈ T, t ≠ s ∧ 0 < sh m p ((t - s) % m) := by
  obtain ⟨m1, m2⟩ := mx_ok _ (cts_ne hm (fil m p) T)
  constructor
  · rintro h ⟨s, hs, t, ht, hst, hp⟩
    obtain ⟨x, hx, px, py⟩ := sh_pos.mp hp
    have b0 := Int.emod_nonneg (x + s) (show m ≠ 0 by omega)
    have b1 := Int.emod_lt_of_pos (x + s) hm
    have hb := m2 (cnt m (fil m p) T ((x + s) % m)) (by
      unfold cts
      exact List.mem_map.mpr ⟨_, mem_rgI.mpr ⟨b0, b1⟩, rfl⟩)
    have e1 : ((x + s) % m - s) % m = x := emod_add_sub hx.1 hx.2
    have e2 : ((x + s) % m - t) % m = (x - (t - s) % m) % m := by
      rw [sub_mod]
      have e : x - (t - s) % m = x + s - t + m * ((t - s) / m) := by
        have := Int.emod_add_mul_ediv (t - s) m
        omega
      rw [e, Int.add_mul_emod_self_left]
    have two : 2 ≤ cnt m (fil m p) T ((x + s) % m) := by
      unfold cnt
      refine two_of (s := s) (t := t) ?_ ?_ (Ne.symm hst)
      · rw [List.mem_filter, decide_eq_true_eq, e1]
        exact ⟨hs, mem_fil.mpr ⟨hx, px⟩⟩
      · rw [List.mem_filter, decide_eq_true_eq, e2]
        exact ⟨ht, mem_fil.mpr ⟨⟨Int.emod_nonneg _ (by omega), Int.emod_lt_of_pos _ hm⟩, py⟩⟩
    omega
  · intro h
    rcases Int.lt_or_le 1 (mxI (cts m (fil m p) T)) with hlt | hle
    · exfalso
      unfold cts at m1
      obtain ⟨b, hb, eb⟩ := List.mem_map.mp m1
      have e3 : mxI (List.map (fun b => (cnt m (fil m p) T b : Int)) (rgI 0 m)) = mxI (cts m (fil m p) T) := rfl
      have two : 2 ≤ (T.filter fun s => decide ((b - s) % m ∈ fil m p)).length := by
        have : (cnt m (fil m p) T b : Int) = mxI (cts m (fil m p) T) := eb.trans e3
        unfold cnt at this
        omega
      obtain ⟨s, t, hs, ht, hst⟩ := of_two (uT.filter _) two
      rw [List.mem_filter, decide_eq_true_eq, mem_fil] at hs ht
      refine h ⟨s, hs.1, t, ht.1, by omega, sh_pos.mpr ⟨(b - s) % m, hs.2.1, hs.2.2, ?_⟩⟩
      have e : (b - s) % m - (t - s) % m = b - t + m * ((t - s) / m - (b - s) / m) := by
        have q1 := Int.emod_add_mul_ediv (b - s) m
        have q2 := Int.emod_add_mul_ediv (t - s) m
        rw [Int.mul_sub]
        omega
      rw [e, Int.add_mul_emod_self_left]
      exact ht.2.2
    · exact hle
end Mz

/-! Plain facts: the search for starts that fill a cycle. -/
namespace Mz
open PySem
def opn (m : Int) (tk : Int → Bool) : List Int := (rgI 0 m).filter fun b => !tk b
def tkn (m : Int) (p tk : Int → Bool) (st : Int) : Int → Bool := fun b => tk b || p ((b - st) % m)
def clash (m : Int) (p tk : Int → Bool) (st : Int) : Bool := (rgI 0 m).any fun b => tk b && p ((b - st) % m)
def gr (m : Int) (p : Int → Bool) : Nat → List Int → (Int → Bool) → List (List Int)
  | 0, _, _ => []
  | n + 1, S, tk => match opn m tk with
    | [] => [isort ltI S]
    | o :: _ => (fil m p).flatMap fun x => if clash m p tk ((o - x) % m) = true then [] else gr m p n (S ++ [(o - x) % m]) (tkn m p tk ((o - x) % m))
theorem any_clash {m : Int} (hm : 0 < m) (p tk : Int → Bool) (st : Int) : ((fil m p).any fun x => tk ((st + x) % m)) = clash m p tk st := by
  rw [Bool.eq_iff_iff]
  unfold clash
  simp only [List.any_eq_true, Bool.and_eq_true]
  constructor
  · rintro ⟨x, hx, h⟩
    rw [mem_fil] at hx
    refine ⟨(st + x) % m, mem_rgI.mpr ⟨Int.emod_nonneg _ (by omega), Int.emod_lt_of_pos _ hm⟩, h, ?_⟩
    rw [Int.add_comm, emod_add_sub hx.1.1 hx.1.2]
    exact hx.2
  · rintro ⟨b, hb, h1, h2⟩
    have hb := mem_rgI.mp hb
    refine ⟨(b - st) % m, mem_fil.mpr ⟨⟨Int.emod_nonneg _ (by omega), Int.emod_lt_of_pos _ hm⟩, h2⟩, ?_⟩
    rw [Int.add_comm, emod_sub_add hb.1 hb.2]
    exact h1
theorem mem_places {m : Int} (hm : 0 < m) (p : Int → Bool) (st b : Int) (h0 : 0 ≤ b) (h1 : b < m) : decide (b ∈ (fil m p).map fun x => (st + x) % m) = p ((b - st) % m) := by
  rw [Bool.eq_iff_iff, decide_eq_true_eq, List.mem_map]
  constructor
  · rintro ⟨x, hx, rfl⟩
    rw [mem_fil] at hx
    rw [Int.add_comm, emod_add_sub hx.1.1 hx.1.2]
    exact hx.2
  · intro h
    refine ⟨(b - st) % m, mem_fil.mpr ⟨⟨Int.emod_nonneg _ (by omega), Int.emod_lt_of_pos _ hm⟩, h⟩, ?_⟩
    rw [Int.add_comm, emod_sub_add h0 h1]
/-- a turn takes as many beats as the set has -/
theorem opn_tkn {m : Int} (hm : 0 < m) {p tk : Int → Bool} {st : Int} (h : clash m p tk st = false) : (opn m (tkn m p tk st)).length + (fil m p).length = (opn m tk).length := by
  have e1 : (fil m p).length = ((rgI 0 m).filter fun b => p ((b - st) % m)).length := (len_mv hm p st).symm
  rw [e1]
  unfold opn tkn
  unfold clash at h
  have h' : ∀ b ∈ rgI 0 m, ¬ (tk b = true ∧ p ((b - st) % m) = true) := fun b hb z => by
    have : ((rgI 0 m).any fun b => tk b && p ((b - st) % m)) = true := List.any_eq_true.mpr ⟨b, hb, by rw [z.1, z.2] <;> rfl⟩
    rw [h] at this
    cases this
  clear h e1
  generalize rgI 0 m = l at h'
  induction l with
  | nil => rfl
  | cons b r ih =>
    have ih := ih fun c hc => h' c (List.mem_cons_of_mem _ hc)
    have hb := h' b List.mem_cons_self
    rw [List.filter_cons, List.filter_cons, List.filter_cons]
    cases e1 : tk b <;> cases e2 : p ((b - st) % m)
    · simp
      simp at ih
      omega
    · simp
      simp at ih
      omega
    · simp
      simp at ih
      omega
    · exact absurd ⟨e1, e2⟩ hb
theorem len_flat {α β : Type} (f : α → List β) (k : Nat) : ∀ l : List α, (∀ x ∈ l, (f x).length ≤ k) → (l.flatMap f).length ≤ l.length * k
  | [], _ => by simp
  | x :: r, h => by
    rw [List.flatMap_cons, List.length_append, List.length_cons, Nat.succ_mul]
    have h1 := h x List.mem_cons_self
    have h2 := len_flat f k r fun y hy => h y (List.mem_cons_of_mem _ hy)
    omega
theorem len_gr {m : Int} (hm : 0 < m) {p : Int → Bool} (hp : 1 ≤ (fil m p).length) : ∀ (k n : Nat) (S : List Int) (tk : Int → Bool), (opn m tk).length ≤ (fil m p).length * k → (gr m p n S tk).length ≤ (fil m p).length ^ k
  | k, 0, S, tk, _ => Nat.zero_le _
  | 0, n + 1, S, tk, h => by
    have e : opn m tk = [] := List.length_eq_zero_iff.mp (by omega)
    unfold gr
    rw [e]
    exact Nat.le_refl _
  | k + 1, n + 1, S, tk, h => by
    unfold gr
    cases e : opn m tk with
    | nil => exact Nat.one_le_pow _ _ hp
    | cons o r =>
      rw [Nat.pow_succ, Nat.mul_comm]
      refine len_flat _ _ _ fun x _ => ?_
      by_cases hc : clash m p tk ((o - x) % m) = true
      · rw [if_pos hc]
        exact Nat.zero_le _
      · rw [if_neg hc]
        have := opn_tkn hm (p := p) (tk := tk) (st := (o - x) % m) (by simpa using hc)
        refine len_gr hm hp k n _ _ ?_
        rw [Nat.mul_succ] at h
        omega
/-! ### what is found -/
/-- starts that fill what is left -/
def Ext (m : Int) (p tk : Int → Bool) : Prop := ∃ T : List Int, (∀ t ∈ T, 0 ≤ t ∧ t < m) ∧ ∀ b, 0 ≤ b → b < m → (T.countP fun t => p ((b - t) % m)) = if tk b = true then 0 else 1
theorem gr_ext {m : Int} (hm : 0 < m) {p : Int → Bool} : ∀ (n : Nat) (S : List Int) (tk : Int → Bool), gr m p n S tk ≠ [] → Ext m p tk
  | 0, _, _, h => absurd rfl h
  | n + 1, S, tk, h => by
    unfold gr at h
    cases e : opn m tk with
    | nil =>
      refine ⟨[], (fun _ z => by cases z), fun b b0 b1 => ?_⟩
      have : tk b = true := by
        cases q : tk b with
        | true => rfl
        | false =>
          have : b ∈ opn m tk := List.mem_filter.mpr ⟨mem_rgI.mpr ⟨b0, b1⟩, by rw [q] <;> rfl⟩
          rw [e] at this
          cases this
      rw [if_pos this] <;> rfl
    | cons o r =>
      rw [e] at h
      obtain ⟨y, hy⟩ := List.exists_mem_of_ne_nil _ h
      obtain ⟨x, hx, hy⟩ := List.mem_flatMap.mp hy
      by_cases hc : clash m p tk ((o - x) % m) = true
      · rw [if_pos hc] at hy
        cases hy
      · rw [if_neg hc] at hy
        obtain ⟨T, h1, h2⟩ := gr_ext hm n _ _ (List.ne_nil_of_mem hy)
        refine ⟨(o - x) % m :: T, fun t ht => ?_, fun b b0 b1 => ?_⟩
        · rcases List.mem_cons.mp ht with rfl | ht
          · exact ⟨Int.emod_nonneg _ (by omega), Int.emod_lt_of_pos _ hm⟩
          · exact h1 t ht
        · rw [List.countP_cons, h2 b b0 b1]
          unfold tkn
          have nc : ¬ (tk b = true ∧ p ((b - (o - x) % m) % m) = true) := fun z => hc (by
            unfold clash
            exact List.any_eq_true.mpr ⟨b, mem_rgI.mpr ⟨b0, b1⟩, by rw [z.1, z.2] <;> rfl⟩)
          cases q1 : tk b <;> cases q2 : p ((b - (o - x) % m) % m)
          · simp
          · simp
          · simp
          · exact absurd ⟨q1, q2⟩ nc
theorem ext_gr {m : Int} (hm : 0 < m) {p : Int → Bool} : ∀ (n : Nat) (S : List Int) (tk : Int → Bool), (opn m tk).length < n → Ext m p tk → gr m p n S tk ≠ []
  | 0, _, _, h, _ => by omega
  | n + 1, S, tk, hn, ⟨T, h1, h2⟩ => by
    unfold gr
    cases e : opn m tk with
    | nil => simp
    | cons o r =>
      have ho : o ∈ opn m tk := by rw [e]; exact List.mem_cons_self
      unfold opn at ho
      rw [List.mem_filter, mem_rgI] at ho
      have to : tk o = false := by simpa using ho.2
      have c1 := h2 o ho.1.1 ho.1.2
      rw [to, if_neg (by decide)] at c1
      have pos : 0 < T.countP fun t => p ((o - t) % m) := by omega
      obtain ⟨t, ht, hp⟩ := List.countP_pos_iff.mp pos
      have tb := h1 t ht
      have x0 := Int.emod_nonneg (o - t) (show m ≠ 0 by omega)
      have x1 := Int.emod_lt_of_pos (o - t) hm
      have est : (o - (o - t) % m) % m = t := by
        have e : o - (o - t) % m = t + m * ((o - t) / m) := by
          have := Int.emod_add_mul_ediv (o - t) m
          omega
        rw [e, Int.add_mul_emod_self_left, Int.emod_eq_of_lt tb.1 tb.2]
      -- the rest without t
      have cnt : ∀ b, T.countP (fun u => p ((b - u) % m)) = (if p ((b - t) % m) = true then 1 else 0) + (T.erase t).countP fun u => p ((b - u) % m) := fun b => by
        rw [(List.perm_cons_erase ht).countP_eq, List.countP_cons]
        omega
      have nc : clash m p tk t = false := by
        cases q : clash m p tk t with
        | false => rfl
        | true =>
          unfold clash at q
          obtain ⟨b, hb, q⟩ := List.any_eq_true.mp q
          rw [Bool.and_eq_true] at q
          have hb := mem_rgI.mp hb
          have := h2 b hb.1 hb.2
          rw [cnt b, q.1, q.2, if_pos rfl, if_pos rfl] at this
          omega
      have nx : Ext m p (tkn m p tk t) := by
        refine ⟨T.erase t, fun u hu => h1 u (List.mem_of_mem_erase hu), fun b b0 b1 => ?_⟩
        have := h2 b b0 b1
        rw [cnt b] at this
        unfold tkn
        cases q1 : tk b <;> cases q2 : p ((b - t) % m) <;> simp only [q1, q2, Bool.false_eq_true, if_false, if_true, Bool.or_self, Bool.or_true, Bool.true_or, Bool.false_or] at this ⊢ <;> omega
      have l := opn_tkn hm nc
      have fp : 1 ≤ (fil m p).length := List.length_pos_of_mem (mem_fil.mpr ⟨⟨x0, x1⟩, hp⟩)
      have hrec := ext_gr hm n (S ++ [t]) (tkn m p tk t) (by omega) nx
      obtain ⟨y, hy⟩ := List.exists_mem_of_ne_nil _ hrec
      refine List.ne_nil_of_mem (a := y) (List.mem_flatMap.mpr ⟨(o - t) % m, mem_fil.mpr ⟨⟨x0, x1⟩, hp⟩, ?_⟩)
      rw [est, if_neg (by rw [nc]; decide)]
      exact hy
/-- the set can fill the cycle -/
def Can (m : Int) (p : Int → Bool) : Prop := ∃ T : List Int, (∀ t ∈ T, 0 ≤ t ∧ t < m) ∧ ∀ b, 0 ≤ b → b < m → (T.countP fun t => p ((b - t) % m)) = 1
theorem can_mv {m : Int} (hm : 0 < m) {p : Int → Bool} (k : Int) (h : Can m p) : Can m (fun b => p ((b - k) % m)) := by
  obtain ⟨T, h1, h2⟩ := h
  refine ⟨T, h1, fun b b0 b1 => ?_⟩
  rw [← h2 ((b - k) % m) (Int.emod_nonneg _ (by omega)) (Int.emod_lt_of_pos _ hm)]
  refine List.countP_congr fun t _ => ?_
  show p (((b - t) % m - k) % m) = true ↔ p (((b - k) % m - t) % m) = true
  rw [sub_mod, sub_mod, show b - t - k = b - k - t by omega]
theorem can_ext {m : Int} (hm : 0 < m) {p : Int → Bool} : Can m p ↔ Ext m p p := by
  constructor
  · rintro ⟨T, h1, h2⟩
    have c1 := h2 0 (by omega) hm
    obtain ⟨t0, ht0, _⟩ := List.countP_pos_iff.mp (show 0 < T.countP fun t => p ((0 - t) % m) by omega)
    -- all starts moved, so that t0 comes to 0
    have key : ∀ b, 0 ≤ b → b < m → (((T.erase t0).map fun t => (t - t0) % m).countP fun t => p ((b - t) % m)) + (if p b = true then 1 else 0) = 1 := fun b b0 b1 => by
      have h := h2 ((b + t0) % m) (Int.emod_nonneg _ (by omega)) (Int.emod_lt_of_pos _ hm)
      rw [(List.perm_cons_erase ht0).countP_eq, List.countP_cons, emod_add_sub b0 b1] at h
      rw [List.countP_map]
      have e : (T.erase t0).countP ((fun t => p ((b - t) % m)) ∘ fun t => (t - t0) % m) = (T.erase t0).countP fun t => p (((b + t0) % m - t) % m) := List.countP_congr fun t _ => by
        show p ((b - (t - t0) % m) % m) = true ↔ p (((b + t0) % m - t) % m) = true
        have e2 : (b - (t - t0) % m) % m = ((b + t0) % m - t) % m := by
          rw [sub_mod]
          have e : b - (t - t0) % m = b + t0 - t + m * ((t - t0) / m) := by
            have := Int.emod_add_mul_ediv (t - t0) m
            omega
          rw [e, Int.add_mul_emod_self_left]
        rw [e2]
      rw [e]
      exact h
    refine ⟨(T.erase t0).map fun t => (t - t0) % m, fun t ht => ?_, fun b b0 b1 => ?_⟩
    · obtain ⟨u, _, rfl⟩ := List.mem_map.mp ht
      exact ⟨Int.emod_nonneg _ (by omega), Int.emod_lt_of_pos _ hm⟩
    · have := key b b0 b1
      cases q : p b
      · rw [q, if_neg (by decide)] at this
        rw [if_neg (by decide)]
        omega
      · rw [q, if_pos rfl] at this
        rw [if_pos rfl]
        omega
  · rintro ⟨T, h1, h2⟩
    refine ⟨0 :: T, fun t ht => ?_, fun b b0 b1 => ?_⟩
    · rcases List.mem_cons.mp ht with rfl | ht
      · exact ⟨by omega, hm⟩
      · exact h1 t ht
    · rw [List.countP_cons, h2 b b0 b1, Int.sub_zero, Int.emod_eq_of_lt b0 b1]
      cases p b <;> rfl
theorem can_dvd {m : Int} (hm : 0 < m) {p : Int → Bool} (h : Can m p) : m % ((fil m p).length : Int) = 0 := by
  obtain ⟨T, h1, h2⟩ := h
  have e1 : ((rgI 0 m).map fun b => T.countP fun t => p ((b - t) % m)).sum = (rgI 0 m).length := sum_one _ _ fun b hb => by
    have hb := mem_rgI.mp hb
    exact h2 b hb.1 hb.2
  rw [swap_count (fun b t => p ((b - t) % m)) T (rgI 0 m)] at e1
  have e2 : ∀ t, (rgI 0 m).countP (fun b => p ((b - t) % m)) = (fil m p).length := fun t => by
    rw [List.countP_eq_length_filter]
    exact len_mv hm p t
  simp only [e2] at e1
  rw [sum_const, len_rgI, Int.sub_zero] at e1
  generalize (fil m p).length = r at e1
  have e3 : m = ((T.length * r : Nat) : Int) := by omega
  rw [e3, Int.natCast_mul]
  exact Int.mul_emod_left ..
theorem gr_mem {m : Int} {p : Int → Bool} : ∀ (n : Nat) (S : List Int) (tk : Int → Bool), S ≠ [] → ∀ t ∈ gr m p n S tk, t ≠ []
  | 0, S, tk, _, t, h => by cases h
  | n + 1, S, tk, hS, t, h => by
    unfold gr at h
    cases e : opn m tk with
    | nil =>
      rw [e] at h
      simp at h
      rw [h]
      intro z
      have := len_isort S
      rw [z] at this
      exact hS (List.length_eq_zero_iff.mp this.symm)
    | cons o r =>
      rw [e] at h
      obtain ⟨x, _, h⟩ := List.mem_flatMap.mp h
      by_cases hc : clash m p tk ((o - x) % m) = true
      · rw [if_pos hc] at h
        cases h
      · rw [if_neg hc] at h
        exact gr_mem n _ _ (by simp) t h
theorem opn_self {m : Int} (hm : 0 < m) (p : Int → Bool) : (opn m p).length + (fil m p).length = m.toNat := by
  unfold opn fil
  have e : ∀ l : List Int, (l.filter fun b => !p b).length + (l.filter p).length = l.length := fun l => by
    induction l with
    | nil => rfl
    | cons x r ih =>
      rw [List.filter_cons, List.filter_cons]
      cases p x <;> simp <;> omega
  rw [e, len_rgI, Int.sub_zero]
theorem can_gr {m : Int} (hm : 0 < m) {p : Int → Bool} {n : Nat} (hn : m.toNat < n) : gr m p n [0] p ≠ [] ↔ Can m p := by
  rw [can_ext hm]
  have := opn_self hm p
  exact ⟨gr_ext hm n [0] p, ext_gr hm n [0] p (by omega)⟩
theorem pow_ok {r k : Nat} (h : r * k ≤ 24) (hr : 1 ≤ r) : r ^ k ≤ SZ := by
  have h1 : r ≤ 24 ∨ k = 0 := by
    rcases Nat.eq_zero_or_pos k with z | z
    · exact .inr z
    · refine .inl (Nat.le_trans ?_ h)
      exact Nat.le_mul_of_pos_right r z
  rcases h1 with h1 | h1
  · have h2 : k ≤ 24 := Nat.le_trans (Nat.le_mul_of_pos_left k hr) h
    have key : ∀ r ∈ List.range 25, ∀ k ∈ List.range 25, r * k ≤ 24 → r ^ k ≤ SZ := by decide +kernel
    exact key r (List.mem_range.mpr (by omega)) k (List.mem_range.mpr (by omega)) h
  · subst h1
    rw [Nat.pow_zero]
    unfold SZ
    omega
/-! ### sorted tuples -/
def dec : D → List Int
  | .tuple l => (allInts l).getD []
  | _ => []
theorem dec_tupI (l : List Int) : dec (tupI l) = l := by
  unfold dec tupI
  simp only [allInts_map, Option.getD_some]
theorem perm_tup {l : List D} {G : List (List Int)} (h : l.Perm (G.map tupI)) : ∃ L : List (List Int), l = L.map tupI ∧ L.Perm G := by
  refine ⟨l.map dec, ?_, ?_⟩
  · rw [List.map_map]
    have : ∀ d ∈ l, (tupI ∘ dec) d = d := fun d hd => by
      obtain ⟨t, _, rfl⟩ := List.mem_map.mp (h.mem_iff.mp hd)
      show tupI (dec (tupI t)) = tupI t
      rw [dec_tupI]
    rw [List.map_congr_left this, List.map_id']
  · have h2 := h.map dec
    rw [List.map_map] at h2
    have : ∀ t ∈ G, (dec ∘ tupI) t = t := fun t _ => dec_tupI t
    rw [List.map_congr_left this, List.map_id'] at h2
    exact h2
theorem o_sortTs {G : List (List Int)} (h : ∀ t ∈ G, t ≠ []) : ∃ L : List (List Int), opBl .sorted [.list (G.map tupI)] = .ok (.list (L.map tupI)) ∧ L.Perm G ∧ (L = [] ↔ G = []) := by
  show ∃ L : List (List Int), opSorted (.list (G.map tupI)) = .ok (.list (L.map tupI)) ∧ L.Perm G ∧ (L = [] ↔ G = [])
  cases G with
  | nil => exact ⟨[], rfl, List.Perm.refl _, Iff.rfl⟩
  | cons x r =>
    obtain ⟨L, e, hp⟩ := perm_tup (List.mergeSort_perm ((x :: r).map tupI) (PySem.W.dataLe false fun d => d))
    refine ⟨L, ?_, hp, ⟨fun z => ?_, fun z => by cases z⟩⟩
    · have hn : allInts ((x :: r).map tupI) = none := rfl
      have hs : srtOk ((x :: r).map tupI) = true := by
        unfold srtOk
        simp only [Bool.and_eq_true, List.all_eq_true, List.mem_map]
        refine ⟨⟨?_, ?_⟩, ?_⟩
        · rintro _ ⟨a, _, rfl⟩ _ ⟨b, _, rfl⟩
          unfold tupI
          rw [PySem.W.alike]
          exact PySem.W.alike_ints a b
        · rintro _ ⟨a, ha, rfl⟩
          cases a with
          | nil => exact absurd rfl (h [] ha)
          | cons _ _ => rfl
        · rintro _ ⟨a, _, rfl⟩
          exact sh_tupI a
      unfold opSorted
      simp only [hn, hs, if_true]
      rw [e]
    · rw [z] at hp
      have := hp.length_eq
      simp at this
end Mz

/-! Plain facts: distances of sets; all sets of a cycle; rows in order. -/
namespace Mz
open PySem
def ds (m : Int) (p q : Int → Bool) : Int := ((fil m fun b => p b && !q b).length : Int) + ((fil m fun b => q b && !p b).length : Int)
theorem not_in {m : Int} (p q : Int → Bool) : (fil m p).filter (fun x => decide (x ∉ fil m q)) = fil m fun b => p b && !q b := by
  refine up_ext ((up_fil m p).filter _) (up_fil _ _) fun x => ?_
  rw [List.mem_filter, decide_eq_true_eq, mem_fil, mem_fil, mem_fil, Bool.and_eq_true]
  constructor
  · rintro ⟨⟨h1, h2⟩, h3⟩
    refine ⟨h1, h2, ?_⟩
    cases e : q x with
    | false => rfl
    | true => exact absurd ⟨h1, e⟩ h3
  · rintro ⟨h1, h2, h3⟩
    refine ⟨⟨h1, h2⟩, fun z => ?_⟩
    rw [z.2] at h3
    cases h3
def dfs (m : Int) (p q : Int → Bool) : Nat := (rgI 0 m).countP fun b => p b != q b
theorem ds_dfs (m : Int) (p q : Int → Bool) : ds m p q = dfs m p q := by
  unfold ds dfs fil
  generalize rgI 0 m = l
  induction l with
  | nil => rfl
  | cons x r ih =>
    rw [List.filter_cons, List.filter_cons, List.countP_cons]
    cases p x <;> cases q x <;> simp at ih ⊢ <;> omega
theorem dfs_comm (m : Int) (p q : Int → Bool) : dfs m p q = dfs m q p := by
  unfold dfs
  refine List.countP_congr fun b _ => ?_
  cases p b <;> cases q b <;> simp
theorem dfs_tri (m : Int) (p q r : Int → Bool) : dfs m p r ≤ dfs m p q + dfs m q r := by
  unfold dfs
  generalize rgI 0 m = l
  induction l with
  | nil => exact Nat.le_refl _
  | cons x t ih =>
    rw [List.countP_cons, List.countP_cons, List.countP_cons]
    cases p x <;> cases q x <;> cases r x <;> simp <;> omega
theorem dfs_zero {m : Int} {p q : Int → Bool} : dfs m p q = 0 ↔ fil m p = fil m q := by
  unfold dfs
  rw [List.countP_eq_zero, fil_iff]
  constructor
  · intro h x h1 h2
    have := h x (mem_rgI.mpr ⟨h1, h2⟩)
    cases e1 : p x <;> cases e2 : q x <;> simp [e1, e2] at this <;> rfl
  · intro h x hx
    have hx := mem_rgI.mp hx
    rw [h x hx.1 hx.2]
    simp
/-! ### all sets -/
def als : Nat → List (List Int)
  | 0 => [[]]
  | k + 1 => als k ++ (als k).map (· ++ [(k : Int)])
theorem rgI_succ (k : Nat) : rgI 0 ((k + 1 : Nat) : Int) = rgI 0 k ++ [(k : Int)] := by
  unfold rgI
  rw [Int.sub_zero, Int.sub_zero, Int.toNat_natCast, Int.toNat_natCast, List.range_succ, List.map_append]
  simp
theorem fil_succ (k : Nat) (p : Int → Bool) : fil ((k + 1 : Nat) : Int) p = fil k p ++ if p k = true then [(k : Int)] else [] := by
  unfold fil
  rw [rgI_succ, List.filter_append]
  cases e : p k <;> simp [e]
theorem mem_als : ∀ {k : Nat} {t : List Int}, t ∈ als k ↔ ∃ p, t = fil k p
  | 0, t => by
    have e : ∀ p : Int → Bool, fil ((0 : Nat) : Int) p = [] := fun p => rfl
    unfold als
    rw [List.mem_singleton]
    exact ⟨fun h => ⟨fun _ => true, by rw [h, e]⟩, fun ⟨p, h⟩ => by rw [h, e]⟩
  | k + 1, t => by
    unfold als
    rw [List.mem_append, List.mem_map]
    constructor
    · rintro (h | ⟨u, hu, rfl⟩)
      · obtain ⟨p, rfl⟩ := mem_als.mp h
        refine ⟨fun b => p b && decide (b < k), ?_⟩
        rw [fil_succ]
        simp
        refine fil_ext fun x h1 h2 => ?_
        simp [h2]
      · obtain ⟨p, rfl⟩ := mem_als.mp hu
        refine ⟨fun b => p b || decide (b = k), ?_⟩
        rw [fil_succ]
        simp
        refine fil_ext fun x h1 h2 => ?_
        have : ¬ x = k := by omega
        simp [this]
    · rintro ⟨p, rfl⟩
      rw [fil_succ]
      cases e : p k
      · left
        simp
        exact mem_als.mpr ⟨p, rfl⟩
      · right
        exact ⟨fil k p, mem_als.mpr ⟨p, rfl⟩, by simp⟩
theorem als_cons : ∀ k : Nat, ∃ r, als k = [] :: r ∧ ∀ t ∈ r, t ≠ []
  | 0 => ⟨[], rfl, fun t h => by cases h⟩
  | k + 1 => by
    obtain ⟨r, e, h⟩ := als_cons k
    refine ⟨r ++ (als k).map (· ++ [(k : Int)]), by rw [als, e] <;> rfl, fun t ht => ?_⟩
    rcases List.mem_append.mp ht with ht | ht
    · exact h t ht
    · obtain ⟨u, _, rfl⟩ := List.mem_map.mp ht
      simp
theorem len_als : ∀ k : Nat, (als k).length = 2 ^ k
  | 0 => rfl
  | k + 1 => by
    unfold als
    rw [List.length_append, List.length_map, len_als k, Nat.pow_succ]
    omega
/-! ### rows in order -/
def row (x : Int × List Int) : D := .tuple [.int x.1, tupI x.2]
theorem lex_lt : ∀ t u : List Int, decide (t < u) = lexI t u
  | [], [] => by simp [lexI]
  | [], _ :: _ => by simp [lexI]
  | _ :: _, [] => by simp [lexI]
  | x :: t, y :: u => by
    unfold lexI
    rw [← lex_lt t u]
    by_cases h : x = y
    · subst h
      simp [List.cons_lt_cons_iff]
    · simp [List.cons_lt_cons_iff, h]
theorem lt_tup (t u : List Int) : PySem.W.dataLt (tupI t) (tupI u) = lexI t u := by
  unfold tupI
  rw [PySem.W.dataLt_tuple, ← lex_lt]
  exact PySem.W.dataLt_ints t u
/-- a row before a row -/
def rlt (a b : Int × List Int) : Bool := if a.1 = b.1 then lexI a.2 b.2 else decide (a.1 < b.1)
theorem lt_row (a b : Int × List Int) : PySem.W.dataLt (row a) (row b) = rlt a b := by
  unfold row rlt
  rw [PySem.W.dataLt_pair (by simp [PySem.W.alike]) (by unfold tupI; rw [PySem.W.alike]; exact PySem.W.alike_ints _ _), eqv_int, eqv_tupI, lt_tup, PySem.W.dataLt_int]
  by_cases h : a.1 = b.1
  · rw [h]
    by_cases h2 : a.2 = b.2
    · rw [h2]
      simp [lex_irr]
    · simp [h2]
  · simp [h]
theorem rlt_irr (a : Int × List Int) : rlt a a = false := by
  unfold rlt
  rw [if_pos rfl, lex_irr]
theorem rlt_tr {a b c : Int × List Int} (h : rlt a b = true) (g : rlt b c = true) : rlt a c = true := by
  unfold rlt at *
  by_cases e1 : a.1 = b.1
  · rw [if_pos e1] at h
    by_cases e2 : b.1 = c.1
    · rw [if_pos e2] at g
      rw [if_pos (e1.trans e2)]
      exact lex_tr h g
    · rw [if_neg e2, decide_eq_true_eq] at g
      rw [if_neg (by omega), decide_eq_true_eq]
      omega
  · rw [if_neg e1, decide_eq_true_eq] at h
    by_cases e2 : b.1 = c.1
    · rw [if_neg (by omega), decide_eq_true_eq]
      omega
    · rw [if_neg e2, decide_eq_true_eq] at g
      rw [if_neg (by omega), decide_eq_true_eq]
      omega
theorem rlt_con {a b : Int × List Int} (h : rlt a b = false) (g : rlt b a = false) : a = b := by
  unfold rlt at *
  by_cases e1 : a.1 = b.1
  · rw [if_pos e1] at h
    rw [if_pos e1.symm] at g
    exact Prod.ext e1 (lex_con h g)
  · rw [if_neg e1, decide_eq_false_iff_not] at h
    rw [if_neg (Ne.symm e1), decide_eq_false_iff_not] at g
    omega
/-- sorted by a strict order that is total -/
theorem ms_ord {α : Type} (lt : α → α → Bool) (irr : ∀ a, lt a a = false) (tr : ∀ a b c, lt a b = true → lt b c = true → lt a c = true) (con : ∀ a b, lt a b = false → lt b a = false → a = b) (l : List α) : (l.mergeSort fun a b => !lt b a).Pairwise fun a b => lt b a = false := by
  have h := List.pairwise_mergeSort (le := fun a b => !lt b a) (fun a b c h1 h2 => by
    simp only [Bool.not_eq_true'] at h1 h2 ⊢
    cases e : lt c a with
    | false => rfl
    | true =>
      cases e2 : lt a b with
      | true => rw [tr c a b e e2] at h2; exact h2
      | false =>
        have := con a b e2 h1
        subst this
        rw [e] at h2
        exact h2) (fun a b => by
    cases e1 : lt b a <;> cases e2 : lt a b <;> simp
    have := tr a b a e2 e1
    rw [irr] at this
    cases this) l
  exact h.imp fun h => by simpa using h
theorem dec_row : ∃ f : D → Int × List Int, ∀ x, f (row x) = x := ⟨fun d => match d with
  | .tuple [.int d, t] => (d, dec t)
  | _ => (0, []), fun x => by
    show (x.1, dec (tupI x.2)) = x
    rw [dec_tupI]⟩
theorem o_sortRs {G : List (Int × List Int)} (hG : G ≠ []) : ∃ L : List (Int × List Int), opBl .sorted [.list (G.map row)] = .ok (.list (L.map row)) ∧ L.Perm G ∧ L.Pairwise fun a b => rlt b a = false := by
  obtain ⟨f, hf⟩ := dec_row
  have e : (G.map row).mergeSort (PySem.W.dataLe false fun d => d) = (G.mergeSort fun a b => !rlt b a).map row := by
    rw [List.map_mergeSort]
    intro a _ b _
    show (!rlt b a) = !PySem.W.dataLt (row b) (row a)
    rw [lt_row]
  refine ⟨G.mergeSort fun a b => !rlt b a, ?_, List.mergeSort_perm _ _, ms_ord rlt rlt_irr (fun _ _ _ => rlt_tr) (fun _ _ => rlt_con) G⟩
  show opSorted (.list (G.map row)) = _
  have hn : allInts (G.map row) = none := by
    cases G with
    | nil => exact absurd rfl hG
    | cons x r => rfl
  have hs : srtOk (G.map row) = true := by
    unfold srtOk
    simp only [Bool.and_eq_true, List.all_eq_true, List.mem_map]
    refine ⟨⟨?_, ?_⟩, ?_⟩
    · rintro _ ⟨a, _, rfl⟩ _ ⟨b, _, rfl⟩
      unfold row tupI
      simp [PySem.W.alike, PySem.W.alikeAll, PySem.W.alike_ints]
    · rintro _ ⟨a, ha, rfl⟩
      rfl
    · rintro _ ⟨a, _, rfl⟩
      unfold row SeqAt.shaped tupI
      simp only [PyData.canLay0, PyData.canLayAll0, PyData.depth, PyData.depthAll, can_ints, depth_ints]
      rfl
  unfold opSorted
  simp only [hn, hs, if_true]
  rw [e]
end Mz

/-! Plain facts: the search on lists of open beats, to be run by the kernel. -/
namespace Mz
open PySem
def sr (m : Int) (P : List Int) : Nat → List Int → Bool
  | 0, _ => false
  | n + 1, O => match O with
    | [] => true
    | o :: _ => P.any fun x => (P.map fun y => ((o - x) % m + y) % m).all (fun b => decide (b ∈ O)) && sr m P n (O.filter fun b => !decide (b ∈ P.map fun y => ((o - x) % m + y) % m))
theorem sr_gr {m : Int} (hm : 0 < m) (p : Int → Bool) : ∀ (n : Nat) (S : List Int) (tk : Int → Bool), sr m (fil m p) n (opn m tk) = true ↔ gr m p n S tk ≠ []
  | 0, S, tk => by simp [sr, gr]
  | n + 1, S, tk => by
    unfold sr gr
    cases e : opn m tk with
    | nil => simp
    | cons o r =>
      simp only
      have mem : ∀ b, 0 ≤ b → b < m → decide (b ∈ o :: r) = !tk b := fun b b0 b1 => by
        rw [← e, Bool.eq_iff_iff, decide_eq_true_eq]
        unfold opn
        rw [List.mem_filter, mem_rgI]
        exact ⟨fun z => z.2, fun z => ⟨⟨b0, b1⟩, z⟩⟩
      rw [List.any_eq_true]
      have each : ∀ x, (((fil m p).map fun y => ((o - x) % m + y) % m).all (fun b => decide (b ∈ o :: r)) && sr m (fil m p) n ((o :: r).filter fun b => !decide (b ∈ (fil m p).map fun y => ((o - x) % m + y) % m))) = true ↔ (if clash m p tk ((o - x) % m) = true then [] else gr m p n (S ++ [(o - x) % m]) (tkn m p tk ((o - x) % m))) ≠ [] := fun x => by
        generalize (o - x) % m = st
        have c1 : ((fil m p).map fun y => (st + y) % m).all (fun b => decide (b ∈ o :: r)) = !clash m p tk st := by
          rw [← any_clash hm, List.all_map, List.not_any_eq_all_not]
          congr 1
          funext y
          exact mem _ (Int.emod_nonneg _ (by omega)) (Int.emod_lt_of_pos _ hm)
        have c2 : ((o :: r).filter fun b => !decide (b ∈ (fil m p).map fun y => (st + y) % m)) = opn m (tkn m p tk st) := by
          rw [← e]
          unfold opn
          rw [List.filter_filter]
          refine List.filter_congr fun b hb => ?_
          have hb := mem_rgI.mp hb
          rw [mem_places hm p st b hb.1 hb.2]
          unfold tkn
          cases tk b <;> cases p ((b - st) % m) <;> rfl
        rw [c1, c2, Bool.and_eq_true, sr_gr hm p n (S ++ [st]) (tkn m p tk st)]
        cases clash m p tk st
        · simp
        · simp
      constructor
      · rintro ⟨x, hx, h⟩
        have h2 := (each x).mp h
        obtain ⟨y, hy⟩ := List.exists_mem_of_ne_nil _ h2
        exact List.ne_nil_of_mem (List.mem_flatMap.mpr ⟨x, hx, hy⟩)
      · intro h
        obtain ⟨y, hy⟩ := List.exists_mem_of_ne_nil _ h
        obtain ⟨x, hx, hy⟩ := List.mem_flatMap.mp hy
        exact ⟨x, hx, (each x).mpr (List.ne_nil_of_mem hy)⟩
/-- does P fill the cycle of m beats -/
def canS (m : Int) (P : List Int) : Bool := sr m P 25 ((rgI 0 m).filter fun b => !decide (b ∈ P))
theorem fil_self {m : Int} {P : List Int} (hu : Up P) (hb : ∀ x ∈ P, 0 ≤ x ∧ x < m) : fil m (fun b => decide (b ∈ P)) = P := by
  refine up_ext (up_fil _ _) hu fun x => ?_
  rw [mem_fil, decide_eq_true_eq]
  exact ⟨fun z => z.2, fun z => ⟨hb x z, z⟩⟩
theorem canS_iff {m : Int} (hm : 0 < m) (hm2 : m ≤ 24) {P : List Int} (hu : Up P) (hb : ∀ x ∈ P, 0 ≤ x ∧ x < m) : canS m P = true ↔ Can m fun b => decide (b ∈ P) := by
  unfold canS
  have e := sr_gr hm (fun b => decide (b ∈ P)) 25 [0] fun b => decide (b ∈ P)
  rw [fil_self hu hb] at e
  rw [← can_gr (n := 25) hm (by omega), ← e]
  rfl
/-- are the ints strictly rising, below m -/
def upB (m : Int) : List Int → Bool
  | [] => true
  | [x] => decide (0 ≤ x ∧ x < m)
  | x :: y :: r => decide (0 ≤ x ∧ x < y) && upB m (y :: r)
theorem upB_ok {m : Int} : ∀ {P : List Int}, upB m P = true → Up P ∧ ∀ x ∈ P, 0 ≤ x ∧ x < m
  | [], _ => ⟨List.Pairwise.nil, fun x h => by cases h⟩
  | [x], h => by
    have h' : 0 ≤ x ∧ x < m := of_decide_eq_true h
    exact ⟨List.pairwise_singleton _ _, fun y hy => by rw [List.mem_singleton.mp hy]; exact h'⟩
  | x :: y :: r, h => by
    unfold upB at h
    rw [Bool.and_eq_true, decide_eq_true_eq] at h
    obtain ⟨h1, h2⟩ := upB_ok h.2
    have hy := h2 y List.mem_cons_self
    refine ⟨List.pairwise_cons.mpr ⟨fun z hz => ?_, h1⟩, fun z hz => ?_⟩
    · rcases List.mem_cons.mp hz with e | e
      · rw [e]; exact h.1.2
      · have := (List.pairwise_cons.mp h1).1 z e
        omega
    · rcases List.mem_cons.mp hz with e | e
      · rw [e]
        exact ⟨h.1.1, by omega⟩
      · exact h2 z e
/-! more steps -/
section
variable {cal : Nat → List D → Out D} {ρ : En}
@[simp] theorem e_neg {a : M} : evE cal ρ (.neg a) = (evE cal ρ a).bnd fun x => match x with
    | .int i => .ok (.int (-i))
    | _ => .bad := by simp only [evE] <;> rfl
@[simp] theorem e_chn {op op' : CmpOp} {a b c : M} : evE cal ρ (.chn op op' a b c) = (evE cal ρ a).bnd fun x => (evE cal ρ b).bnd fun y => (opCmp op x y).bnd fun k =>
      if k = true then (evE cal ρ c).bnd fun z => (opCmp op' y z).bnd fun k' => .ok (.bool k') else .ok (.bool false) := by simp only [evE]
@[simp] theorem e_lrg {a b : M} : evE cal ρ (.lrg a b) = (zOr a (evE cal ρ a)).bnd fun x => (evE cal ρ b).bnd fun y => (opRng x y).bnd fun l => .ok (.list l) := by simp only [evE]
@[simp] theorem e_trg {a b : M} : evE cal ρ (.trg a b) = (zOr a (evE cal ρ a)).bnd fun x => (evE cal ρ b).bnd fun y => (opRng x y).bnd fun l => .ok (.tuple l) := by simp only [evE]
@[simp] theorem e_sset {a : M} : evE cal ρ (.sset a) = (evE cal ρ a).bnd fun x => opSset x := by simp only [evE]
@[simp] theorem e_lset {a : M} : evE cal ρ (.lset a) = (evE cal ρ a).bnd fun x => opLset x := by simp only [evE]
@[simp] theorem e_rev {a : M} : evE cal ρ (.rev a) = (evE cal ρ a).bnd fun x => opRev x := by simp only [evE]
@[simp] theorem e_idx {a b : M} : evE cal ρ (.idx a b) = (evE cal ρ a).bnd fun x => match x with
    | .list xs => (evE cal ρ b).bnd fun y => opIndex xs y
    | _ => .bad := by simp only [evE] <;> rfl
@[simp] theorem e_cnt {a b : M} : evE cal ρ (.cnt a b) = (evE cal ρ a).bnd fun x => match x with
    | .list xs => (evE cal ρ b).bnd fun y => opCnt (.list xs) y
    | _ => .bad := by simp only [evE] <;> rfl
@[simp] theorem e_cix {fs : List Nat} {w as : M} : evE cal ρ (.cix fs w as) = (evE cal ρ w).bnd fun x => match x with
    | .int i => match L2.atI fs i with
      | some j => (evA cal ρ as).bnd fun xs => cal j xs
      | none => .bad
    | _ => .bad := by simp only [evE] <;> rfl
end
end Mz

/-! All fillings; ones; how they move; how many there are. -/
namespace Mz
open PySem
theorem perm_isort (l : List Int) : (isort ltI l).Perm l := by
  have pi : ∀ (x : Int) (l : List Int), (ins ltI x l).Perm (x :: l) := fun x l => by
    induction l with
    | nil => exact List.Perm.refl _
    | cons y r ih =>
      unfold ins
      split
      · exact (ih.cons y).trans (List.Perm.swap x y r)
      · exact List.Perm.refl _
  induction l with
  | nil => exact List.Perm.refl _
  | cons x r ih => exact (pi x _).trans (ih.cons x)
theorem ltI_tr' (a b c : Int) (h : ltI a b = true) (g : ltI b c = true) : ltI a c = true := by
  simp only [ltI, decide_eq_true_eq] at *
  omega
theorem ltI_con' (a b : Int) (h : ltI a b = false) (g : ltI b a = false) : a = b := by
  simp only [ltI, decide_eq_false_iff_not] at *
  omega
theorem isort_perm {a b : List Int} (h : a.Perm b) : isort ltI a = isort ltI b := by
  have hs := ms_ord ltI ltI_irr ltI_tr' ltI_con' a
  have hs' : (a.mergeSort fun a b => !ltI b a).Pairwise (· ≤ ·) := hs.imp fun h => by
    simp only [ltI, decide_eq_false_iff_not] at h
    omega
  rw [← isort_uniq (List.mergeSort_perm a _) hs', isort_uniq ((List.mergeSort_perm a _).trans h) hs']
/-- the starts T fill what is open, and only that -/
def CovT (m : Int) (p tk : Int → Bool) (T : List Int) : Prop := (∀ t ∈ T, 0 ≤ t ∧ t < m) ∧ ∀ b, 0 ≤ b → b < m → (T.countP fun t => p ((b - t) % m)) = if tk b = true then 0 else 1
theorem back {m o t : Int} (hm : 0 < m) (h0 : 0 ≤ t) (h1 : t < m) : (o - (o - t) % m) % m = t := by
  have e : o - (o - t) % m = t + m * ((o - t) / m) := by
    have := Int.emod_add_mul_ediv (o - t) m
    omega
  rw [e, Int.add_mul_emod_self_left, Int.emod_eq_of_lt h0 h1]
theorem back2 {m o x : Int} (hm : 0 < m) (h0 : 0 ≤ x) (h1 : x < m) : (o - (o - x) % m) % m = x := back hm h0 h1
theorem cov_cons {m : Int} (hm : 0 < m) {p tk : Int → Bool} {st : Int} (s0 : 0 ≤ st) (s1 : st < m) {T : List Int} (nc : clash m p tk st = false) : CovT m p tk (st :: T) ↔ CovT m p (tkn m p tk st) T := by
  have ncb : ∀ b, 0 ≤ b → b < m → ¬ (tk b = true ∧ p ((b - st) % m) = true) := fun b b0 b1 z => by
    have : clash m p tk st = true := by
      unfold clash
      exact List.any_eq_true.mpr ⟨b, mem_rgI.mpr ⟨b0, b1⟩, by rw [z.1, z.2] <;> rfl⟩
    rw [nc] at this
    cases this
  unfold CovT tkn
  refine and_congr ⟨fun h t ht => h t (List.mem_cons_of_mem _ ht), fun h t ht => ?_⟩ (forall_congr' fun b => forall_congr' fun b0 => forall_congr' fun b1 => ?_)
  · rcases List.mem_cons.mp ht with rfl | ht
    · exact ⟨s0, s1⟩
    · exact h t ht
  · have := ncb b b0 b1
    rw [List.countP_cons]
    cases q1 : tk b with
    | false => cases q2 : p ((b - st) % m) <;> simp only [Bool.false_eq_true, if_false, if_true, Bool.or_self, Bool.or_true, Bool.true_or, Bool.false_or] <;> omega
    | true =>
      cases q2 : p ((b - st) % m) with
      | false => simp only [Bool.false_eq_true, if_false, if_true, Bool.or_self, Bool.or_true, Bool.true_or, Bool.false_or] <;> omega
      | true => exact absurd ⟨q1, q2⟩ this
theorem cov_perm {m : Int} {p tk : Int → Bool} {T U : List Int} (h : T.Perm U) (c : CovT m p tk T) : CovT m p tk U :=
  ⟨fun t ht => c.1 t (h.mem_iff.mpr ht), fun b b0 b1 => by rw [← h.countP_eq]; exact c.2 b b0 b1⟩
theorem mem_gr {m : Int} (hm : 0 < m) {p : Int → Bool} (hp : fil m p ≠ []) : ∀ (n : Nat) (S : List Int) (tk : Int → Bool), (opn m tk).length < n → ∀ y, y ∈ gr m p n S tk ↔ ∃ T, CovT m p tk T ∧ y = isort ltI (S ++ T)
  | 0, _, _, h, _ => by omega
  | n + 1, S, tk, hn, y => by
    unfold gr
    cases e : opn m tk with
    | nil =>
      have full : ∀ b, 0 ≤ b → b < m → tk b = true := fun b b0 b1 => by
        cases q : tk b with
        | true => rfl
        | false =>
          have : b ∈ opn m tk := List.mem_filter.mpr ⟨mem_rgI.mpr ⟨b0, b1⟩, by rw [q] <;> rfl⟩
          rw [e] at this
          cases this
      constructor
      · intro h
        rw [List.mem_singleton] at h
        refine ⟨[], ⟨fun _ z => (by cases z), fun b b0 b1 => ?_⟩, by rw [List.append_nil]; exact h⟩
        rw [if_pos (full b b0 b1)] <;> rfl
      · rintro ⟨T, ⟨h1, h2⟩, rfl⟩
        cases T with
        | nil => rw [List.append_nil]; exact List.mem_singleton.mpr rfl
        | cons t r =>
          obtain ⟨x, hx⟩ := List.exists_mem_of_ne_nil _ hp
          obtain ⟨hx, px⟩ := mem_fil.mp hx
          have ht := h1 t List.mem_cons_self
          have b0 := Int.emod_nonneg (x + t) (show m ≠ 0 by omega)
          have b1 := Int.emod_lt_of_pos (x + t) hm
          have := h2 ((x + t) % m) b0 b1
          rw [if_pos (full _ b0 b1), List.countP_cons, sub_mod, show x + t - t = x by omega, Int.emod_eq_of_lt hx.1 hx.2, px, if_pos rfl] at this
          omega
    | cons o r =>
      have ho : o ∈ opn m tk := by rw [e]; exact List.mem_cons_self
      unfold opn at ho
      rw [List.mem_filter, mem_rgI] at ho
      have to : tk o = false := by simpa using ho.2
      have fp : 1 ≤ (fil m p).length := List.length_pos_iff.mpr hp
      have rec1 : ∀ st, 0 ≤ st → st < m → clash m p tk st = false → (y ∈ gr m p n (S ++ [st]) (tkn m p tk st) ↔ ∃ T, CovT m p tk (st :: T) ∧ y = isort ltI (S ++ st :: T)) := fun st s0 s1 nc => by
        have l := opn_tkn hm nc
        rw [mem_gr hm hp n _ _ (by omega) y]
        refine exists_congr fun T => ?_
        rw [cov_cons hm s0 s1 nc, List.append_assoc]
        rfl
      show y ∈ (fil m p).flatMap (fun x => if clash m p tk ((o - x) % m) = true then [] else gr m p n (S ++ [(o - x) % m]) (tkn m p tk ((o - x) % m))) ↔ _
      rw [List.mem_flatMap]
      constructor
      · rintro ⟨x, hx, hy⟩
        by_cases hc : clash m p tk ((o - x) % m) = true
        · rw [if_pos hc] at hy
          cases hy
        · rw [if_neg hc] at hy
          obtain ⟨T, h1, h2⟩ := (rec1 _ (Int.emod_nonneg _ (by omega)) (Int.emod_lt_of_pos _ hm) (by simpa using hc)).mp hy
          exact ⟨_, h1, h2⟩
      · rintro ⟨T, c, hy⟩
        have c1 := c.2 o ho.1.1 ho.1.2
        rw [to, if_neg (by decide)] at c1
        have pos : 0 < T.countP fun t => p ((o - t) % m) := by omega
        obtain ⟨t, ht, hpt⟩ := List.countP_pos_iff.mp pos
        have tb := c.1 t ht
        have x0 := Int.emod_nonneg (o - t) (show m ≠ 0 by omega)
        have x1 := Int.emod_lt_of_pos (o - t) hm
        have est := back (o := o) hm tb.1 tb.2
        have pT := List.perm_cons_erase ht
        have c' := cov_perm pT c
        have nc : clash m p tk t = false := by
          cases q : clash m p tk t with
          | false => rfl
          | true =>
            unfold clash at q
            obtain ⟨b, hb, q⟩ := List.any_eq_true.mp q
            rw [Bool.and_eq_true] at q
            have hb := mem_rgI.mp hb
            have := c'.2 b hb.1 hb.2
            rw [List.countP_cons, q.1, q.2, if_pos rfl, if_pos rfl] at this
            omega
        refine ⟨(o - t) % m, mem_fil.mpr ⟨⟨x0, x1⟩, hpt⟩, ?_⟩
        rw [est, if_neg (by rw [nc]; decide), rec1 t tb.1 tb.2 nc]
        exact ⟨T.erase t, c', by rw [hy]; exact isort_perm (pT.append_left S)⟩
theorem nodup_gr {m : Int} (hm : 0 < m) {p : Int → Bool} (hp : fil m p ≠ []) : ∀ (n : Nat) (S : List Int) (tk : Int → Bool), (opn m tk).length < n → (gr m p n S tk).Nodup
  | 0, _, _, h => by omega
  | n + 1, S, tk, hn => by
    unfold gr
    cases e : opn m tk with
    | nil => simp
    | cons o r =>
      have ho : o ∈ opn m tk := by rw [e]; exact List.mem_cons_self
      unfold opn at ho
      rw [List.mem_filter, mem_rgI] at ho
      have to : tk o = false := by simpa using ho.2
      have fp : 1 ≤ (fil m p).length := List.length_pos_iff.mpr hp
      have rec1 : ∀ st y, 0 ≤ st → st < m → clash m p tk st = false → y ∈ gr m p n (S ++ [st]) (tkn m p tk st) → ∃ T, CovT m p tk (st :: T) ∧ y.Perm (S ++ st :: T) := fun st y s0 s1 nc hy => by
        have l := opn_tkn hm nc
        obtain ⟨T, c, h2⟩ := (mem_gr hm hp n _ _ (by omega) y).mp hy
        refine ⟨T, (cov_cons hm s0 s1 nc).mpr c, ?_⟩
        rw [h2, List.append_assoc]
        exact perm_isort _
      show ((fil m p).flatMap (fun x => if clash m p tk ((o - x) % m) = true then [] else gr m p n (S ++ [(o - x) % m]) (tkn m p tk ((o - x) % m)))).Nodup
      unfold List.Nodup
      rw [List.pairwise_flatMap]
      refine ⟨fun x hx => ?_, (up_fil m p).imp_of_mem fun {x x'} hx hx' hlt => ?_⟩
      · by_cases hc : clash m p tk ((o - x) % m) = true
        · rw [if_pos hc]
          exact List.nodup_nil
        · rw [if_neg hc]
          have l := opn_tkn hm (p := p) (tk := tk) (st := (o - x) % m) (by simpa using hc)
          exact nodup_gr hm hp n _ _ (by omega)
      · rintro y hy _ hy' rfl
        obtain ⟨hx, px⟩ := mem_fil.mp hx
        obtain ⟨hx', px'⟩ := mem_fil.mp hx'
        by_cases hc : clash m p tk ((o - x) % m) = true
        · rw [if_pos hc] at hy
          cases hy
        rw [if_neg hc] at hy
        by_cases hc' : clash m p tk ((o - x') % m) = true
        · rw [if_pos hc'] at hy'
          cases hy'
        rw [if_neg hc'] at hy'
        have b1 := back (o := o) hm hx.1 hx.2
        have b2 := back (o := o) hm hx'.1 hx'.2
        obtain ⟨T, c1, p1⟩ := rec1 _ _ (Int.emod_nonneg _ (by omega)) (Int.emod_lt_of_pos _ hm) (by simpa using hc) hy
        obtain ⟨T', c2, p2⟩ := rec1 _ _ (Int.emod_nonneg _ (by omega)) (Int.emod_lt_of_pos _ hm) (by simpa using hc') hy'
        have pp := (List.perm_append_left_iff S).mp (p1.symm.trans p2)
        have m1 : (o - x) % m ∈ (o - x') % m :: T' := pp.mem_iff.mp List.mem_cons_self
        have ne : (o - x) % m ≠ (o - x') % m := fun z => by
          rw [z, b2] at b1
          omega
        have m2 : (o - x) % m ∈ T' := by
          rcases List.mem_cons.mp m1 with z | z
          · exact absurd z ne
          · exact z
        have h := c2.2 o ho.1.1 ho.1.2
        rw [to, if_neg (by decide), List.countP_cons, b2, px', if_pos rfl] at h
        have pos : 0 < T'.countP fun t => p ((o - t) % m) := List.countP_pos_iff.mpr ⟨_, m2, by rw [b1]; exact px⟩
        omega
end Mz

namespace Mz
open PySem
def Ones (m : Int) (p q : Int → Bool) : Prop := ∀ b, 0 ≤ b → b < m → (fil m q).countP (fun t => p ((b - t) % m)) = 1
theorem ones_cts {m : Int} (hm : 0 < m) {p q : Int → Bool} : cts m (fil m p) (fil m q) = (rgI 0 m).map (fun _ => 1) ↔ Ones m p q := by
  unfold cts Ones
  rw [List.map_inj_left]
  have e : ∀ b, cnt m (fil m p) (fil m q) b = (fil m q).countP (fun t => p ((b - t) % m)) := fun b => by
    unfold cnt
    rw [← List.countP_eq_length_filter]
    refine List.countP_congr fun t _ => ?_
    rw [decide_eq_true_eq, mem_fil]
    exact ⟨fun z => z.2, fun z => ⟨⟨Int.emod_nonneg _ (by omega), Int.emod_lt_of_pos _ hm⟩, z⟩⟩
  constructor
  · intro h b b0 b1
    have := h b (mem_rgI.mpr ⟨b0, b1⟩)
    rw [e] at this
    omega
  · intro h b hb
    have hb := mem_rgI.mp hb
    rw [e, h b hb.1 hb.2] <;> rfl
theorem ones_comm {m : Int} (hm : 0 < m) {p q : Int → Bool} (h : Ones m p q) : Ones m q p := by
  rw [← ones_cts hm] at h ⊢
  rw [cts_comm (up_fil m p) (fun x hx => (mem_fil.mp hx).1) (up_fil m q) (fun x hx => (mem_fil.mp hx).1)]
  exact h
theorem ones_shift {m : Int} (hm : 0 < m) {p q : Int → Bool} (k : Int) (h : Ones m p q) : Ones m (fun b => p ((b - k) % m)) q := fun b b0 b1 => by
  rw [← h ((b - k) % m) (Int.emod_nonneg _ (by omega)) (Int.emod_lt_of_pos _ hm)]
  refine List.countP_congr fun t _ => ?_
  show p (((b - t) % m - k) % m) = true ↔ p (((b - k) % m - t) % m) = true
  rw [sub_mod, sub_mod, show b - t - k = b - k - t by omega]
theorem ones_shift2 {m : Int} (hm : 0 < m) {p q : Int → Bool} (k : Int) (h : Ones m p q) : Ones m p (fun b => q ((b - k) % m)) :=
  ones_comm hm (ones_shift hm k (ones_comm hm h))
theorem fil_eq {m : Int} {p q : Int → Bool} (h : fil m p = fil m q) {x : Int} (h0 : 0 ≤ x) (h1 : x < m) : p x = q x := by
  rw [Bool.eq_iff_iff]
  constructor
  · intro z
    have : x ∈ fil m p := mem_fil.mpr ⟨⟨h0, h1⟩, z⟩
    rw [h] at this
    exact (mem_fil.mp this).2
  · intro z
    have : x ∈ fil m q := mem_fil.mpr ⟨⟨h0, h1⟩, z⟩
    rw [← h] at this
    exact (mem_fil.mp this).2
theorem ones_congr {m : Int} (hm : 0 < m) {p p' q q' : Int → Bool} (e : fil m p = fil m p') (e2 : fil m q = fil m q') (h : Ones m p q) : Ones m p' q' := fun b b0 b1 => by
  rw [← e2, ← h b b0 b1]
  refine List.countP_congr fun t _ => ?_
  rw [fil_eq e (Int.emod_nonneg _ (by omega)) (Int.emod_lt_of_pos _ hm)]
theorem ones_len {m : Int} (hm : 0 < m) {p q : Int → Bool} (h : Ones m p q) : ((fil m p).length : Int) * (fil m q).length = m := by
  rw [← ones_cts hm] at h
  rw [← sum_cts hm (up_fil m p) (fun x hx => (mem_fil.mp hx).1), h]
  have : ∀ l : List Int, (l.map fun _ => (1 : Int)).sum = l.length := fun l => by
    induction l with
    | nil => rfl
    | cons x r ih =>
      rw [List.map_cons, List.sum_cons, ih, List.length_cons]
      omega
  rw [this, len_rgI]
  omega
theorem ones_nd {m : Int} (hm : 0 < m) {p : Int → Bool} (hp : fil m p ≠ []) {T : List Int} (h1 : ∀ t ∈ T, 0 ≤ t ∧ t < m) (h2 : ∀ b, 0 ≤ b → b < m → (T.countP fun t => p ((b - t) % m)) = 1) : T.Nodup := by
  rw [List.nodup_iff_count]
  intro a
  obtain ⟨x, hx⟩ := List.exists_mem_of_ne_nil _ hp
  obtain ⟨hx, px⟩ := mem_fil.mp hx
  have b0 := Int.emod_nonneg (x + a) (show m ≠ 0 by omega)
  have b1 := Int.emod_lt_of_pos (x + a) hm
  rw [← h2 _ b0 b1]
  unfold List.count
  refine List.countP_mono_left fun t _ z => ?_
  have z := eq_of_beq z
  subst z
  rw [sub_mod, show x + t - t = x by omega, Int.emod_eq_of_lt hx.1 hx.2, px]
theorem inL_fil {m : Int} {l : List Int} (hn : l.Nodup) (hb : ∀ x ∈ l, 0 ≤ x ∧ x < m) : isort ltI l = fil m fun b => decide (b ∈ l) := by
  refine up_ext (up_isort l hn) (up_fil _ _) fun x => ?_
  rw [mem_isort, mem_fil, decide_eq_true_eq]
  exact ⟨fun h => ⟨hb x h, h⟩, fun h => h.2⟩
theorem mem_gr0 {m : Int} (hm : 0 < m) {p : Int → Bool} (hp : fil m p ≠ []) {n : Nat} (hn : m.toNat < n) (y : List Int) : y ∈ gr m p n [0] p ↔ ∃ q, y = fil m q ∧ q 0 = true ∧ Ones m p q := by
  have lo := opn_self hm p
  rw [mem_gr hm hp n [0] p (by omega) y]
  constructor
  · rintro ⟨T, c, rfl⟩
    have r : ∀ t ∈ 0 :: T, 0 ≤ t ∧ t < m := fun t ht => by
      rcases List.mem_cons.mp ht with rfl | ht
      · exact ⟨by omega, hm⟩
      · exact c.1 t ht
    have k : ∀ b, 0 ≤ b → b < m → ((0 :: T).countP fun t => p ((b - t) % m)) = 1 := fun b b0 b1 => by
      rw [List.countP_cons, c.2 b b0 b1, Int.sub_zero, Int.emod_eq_of_lt b0 b1]
      cases p b <;> rfl
    have nd := ones_nd hm hp r k
    have e := inL_fil nd r
    refine ⟨fun b => decide (b ∈ 0 :: T), e, by simp, fun b b0 b1 => ?_⟩
    rw [← e, (perm_isort _).countP_eq]
    exact k b b0 b1
  · rintro ⟨q, rfl, q0, o⟩
    have m0 : 0 ∈ fil m q := mem_fil.mpr ⟨⟨by omega, hm⟩, q0⟩
    have pe := List.perm_cons_erase m0
    refine ⟨(fil m q).erase 0, ⟨fun t ht => (mem_fil.mp (List.mem_of_mem_erase ht)).1, fun b b0 b1 => ?_⟩, ?_⟩
    · have := o b b0 b1
      rw [pe.countP_eq, List.countP_cons, Int.sub_zero, Int.emod_eq_of_lt b0 b1] at this
      cases z : p b <;> simp only [z, Bool.false_eq_true, if_false, if_true] at this ⊢ <;> omega
    · exact isort_uniq pe ((up_fil m q).imp fun h => by omega)
/-! ### sorted lists of sets -/
theorem o_sortT2 {G : List (List Int)} (h : ∀ t ∈ G, t ≠ []) (hd : G.Nodup) : ∃ L : List (List Int), opBl .sorted [.list (G.map tupI)] = .ok (.list (L.map tupI)) ∧ L.Perm G ∧ L.Pairwise fun a b => lexI a b = true := by
  have pw : (G.mergeSort fun a b => !lexI b a).Pairwise fun a b => lexI a b = true := by
    have h1 := ms_ord lexI lexI_irr lexI_tr lexI_con G
    have h2 : (G.mergeSort fun a b => !lexI b a).Nodup := (List.mergeSort_perm G _).nodup_iff.mpr hd
    refine (h1.and h2).imp fun {a b} h => ?_
    cases q : lexI a b with
    | true => rfl
    | false => exact absurd (lexI_con _ _ q h.1) h.2
  refine ⟨_, ?_, List.mergeSort_perm _ _, pw⟩
  have e : (G.map tupI).mergeSort (PySem.W.dataLe false fun d => d) = (G.mergeSort fun a b => !lexI b a).map tupI := by
    rw [List.map_mergeSort]
    intro a _ b _
    show (!lexI b a) = !PySem.W.dataLt (tupI b) (tupI a)
    rw [lt_tup]
  show opSorted (.list (G.map tupI)) = _
  cases G with
  | nil =>
    rw [List.mergeSort_nil]
    rfl
  | cons x r =>
    have hn : allInts ((x :: r).map tupI) = none := rfl
    have hs : srtOk ((x :: r).map tupI) = true := by
      unfold srtOk
      simp only [Bool.and_eq_true, List.all_eq_true, List.mem_map]
      refine ⟨⟨?_, ?_⟩, ?_⟩
      · rintro _ ⟨a, _, rfl⟩ _ ⟨b, _, rfl⟩
        unfold tupI
        rw [PySem.W.alike]
        exact PySem.W.alike_ints a b
      · rintro _ ⟨a, ha, rfl⟩
        cases a with
        | nil => exact absurd rfl (h [] ha)
        | cons _ _ => rfl
      · rintro _ ⟨a, _, rfl⟩
        exact sh_tupI a
    unfold opSorted
    simp only [hn, hs, if_true]
    rw [e]
/-- L are the canons -/
structure IsC (m : Int) (p : Int → Bool) (L : List (List Int)) : Prop where
  srt : L.Pairwise fun a b => lexI a b = true
  mem : ∀ y, y ∈ L ↔ ∃ q, y = fil m q ∧ q 0 = true ∧ Ones m p q
theorem IsC.uniq {m : Int} {p : Int → Bool} {L L' : List (List Int)} (h : IsC m p L) (h' : IsC m p L') : L = L' :=
  pw_uniq lexI_irr lexI_tr h.srt h'.srt fun y => (h.mem y).trans (h'.mem y).symm
/-- G are the good sets -/
structure IsG (m : Int) (p : Int → Bool) (G : List (List Int)) : Prop where
  srt : G.Pairwise fun a b => lexI a b = true
  mem : ∀ y, y ∈ G ↔ ∃ q, y = fil m q ∧ Ones m p q
theorem pw_nd {L : List (List Int)} (h : L.Pairwise fun a b => lexI a b = true) : L.Nodup := h.imp fun {a b} h z => by
  subst z
  rw [lexI_irr] at h
  cases h
theorem IsG.cnt {m : Int} (hm : 0 < m) {p : Int → Bool} {L G : List (List Int)} (hL : IsC m p L) (hG : IsG m p G) : G.length = L.length * (fil m p).length := by
  have shift_shift : ∀ (q : Int → Bool) (a : Int), (fil m fun b => decide ((b + a) % m ∈ fil m fun b => decide ((b - a) % m ∈ fil m q))) = fil m q := fun q a => fil_ext fun x x0 x1 => by
    have r0 := Int.emod_nonneg (x + a) (show m ≠ 0 by omega)
    have r1 := Int.emod_lt_of_pos (x + a) hm
    rw [Bool.eq_iff_iff, decide_eq_true_eq, mem_fil, decide_eq_true_eq, emod_add_sub x0 x1, mem_fil]
    exact ⟨fun z => z.2.2, fun z => ⟨⟨r0, r1⟩, ⟨x0, x1⟩, z⟩⟩
  have each : ∀ a, 0 ≤ a → a < m → G.countP (fun S => decide (a ∈ S)) = L.length := fun a a0 a1 => by
    rw [List.countP_eq_length_filter, ← List.length_map (as := L) (f := fun S => fil m fun b => decide ((b - a) % m ∈ S))]
    refine List.Perm.length_eq ((List.perm_ext_iff_of_nodup ((pw_nd hG.srt).filter _) ?_).mpr fun y => ?_)
    · unfold List.Nodup
      rw [List.pairwise_map]
      refine (pw_nd hL.srt).imp_of_mem fun {y z} hy hz hne e => hne ?_
      obtain ⟨q, rfl, _⟩ := (hL.mem y).mp hy
      obtain ⟨q', rfl, _⟩ := (hL.mem z).mp hz
      rw [← shift_shift q a, ← shift_shift q' a, e]
    · rw [List.mem_filter, List.mem_map, decide_eq_true_eq, hG.mem]
      constructor
      · rintro ⟨⟨q, rfl, o⟩, ha⟩
        have qa := (mem_fil.mp ha).2
        refine ⟨fil m fun b => q ((b - (0 - a)) % m), (hL.mem _).mpr ⟨_, rfl, ?_, ones_shift2 hm (0 - a) o⟩, fil_ext fun x x0 x1 => ?_⟩
        · show q ((0 - (0 - a)) % m) = true
          rw [show (0 : Int) - (0 - a) = a by omega, Int.emod_eq_of_lt a0 a1]
          exact qa
        · have r0 := Int.emod_nonneg (x - a) (show m ≠ 0 by omega)
          have r1 := Int.emod_lt_of_pos (x - a) hm
          have e1 : ((x - a) % m - (0 - a)) % m = x := by
            rw [show (x - a) % m - (0 - a) = (x - a) % m + a by omega, emod_sub_add x0 x1]
          rw [Bool.eq_iff_iff, decide_eq_true_eq, mem_fil, e1]
          exact ⟨fun z => z.2, fun z => ⟨⟨r0, r1⟩, z⟩⟩
      · rintro ⟨z, hz, rfl⟩
        obtain ⟨q, rfl, q0, o⟩ := (hL.mem z).mp hz
        have e : (fil m fun b => decide ((b - a) % m ∈ fil m q)) = fil m fun b => q ((b - a) % m) := fil_ext fun x x0 x1 => by
          rw [Bool.eq_iff_iff, decide_eq_true_eq, mem_fil]
          exact ⟨fun z => z.2, fun z => ⟨⟨Int.emod_nonneg _ (by omega), Int.emod_lt_of_pos _ hm⟩, z⟩⟩
        refine ⟨⟨_, e, ones_shift2 hm a o⟩, ?_⟩
        rw [e, mem_fil]
        refine ⟨⟨a0, a1⟩, ?_⟩
        rw [show a - a = 0 by omega, Int.zero_emod]
        exact q0
  have e1 : (G.map fun S => (fil m p).countP fun r => decide ((0 - r) % m ∈ S)).sum = G.length := sum_one _ _ fun S hS => by
    obtain ⟨q, rfl, o⟩ := (hG.mem S).mp hS
    rw [← ones_comm hm o 0 (by omega) hm]
    refine List.countP_congr fun r _ => ?_
    rw [decide_eq_true_eq, mem_fil]
    exact ⟨fun z => z.2, fun z => ⟨⟨Int.emod_nonneg _ (by omega), Int.emod_lt_of_pos _ hm⟩, z⟩⟩
  rw [swap_count (fun S r => decide ((0 - r) % m ∈ S)) (fil m p) G] at e1
  have e2 : ((fil m p).map fun r => G.countP fun S => decide ((0 - r) % m ∈ S)) = (fil m p).map fun _ => L.length := List.map_congr_left fun r _ => each _ (Int.emod_nonneg _ (by omega)) (Int.emod_lt_of_pos _ hm)
  rw [e2, sum_const, Nat.mul_comm] at e1
  exact e1.symm
end Mz

/-! Statements cut in two; what laws share. -/
namespace Mz
open PySem
def takeM : Nat → M → M
  | 0, _ => .nil
  | n + 1, .sq a b => .sq a (takeM n b)
  | _ + 1, m => m
def dropM : Nat → M → M
  | 0, m => m
  | n + 1, .sq _ b => dropM n b
  | _ + 1, _ => .nil
theorem t_split {cal : Nat → List D → Out D} : ∀ (n : Nat) (b : M) (ρ ρ' : En), evS cal (takeM n b) ρ = .nx ρ' → evS cal b ρ = evS cal (dropM n b) ρ'
  | 0, b, ρ, ρ', h => by
    simp only [takeM, evS, SO.nx.injEq] at h
    rw [h] <;> rfl
  | n + 1, b, ρ, ρ', h => by
    cases b with
    | sq a b =>
      simp only [takeM, evS, dropM] at h ⊢
      cases e : evS cal a ρ with
      | nx ρ2 =>
        rw [e] at h
        exact t_split n b ρ2 ρ' h
      | ret d => rw [e] at h; cases h
      | exc c ρ2 => rw [e] at h; cases h
      | bad => rw [e] at h; cases h
    | _ => exact Eq.trans h rfl
/-- the body of a loop that comes first -/
def frBody : M → M
  | .sq (.fr _ _ b _) _ => b
  | m => m
def nxOf (l : List Nat) : SO → Option En
  | .nx ρ => some (fgt ρ l)
  | _ => none
theorem nxOf_ok {l : List Nat} {s : SO} {ρ : En} (h : nxOf l s = some ρ) : ∃ ρ', s = .nx ρ' ∧ fgt ρ' l = ρ := by
  cases s with
  | nx ρ2 =>
    injection h with h
    exact ⟨ρ2, rfl, h⟩
  | _ => cases h
def slotAt (i : Nat) : SO → Slot
  | .nx ρ => ρ.getD i .un
  | _ => .un
theorem runUp {fs : List Fn} {a b f : Nat} {xs : List D} {o : Out D} (h : run fs a f xs = o) (ho : o ≠ .bad) (hb : a ≤ b) : run fs b f xs = o := by
  obtain ⟨k, rfl⟩ : ∃ k, b = a + k := ⟨b - a, by omega⟩
  rw [le_runs fs a k f xs (by rw [h]; exact ho), h]
theorem w_aso {cal : Nat → List D → Out D} {ρ : En} {i : Nat} {e : M} {ds : List D} (he : evE cal ρ e = .ok (.list ds)) (hf : isFresh e = true := by rfl) (hm : ment ρ e = false := by rfl) : evS cal (.aso i e) ρ = .nx (ρ.set i (.own ds)) := by
  simp only [evS, hf, hm, he, wth_ok, Bool.not_false, Bool.and_self, if_true]
theorem w_app {cal : Nat → List D → Out D} {ρ : En} {i : Nat} {e : M} {ds : List D} {d : D} (hr : ρ[i]? = some (.own ds)) (he : evE cal ρ e = .ok d) (hm : ment ρ e = false := by rfl) (hl : ds.length < SZ := by decide) : evS cal (.app i e) ρ = .nx (ρ.set i (.own (ds ++ [d]))) := by
  simp only [evS, evX, hm, he, hr, isOwn, wth_ok, if_true, Bool.false_eq_true, if_false, hl]
theorem w_parT {cal : Nat → List D → Out D} {ρ : En} {i j : Nat} {a b : M} {x y : D} (hm : (ment ρ a || ment ρ b) = true) (ha : evE cal (thaw ρ) a = .ok x) (hb : evE cal (thaw ρ) b = .ok y) : evS cal (.par i j a b) ρ = .nx (((thaw ρ).set i (.py x)).set j (.py y)) := by
  simp only [evS, hm, ha, hb, wth_ok, if_true]
theorem w_bin {cal : Nat → List D → Out D} {ρ : En} {o : Operator} {a b : M} {x y z : D} (ha : evE cal ρ a = .ok x) (hb : evE cal ρ b = .ok y) (h : opBin o x y = .ok z) : evE cal ρ (.bin o a b) = .ok z := by
  rw [e_bin, ha, bnd_ok, hb, bnd_ok, h]
theorem w_cmp {cal : Nat → List D → Out D} {ρ : En} {o : CmpOp} {a b : M} {x y : D} {k : Bool} (ha : evE cal ρ a = .ok x) (hb : evE cal ρ b = .ok y) (h : opCmp o x y = .ok k) : evE cal ρ (.cmp o a b) = .ok (.bool k) := by
  rw [e_cmp, ha, bnd_ok, hb, bnd_ok, h] <;> rfl
theorem c_neSame (b : Bool) : opCmp .NotEq (.bool b) (.bool b) = .ok false := by cases b <;> rfl
end Mz

/-! Texts of sets; sets with 0 in order. -/
namespace Mz
open PySem PySem.Spec PyProof.Rows L2
theorem e_gs {cal : Nat → List D → Out D} {ρ : En} {x s : Str} : evE cal ρ (.gs x s) = .ok (.str s) := by simp only [evE]
theorem e_joi {cal : Nat → List D → Out D} {ρ : En} {a b : M} : evE cal ρ (.joi a b) = (evE cal ρ a).bnd fun x => match x with
    | .str s => (evE cal ρ b).bnd fun y => opJoin (.str s) y
    | _ => .bad := by simp only [evE] <;> rfl
theorem w_joi {cal : Nat → List D → Out D} {ρ : En} {a b : M} {s : Str} {y z : D} (ha : evE cal ρ a = .ok (.str s)) (hb : evE cal ρ b = .ok y) (h : opJoin (.str s) y = .ok z) : evE cal ρ (.joi a b) = .ok z := by
  rw [e_joi, ha, bnd_ok]
  show Out.bnd (evE cal ρ b) (fun y => opJoin (.str s) y) = _
  rw [hb, bnd_ok, h]
/-! ### texts -/
def sg (p : Int → Bool) (b : Int) : Nat := if p b = true then 120 else 46
/-- the text of a set -/
def txt (m : Int) (p : Int → Bool) : Str := ⟨((rgI 0 m).map (sg p)).toArray⟩
theorem txt_len (m : Int) (p : Int → Bool) : (txt m p).length = m.toNat := by
  show ((rgI 0 m).map (sg p)).toArray.size = _
  rw [List.size_toArray, List.length_map, len_rgI, Int.sub_zero]
theorem sg_inj {p q : Int → Bool} {a b : Int} (h : sg p a = sg q b) : p a = q b := by
  unfold sg at h
  cases e1 : p a <;> cases e2 : q b <;> simp [e1, e2] at h ⊢
theorem joinL_nil : ∀ l : List Nat, TL.joinL [] (l.map fun c => [c]) = l
  | [] => rfl
  | [c] => rfl
  | c :: d :: r => by
    show [c] ++ ([] ++ TL.joinL [] ((d :: r).map fun c => [c])) = _
    rw [joinL_nil (d :: r)] <;> rfl
theorem allStrs_map : ∀ l : List Str, allStrs (l.map .str) = some l
  | [] => rfl
  | s :: r => by
    rw [List.map_cons]
    unfold allStrs
    rw [allStrs_map r]
theorem join_signs (l : List Nat) : Txt.join (Str.ofString "") (l.map fun c => (⟨#[c]⟩ : Str)) = ⟨l.toArray⟩ := by
  rw [TL.join_eq]
  refine TL.ext_tl ?_
  rw [TL.tl_join]
  have e1 : TL.tl (Str.ofString "") = [] := rfl
  have e2 : (l.map fun c => (⟨#[c]⟩ : Str)).map TL.tl = l.map fun c => [c] := by rw [List.map_map] <;> rfl
  rw [e1, e2, joinL_nil] <;> rfl
theorem sum_ones (l : List Nat) : ((l.map fun c => (⟨#[c]⟩ : Str)).map fun s : Str => s.length).sum = l.length := by
  induction l with
  | nil => rfl
  | cons c r ih =>
    rw [List.map_cons, List.map_cons, List.sum_cons, ih, List.length_cons]
    show 1 + r.length = _
    omega
theorem o_join {l : List Nat} (h : l.length ≤ 1000) : opJoin (.str (Str.ofString "")) (.list (l.map fun c => .str ⟨#[c]⟩)) = .ok (.str ⟨l.toArray⟩) := by
  have e : (l.map fun c => PyData.str ⟨#[c]⟩) = (l.map fun c => (⟨#[c]⟩ : Str)).map .str := by rw [List.map_map] <;> rfl
  rw [e]
  show (match allStrs ((l.map fun c => (⟨#[c]⟩ : Str)).map .str) with
    | some ys => if (ys.map fun s : Str => s.length).sum + ys.length * (Str.ofString "").length ≤ 16777216 then Out.ok (PyData.str (Txt.join (Str.ofString "") ys)) else .bad
    | none => .bad) = _
  rw [allStrs_map]
  have z : (Str.ofString "").length = 0 := rfl
  simp only [sum_ones, z, Nat.mul_zero, Nat.add_zero]
  rw [if_pos (by omega), join_signs]
theorem sIx_in {n d : Nat} {k : Int} (h0 : 0 ≤ k) (h1 : k.toNat ≤ n) : HT.sIx n d (some k) = k.toNat := by
  show (if k < 0 then (k + (n : Int)).toNat else min k.toNat n) = _
  rw [if_neg (by omega)]
  omega
/-- the text, cut and turned -/
theorem o_cut_hi {l : List Nat} {k : Int} (h0 : 0 ≤ k) (h1 : k.toNat ≤ l.length) (h2 : l.length ≤ 1000) : opSlc (.str ⟨l.toArray⟩) (some k) none = .ok (.str ⟨(l.drop k.toNat).toArray⟩) := by
  have hl : (⟨l.toArray⟩ : Str).length = l.length := by
    show l.toArray.size = _
    rw [List.size_toArray]
  show (if (⟨l.toArray⟩ : Str).length ≤ SZ then Out.ok (PyData.str (cutS ⟨l.toArray⟩ (some k) none)) else .bad) = _
  rw [if_pos (by rw [hl]; unfold SZ; omega)]
  unfold cutS
  rw [hl, sIx_in h0 h1, HT.sIx_none]
  show Out.ok (PyData.str ⟨((l.drop k.toNat).take (l.length - k.toNat)).toArray⟩) = _
  rw [List.take_of_length_le (by rw [List.length_drop]; omega)]
theorem o_cut_lo {l : List Nat} {k : Int} (h0 : 0 ≤ k) (h1 : k.toNat ≤ l.length) (h2 : l.length ≤ 1000) : opSlc (.str ⟨l.toArray⟩) none (some k) = .ok (.str ⟨(l.take k.toNat).toArray⟩) := by
  have hl : (⟨l.toArray⟩ : Str).length = l.length := by
    show l.toArray.size = _
    rw [List.size_toArray]
  show (if (⟨l.toArray⟩ : Str).length ≤ SZ then Out.ok (PyData.str (cutS ⟨l.toArray⟩ none (some k))) else .bad) = _
  rw [if_pos (by rw [hl]; unfold SZ; omega)]
  unfold cutS
  rw [hl, sIx_in h0 h1, HT.sIx_none, List.drop_zero, Nat.sub_zero]
theorem o_addS {l r : List Nat} (h : l.length + r.length ≤ 1000) : opBin .Add (.str ⟨l.toArray⟩) (.str ⟨r.toArray⟩) = .ok (.str ⟨(l ++ r).toArray⟩) := by
  show (if (⟨l.toArray⟩ : Str).length + (⟨r.toArray⟩ : Str).length ≤ SZ then Out.ok (PyData.str ((⟨l.toArray⟩ : Str) ++ ⟨r.toArray⟩)) else .bad) = _
  have e : (⟨l.toArray⟩ : Str) ++ ⟨r.toArray⟩ = ⟨(l ++ r).toArray⟩ := by
    refine TL.ext_tl ?_
    rw [TL.tl_append] <;> rfl
  have h1 : (⟨l.toArray⟩ : Str).length = l.length := by
    show l.toArray.size = _
    rw [List.size_toArray]
  have h2 : (⟨r.toArray⟩ : Str).length = r.length := by
    show r.toArray.size = _
    rw [List.size_toArray]
  rw [e, h1, h2, if_pos (by unfold SZ; omega)]
theorem c_neS (s t : Str) (hs : PyData.strOk s = true) (ht : PyData.strOk t = true) : opCmp .NotEq (.str s) (.str t) = .ok (decide (s ≠ t)) := by
  show (if SeqAt.shaped (.str s) && SeqAt.shaped (.str t) then Out.ok (!PyData.eqv (.str s) (.str t)) else .bad) = _
  have h1 : (SeqAt.shaped (.str s) && SeqAt.shaped (.str t)) = true := by
    unfold SeqAt.shaped
    simp [PyData.canLay0, PyData.depth, hs, ht]
  rw [if_pos h1]
  by_cases e : s = t <;> simp [PyData.eqv, e]
theorem ok_sg (m : Int) (p : Int → Bool) : PyData.strOk ⟨((rgI 0 m).map (sg p)).toArray⟩ = true := by
  unfold PyData.strOk
  rw [Array.all_eq_true_iff_forall_mem]
  intro c hc
  have hc : c ∈ (rgI 0 m).map (sg p) := by simpa using hc
  obtain ⟨b, _, rfl⟩ := List.mem_map.mp hc
  unfold sg
  split <;> decide
/-- a set's text turned is the text of the set moved -/
theorem turn_txt {m k : Int} (hm : 0 < m) (h0 : 0 ≤ k) (h1 : k ≤ m) (p : Int → Bool) : ((rgI 0 m).map (sg p)).drop k.toNat ++ ((rgI 0 m).map (sg p)).take k.toNat = (rgI 0 m).map (sg fun b => p ((b + k) % m)) := by
  have l : (rgI 0 m).length = m.toNat := by rw [len_rgI, Int.sub_zero]
  refine List.ext_getElem (by
    rw [List.length_append, List.length_drop, List.length_take, List.length_map, List.length_map, l]
    omega) fun i h2 h3 => ?_
  rw [List.length_map, l] at h3
  rw [List.getElem_append, List.getElem_map, get_rgI]
  split
  · rename_i h4
    rw [List.length_drop, List.length_map, l] at h4
    rw [List.getElem_drop, List.getElem_map, get_rgI]
    have e : (0 + (i : Int) + k) % m = 0 + ((k.toNat + i : Nat) : Int) := by
      rw [Int.emod_eq_of_lt (by omega) (by omega)]
      omega
    show sg p _ = sg p ((0 + (i : Int) + k) % m)
    rw [e]
  · rename_i h4
    rw [List.length_drop, List.length_map, l] at h4
    rw [List.getElem_take, List.getElem_map, get_rgI]
    have e : (0 + (i : Int) + k) % m = 0 + ((i - ((rgI 0 m).map (sg p) |>.drop k.toNat).length : Nat) : Int) := by
      rw [List.length_drop, List.length_map, l]
      have : 0 + (i : Int) + k = (0 + (i : Int) + k - m) + m := by omega
      rw [this, Int.add_emod_right, Int.emod_eq_of_lt (by omega) (by omega)]
      omega
    show sg p _ = sg p ((0 + (i : Int) + k) % m)
    rw [e]
theorem txt_turn {m k : Int} (hm : 0 < m) (p : Int → Bool) : ((rgI 0 m).map (sg fun b => p ((b + k) % m)) = (rgI 0 m).map (sg p)) ↔ mv m p k = fil m p := by
  rw [List.map_inj_left, sb_iff hm]
  constructor
  · intro h x
    have r0 := Int.emod_nonneg (x - k) (show m ≠ 0 by omega)
    have r1 := Int.emod_lt_of_pos (x - k) hm
    have := sg_inj (h ((x - k) % m) (mem_rgI.mpr ⟨r0, r1⟩))
    have e : ((x - k) % m + k) % m = x % m := by
      rw [Int.emod_add_emod, show x - k + k = x by omega]
    rw [e] at this
    exact this.symm
  · intro h b hb
    have hb := mem_rgI.mp hb
    have := h (b + k)
    rw [show b + k - k = b by omega, Int.emod_eq_of_lt hb.1 hb.2] at this
    unfold sg
    rw [this]
end Mz

/-! Any text, sign by sign. -/
namespace Mz
open PySem PySem.Spec PyProof.Rows L2
/-- the text of m signs -/
def tx (m : Int) (g : Int → Nat) : Str := ⟨((rgI 0 m).map g).toArray⟩
theorem tx_len (m : Int) (g : Int → Nat) : (tx m g).length = m.toNat := by
  show ((rgI 0 m).map g).toArray.size = _
  rw [List.size_toArray, List.length_map, len_rgI, Int.sub_zero]
/-- every text is of that kind -/
theorem tx_all (l : List Nat) : (⟨l.toArray⟩ : Str) = tx (l.length : Int) fun b => l.getD b.toNat 0 := by
  unfold tx
  congr 2
  refine List.ext_getElem (by rw [List.length_map, len_rgI]; omega) fun i h1 h2 => ?_
  rw [List.getElem_map, get_rgI, List.getD_eq_getElem?_getD]
  have : (0 + (i : Int)).toNat = i := by omega
  rw [this, List.getElem?_eq_getElem h1] <;> rfl
theorem chars_tx (m : Int) (g : Int → Nat) : charsD (tx m g) = (rgI 0 m).map fun b => .str ⟨#[g b]⟩ := by
  unfold charsD tx
  show (((rgI 0 m).map g).toArray.toList).map _ = _
  rw [List.map_map] <;> rfl
theorem enm_any (h : Int → D) : ∀ (n : Nat) (a : Nat), enmD a ((List.range' a n).map fun (i : Nat) => h i) = (List.range' a n).map fun (i : Nat) => PyData.tuple [.int (i : Int), h i]
  | 0, a => rfl
  | n + 1, a => by
    rw [List.range'_succ, List.map_cons, List.map_cons]
    unfold enmD
    rw [enm_any h n (a + 1)]
theorem enm_tx (m : Int) (g : Int → Nat) : enmD 0 (charsD (tx m g)) = (rgI 0 m).map fun b => .tuple [.int b, .str ⟨#[g b]⟩] := by
  rw [chars_tx, rgI0, List.map_map, List.map_map]
  exact enm_any (fun b => .str ⟨#[g b]⟩) m.toNat 0
theorem sign_ne {c d : Nat} : (⟨#[c]⟩ : Str) = ⟨#[d]⟩ ↔ c = d := by
  constructor
  · intro h
    have := congrArg (fun s : Str => s.cps.toList) h
    simpa using this
  · rintro rfl
    rfl
theorem shStr {s : Str} (h : PyData.strOk s = true) : SeqAt.shaped (.str s) = true := by
  unfold SeqAt.shaped
  simp [PyData.canLay0, PyData.depth, h]
theorem c_eqS (s t : Str) (hs : PyData.strOk s = true) (ht : PyData.strOk t = true) : opCmp .Eq (.str s) (.str t) = .ok (decide (s = t)) := by
  show (if SeqAt.shaped (.str s) && SeqAt.shaped (.str t) then Out.ok (PyData.eqv (.str s) (.str t)) else .bad) = _
  rw [shStr hs, shStr ht]
  by_cases e : s = t <;> simp [PyData.eqv, e]
theorem ok_one {c : Nat} (h : c < 0x110000) : PyData.strOk ⟨#[c]⟩ = true := by
  unfold PyData.strOk
  simp [h]
theorem ok_tx {m : Int} {g : Int → Nat} (h : ∀ b, g b < 0x110000) : PyData.strOk (tx m g) = true := by
  unfold PyData.strOk
  rw [Array.all_eq_true_iff_forall_mem]
  intro c hc
  have hc : c ∈ (rgI 0 m).map g := by simpa [tx] using hc
  obtain ⟨b, _, rfl⟩ := List.mem_map.mp hc
  exact decide_eq_true (h b)
theorem o_lenS {m : Int} (h : m ≤ 1000) (h0 : 0 ≤ m) (g : Int → Nat) : opBl .len [.str (tx m g)] = .ok (.int m) := by
  show (if (tx m g).length ≤ SZ then Out.ok (PyData.int ((tx m g).length : Nat)) else .bad) = _
  rw [tx_len, if_pos (by unfold SZ; omega)]
  congr 2
  omega
theorem c_inS (c : Nat) (m : Int) (g : Int → Nat) : opCmp .In (.str ⟨#[c]⟩) (.str (tx m g)) = .ok (decide (c ∈ (rgI 0 m).map g)) := by
  show Out.ok (!(Builtin.Str.occurrences (tx m g) ⟨#[c]⟩ 0 (tx m g).length 1).isEmpty) = _
  rw [PySem.StrLaws.found_one]
  congr 1
/-- the signs of a format -/
def okSign (c : Nat) : Bool := decide (c = 120) || decide (c = 46)
theorem c_in2 (c : Nat) : opCmp .In (.str ⟨#[c]⟩) (.tuple [.str ⟨#[120]⟩, .str ⟨#[46]⟩]) = .ok (okSign c) := by
  show (if true && true then Out.ok (memD (.str ⟨#[c]⟩) [.str ⟨#[120]⟩, .str ⟨#[46]⟩]) else .bad) = _
  unfold memD okSign
  by_cases h1 : c = 120
  · subst h1
    simp [PyData.eqv]
  · by_cases h2 : c = 46
    · subst h2
      simp [PyData.eqv]
    · have e1 : ¬ (120 : Nat) = c := fun z => h1 z.symm
      have e2 : ¬ (46 : Nat) = c := fun z => h2 z.symm
      simp [PyData.eqv, h1, h2, e1, e2]
/-- is it the format of a set -/
def fmtB (m : Int) (g : Int → Nat) : Bool := decide (1 ≤ m ∧ m ≤ 24) && decide (120 ∈ (rgI 0 m).map g) && (rgI 0 m).all fun b => okSign (g b)
def pg (g : Int → Nat) : Int → Bool := fun b => decide (g b = 120)
theorem fmt_txt {m : Int} {g : Int → Nat} (h : fmtB m g = true) : txt m (pg g) = tx m g := by
  unfold fmtB at h
  rw [Bool.and_eq_true, List.all_eq_true] at h
  unfold txt tx
  congr 2
  refine List.map_congr_left fun b hb => ?_
  have := h.2 b hb
  unfold okSign at this
  rw [Bool.or_eq_true, decide_eq_true_eq, decide_eq_true_eq] at this
  unfold sg pg
  rcases this with e | e <;> simp [e]
theorem sg_lt (p : Int → Bool) (b : Int) : sg p b < 0x110000 := by
  unfold sg
  split <;> decide
theorem pg_sg (p : Int → Bool) : pg (sg p) = p := by
  funext b
  unfold pg sg
  cases p b <;> rfl
theorem fmt_sg {m : Int} {p : Int → Bool} (h1 : 1 ≤ m) (h2 : m ≤ 24) (hp : fil m p ≠ []) : fmtB m (sg p) = true := by
  unfold fmtB
  rw [Bool.and_eq_true, Bool.and_eq_true, decide_eq_true_eq, decide_eq_true_eq, List.all_eq_true]
  refine ⟨⟨⟨h1, h2⟩, ?_⟩, fun b _ => ?_⟩
  · obtain ⟨x, hx⟩ := List.exists_mem_of_ne_nil _ hp
    obtain ⟨hx, px⟩ := mem_fil.mp hx
    exact List.mem_map.mpr ⟨x, mem_rgI.mpr hx, by unfold sg; rw [if_pos px]⟩
  · unfold sg okSign
    cases p b <;> rfl
end Mz

/-! Plain facts: tiles, tilings, the first tiling; rows of tuples in order. -/
namespace Mz
open PySem
/-! ### rows of tuples -/
abbrev Nm := List Int
def rowD (r : List Nm) : D := .tuple (r.map tupI)
def lexT : List Nm → List Nm → Bool
  | _, [] => false
  | [], _ :: _ => true
  | x :: xs, y :: ys => if x = y then lexT xs ys else lexI x y
theorem lexT_irr : ∀ a : List Nm, lexT a a = false
  | [] => rfl
  | x :: r => by rw [lexT, if_pos rfl, lexT_irr r]
theorem lexT_tr : ∀ {a b c : List Nm}, lexT a b = true → lexT b c = true → lexT a c = true
  | [], [], _, h, _ => by cases h
  | _ :: _, [], _, h, _ => by cases h
  | _, _ :: _, [], _, h => by cases h
  | [], y :: b, z :: c, _, _ => rfl
  | x :: a, y :: b, z :: c, h, g => by
    rw [lexT] at h g ⊢
    by_cases e1 : x = y
    · subst e1
      rw [if_pos rfl] at h
      by_cases e2 : x = z
      · subst e2
        rw [if_pos rfl] at g ⊢
        exact lexT_tr h g
      · rw [if_neg e2] at g ⊢
        exact g
    · rw [if_neg e1] at h
      by_cases e2 : y = z
      · subst e2
        rw [if_neg e1]
        exact h
      · rw [if_neg e2] at g
        have q := lex_tr h g
        by_cases e3 : x = z
        · subst e3
          rw [lex_irr] at q
          cases q
        · rw [if_neg e3]
          exact q
theorem lexT_con : ∀ {a b : List Nm}, lexT a b = false → lexT b a = false → a = b
  | [], [], _, _ => rfl
  | [], _ :: _, h, _ => by cases h
  | _ :: _, [], _, h => by cases h
  | x :: a, y :: b, h, g => by
    rw [lexT] at h g
    by_cases e : x = y
    · subst e
      rw [if_pos rfl] at h g
      rw [lexT_con h g]
    · rw [if_neg e] at h
      rw [if_neg (Ne.symm e)] at g
      exact absurd (lex_con h g) e
theorem alike_tup (a b : Nm) : PySem.W.alike (tupI a) (tupI b) = true := by
  unfold tupI
  rw [PySem.W.alike]
  exact PySem.W.alike_ints a b
theorem alike_tups : ∀ a b : List Nm, PySem.W.alikeAll (a.map tupI) (b.map tupI) = true
  | [], [] => rfl
  | [], _ :: _ => rfl
  | _ :: _, [] => rfl
  | x :: a, y :: b => by
    rw [List.map_cons, List.map_cons, PySem.W.alikeAll, alike_tup, alike_tups a b] <;> rfl
theorem alike_rowD (a b : List Nm) : PySem.W.alike (rowD a) (rowD b) = true := by
  unfold rowD
  rw [PySem.W.alike]
  exact alike_tups a b
theorem lt_tupsA : ∀ a b : List Nm, PyProof.Rows.lexLt PyProof.Rows.itemOrd (PySem.W.keyToksAll (a.map tupI)) (PySem.W.keyToksAll (b.map tupI)) = lexT a b
  | [], [] => rfl
  | [], y :: b => by
    rw [List.map_nil, List.map_cons, PySem.W.toks_all_cons]
    rfl
  | x :: a, [] => by
    rw [List.map_nil, List.map_cons, PySem.W.toks_all_cons]
    rfl
  | x :: a, y :: b => by
    rw [List.map_cons, List.map_cons, PySem.W.dataLt_cons (alike_tup x y), eqv_tupI, lt_tupsA a b, lexT, lt_tup]
    by_cases h : x = y <;> simp [h]
theorem lt_rowD (a b : List Nm) : PySem.W.dataLt (rowD a) (rowD b) = lexT a b := by
  unfold rowD
  rw [PySem.W.dataLt_tuple]
  exact lt_tupsA a b
@[simp] theorem sh_rowD (r : List Nm) : SeqAt.shaped (rowD r) = true := by
  unfold SeqAt.shaped rowD
  simp only [PyData.canLay0, PyData.depth, can_tups, Bool.true_and, decide_eq_true_eq]
  exact decide_eq_true (Nat.le_trans (Nat.add_le_add_right (depth_tups r) 1) (show 1 + 1 ≤ 64 by decide))
@[simp] theorem eqv_rowD (a b : List Nm) : PyData.eqv (rowD a) (rowD b) = decide (a = b) := by
  unfold rowD
  rw [PyData.eqv, eqv_tupsA]
theorem can_rows : ∀ l : List (List Nm), PyData.canLayAll0 (l.map rowD) = true
  | [] => rfl
  | x :: r => by
    show (PyData.canLay0 (rowD x) && PyData.canLayAll0 (r.map rowD)) = true
    rw [can_rows r]
    unfold rowD
    rw [PyData.canLay0, can_tups] <;> rfl
theorem depth_rows : ∀ l : List (List Nm), PyData.depthAll (l.map rowD) ≤ 2
  | [] => by decide
  | x :: r => by
    show max (PyData.depth (rowD x)) (PyData.depthAll (r.map rowD)) ≤ 2
    unfold rowD
    rw [PyData.depth]
    have h1 := depth_tups x
    have := depth_rows r
    unfold rowD at this
    omega
@[simp] theorem sh_rowDs (l : List (List Nm)) : SeqAt.shaped (.list (l.map rowD)) = true := by
  unfold SeqAt.shaped
  simp only [PyData.canLay0, PyData.depth, can_rows, Bool.true_and, decide_eq_true_eq]
  exact decide_eq_true (Nat.le_trans (Nat.add_le_add_right (depth_rows l) 1) (show 2 + 1 ≤ 64 by decide))
theorem mem_rowD (x : List Nm) (l : List (List Nm)) : memD (rowD x) (l.map rowD) = decide (x ∈ l) := by
  rw [Bool.eq_iff_iff, mem_enc rowD eqv_rowD]
  simp
theorem c_inRow (x : List Nm) (l : List (List Nm)) : opCmp .In (rowD x) (.list (l.map rowD)) = .ok (decide (x ∈ l)) := by
  show (if SeqAt.shaped (rowD x) && SeqAt.shaped (.list (l.map rowD)) then Out.ok (memD (rowD x) (l.map rowD)) else .bad) = _
  rw [sh_rowD, sh_rowDs, mem_rowD] <;> rfl
/-- sorted rows -/
theorem o_sortRow {G : List (List Nm)} (h : ∀ t ∈ G, t ≠ []) : ∃ L : List (List Nm), opBl .sorted [.list (G.map rowD)] = .ok (.list (L.map rowD)) ∧ L.Perm G ∧ L.Pairwise fun a b => lexT b a = false := by
  refine ⟨G.mergeSort fun a b => !lexT b a, ?_, List.mergeSort_perm _ _, ms_ord lexT lexT_irr (fun _ _ _ => lexT_tr) (fun _ _ => lexT_con) G⟩
  have e : (G.map rowD).mergeSort (PySem.W.dataLe false fun d => d) = (G.mergeSort fun a b => !lexT b a).map rowD := by
    rw [List.map_mergeSort]
    intro a _ b _
    show (!lexT b a) = !PySem.W.dataLt (rowD b) (rowD a)
    rw [lt_rowD]
  show opSorted (.list (G.map rowD)) = _
  cases G with
  | nil =>
    rw [List.mergeSort_nil]
    rfl
  | cons x r =>
    have hn : allInts ((x :: r).map rowD) = none := rfl
    have hs : srtOk ((x :: r).map rowD) = true := by
      unfold srtOk
      simp only [Bool.and_eq_true, List.all_eq_true, List.mem_map]
      refine ⟨⟨?_, ?_⟩, ?_⟩
      · rintro _ ⟨a, _, rfl⟩ _ ⟨b, _, rfl⟩
        exact alike_rowD a b
      · rintro _ ⟨a, ha, rfl⟩
        cases a with
        | nil => exact absurd rfl (h [] ha)
        | cons _ _ => rfl
      · rintro _ ⟨a, _, rfl⟩
        exact sh_rowD a
    unfold opSorted
    simp only [hn, hs, if_true]
    rw [e]

/-! ### tilings -/
abbrev Tl := Nm × List Int
def encT (t : Tl) : D := .tuple [tupI t.1, tupI t.2]
def okT (left : List Int) (t : Tl) : Bool := match left with
  | [] => false
  | x :: _ => decide (x ∈ t.2) && t.2.all fun b => decide (b ∈ left)
def remT (left : List Int) (t : Tl) : List Int := left.filter fun b => !decide (b ∈ t.2)
def tls (T : List Tl) : Nat → List Int → List (List Nm)
  | 0, _ => []
  | _ + 1, [] => [[]]
  | n + 1, x :: l => (T.filter (okT (x :: l))).flatMap fun t => (tls T n (remT (x :: l) t)).map (t.1 :: ·)
/-- the tiles S hold each beat that is left once -/
def Part (S : List Tl) (left : List Int) : Prop := (S.flatMap (·.2)).Perm left
theorem okT_iff {x : Int} {l : List Int} {t : Tl} : okT (x :: l) t = true ↔ x ∈ t.2 ∧ ∀ b ∈ t.2, b ∈ x :: l := by
  unfold okT
  rw [Bool.and_eq_true, decide_eq_true_eq, List.all_eq_true]
  simp only [decide_eq_true_eq]
/-- what is left, split -/
theorem rem_perm {left : List Int} {t : Tl} (hn : left.Nodup) (tn : t.2.Nodup) (hs : ∀ b ∈ t.2, b ∈ left) : (t.2 ++ remT left t).Perm left := by
  unfold remT
  have h1 : (left.filter fun b => decide (b ∈ t.2)).Perm t.2 := by
    refine (List.perm_ext_iff_of_nodup (hn.filter _) tn).mpr fun b => ?_
    rw [List.mem_filter, decide_eq_true_eq]
    exact ⟨fun h => h.2, fun h => ⟨hs b h, h⟩⟩
  exact (h1.symm.append_right _).trans (List.filter_append_perm _ left)
theorem rem_len {left : List Int} {t : Tl} (hn : left.Nodup) (tn : t.2.Nodup) (hs : ∀ b ∈ t.2, b ∈ left) : t.2.length + (remT left t).length = left.length := by
  have := (rem_perm hn tn hs).length_eq
  rw [List.length_append] at this
  exact this
theorem rem_nd {left : List Int} {t : Tl} (hn : left.Nodup) : (remT left t).Nodup := hn.filter _
theorem tls_sound {T : List Tl} (hT : ∀ t ∈ T, t.2.Nodup) : ∀ (n : Nat) {left : List Int} {r : List Nm}, left.Nodup → r ∈ tls T n left → ∃ S, r = S.map (·.1) ∧ (∀ t ∈ S, t ∈ T) ∧ Part S left
  | 0, _, _, _, h => by cases h
  | n + 1, [], r, _, h => by
    rw [tls, List.mem_singleton] at h
    exact ⟨[], by rw [h] <;> rfl, fun t z => absurd z (by simp), List.Perm.refl _⟩
  | n + 1, x :: l, r, hn, h => by
    rw [tls, List.mem_flatMap] at h
    obtain ⟨t, ht, h⟩ := h
    obtain ⟨h1, h2⟩ := List.mem_filter.mp ht
    obtain ⟨r', hr, rfl⟩ := List.mem_map.mp h
    obtain ⟨S, e1, e2, e3⟩ := tls_sound hT n (rem_nd hn) hr
    rw [okT_iff] at h2
    refine ⟨t :: S, by rw [e1] <;> rfl, fun u hu => ?_, ?_⟩
    · rcases List.mem_cons.mp hu with rfl | hu
      · exact h1
      · exact e2 u hu
    · unfold Part at e3 ⊢
      rw [List.flatMap_cons]
      exact (e3.append_left _).trans (rem_perm hn (hT t h1) h2.2)
theorem part_cons {S : List Tl} {left : List Int} {t : Tl} (hn : left.Nodup) (ht : t ∈ S) (h : Part S left) : (∀ b ∈ t.2, b ∈ left) ∧ t.2.Nodup ∧ Part (S.erase t) (remT left t) := by
  have p1 : (t :: S.erase t).Perm S := (List.perm_cons_erase ht).symm
  have p2 : ((t :: S.erase t).flatMap (·.2)).Perm left := (p1.flatMap_right _).trans h
  rw [List.flatMap_cons] at p2
  have nd := p2.nodup_iff.mpr hn
  have nd1 := (List.nodup_append.mp nd).1
  have hs : ∀ b ∈ t.2, b ∈ left := fun b hb => p2.mem_iff.mp (List.mem_append_left _ hb)
  refine ⟨hs, nd1, ?_⟩
  exact (List.perm_append_left_iff t.2).mp (p2.trans (rem_perm hn nd1 hs).symm)
theorem tls_complete {T : List Tl} : ∀ (n : Nat) {left : List Int} {S : List Tl}, left.Nodup → left.length < n → (∀ t ∈ S, t ∈ T) → (∀ t ∈ S, t.2 ≠ []) → Part S left → ∃ r ∈ tls T n left, r.Perm (S.map (·.1))
  | 0, _, _, _, h, _, _, _ => by omega
  | n + 1, [], S, _, _, hS, ne, h => by
    refine ⟨[], by rw [tls]; exact List.mem_singleton.mpr rfl, ?_⟩
    cases S with
    | nil => exact List.Perm.refl _
    | cons t r =>
      have q := h.length_eq
      rw [List.flatMap_cons, List.length_append, List.length_nil] at q
      have := List.length_pos_iff.mpr (ne t List.mem_cons_self)
      omega
  | n + 1, x :: l, S, hn, hl, hS, ne, h => by
    have hx : x ∈ S.flatMap (·.2) := h.mem_iff.mpr List.mem_cons_self
    obtain ⟨t, ht, hxt⟩ := List.mem_flatMap.mp hx
    obtain ⟨h1, h2, h3⟩ := part_cons hn ht h
    have hlen := rem_len hn h2 h1
    have hp := List.length_pos_of_mem hxt
    obtain ⟨r, hr, hp2⟩ := tls_complete n (rem_nd (t := t) hn) (by rw [List.length_cons] at hl hlen; omega) (fun u hu => hS u (List.mem_of_mem_erase hu)) (fun u hu => ne u (List.mem_of_mem_erase hu)) h3
    refine ⟨t.1 :: r, ?_, ?_⟩
    · rw [tls, List.mem_flatMap]
      exact ⟨t, List.mem_filter.mpr ⟨hS t ht, okT_iff.mpr ⟨hxt, h1⟩⟩, List.mem_map_of_mem hr⟩
    · have p1 : (t :: S.erase t).Perm S := (List.perm_cons_erase ht).symm
      have p2 := p1.map (·.1)
      rw [List.map_cons] at p2
      exact (hp2.cons t.1).trans p2
theorem part_nd {S : List Tl} {left : List Int} (hn : left.Nodup) (ne : ∀ t ∈ S, t.2 ≠ []) (h : Part S left) : S.Nodup := by
  have nd := h.nodup_iff.mpr hn
  clear h hn
  induction S with
  | nil => exact List.nodup_nil
  | cons t r ih =>
    rw [List.flatMap_cons] at nd
    obtain ⟨h1, h2, h3⟩ := List.nodup_append.mp nd
    refine List.nodup_cons.mpr ⟨fun ht => ?_, ih (fun u hu => ne u (List.mem_cons_of_mem _ hu)) h2⟩
    obtain ⟨b, r', e⟩ := List.exists_cons_of_ne_nil (ne t List.mem_cons_self)
    have hb : b ∈ t.2 := by rw [e]; exact List.mem_cons_self
    exact h3 b hb b (List.mem_flatMap.mpr ⟨t, ht, hb⟩) rfl
/-- tiles in order -/
structure TOk (T : List Tl) : Prop where
  up : T.Pairwise fun a b => lexI a.1 b.1 = true
  nd : ∀ t ∈ T, t.2.Nodup
  ne : ∀ t ∈ T, t.2 ≠ []
theorem TOk.nodup {T : List Tl} (h : TOk T) : T.Nodup := h.up.imp fun {a b} h z => by
  rw [z, lex_irr] at h
  cases h
theorem TOk.sub {T S : List Tl} (h : TOk T) (s : S.Sublist T) : TOk S := ⟨h.up.sublist s, fun t ht => h.nd t (s.subset ht), fun t ht => h.ne t (s.subset ht)⟩
/-- some tiles, in order -/
theorem part_sub {T S : List Tl} {left : List Int} (h : TOk T) (hn : left.Nodup) (hS : ∀ t ∈ S, t ∈ T) (p : Part S left) : ∃ S', S'.Sublist T ∧ S'.Perm S ∧ Part S' left := by
  have sd := part_nd hn (fun t ht => h.ne t (hS t ht)) p
  have e : (T.filter fun t => decide (t ∈ S)).Perm S := by
    refine (List.perm_ext_iff_of_nodup (h.nodup.filter _) sd).mpr fun t => ?_
    rw [List.mem_filter, decide_eq_true_eq]
    exact ⟨fun q => q.2, fun q => ⟨hS t q, q⟩⟩
  exact ⟨_, List.filter_sublist, e, (e.flatMap_right _).trans p⟩
theorem tls_ex {T : List Tl} (h : TOk T) {n : Nat} {left : List Int} (hn : left.Nodup) (hl : left.length < n) : tls T n left ≠ [] ↔ ∃ S, S.Sublist T ∧ Part S left := by
  constructor
  · intro q
    obtain ⟨r, r', e⟩ := List.exists_cons_of_ne_nil q
    obtain ⟨S, _, h2, h3⟩ := tls_sound (T := T) h.nd n hn (show r ∈ tls T n left by rw [e]; exact List.mem_cons_self)
    obtain ⟨S', h4, _, h5⟩ := part_sub h hn h2 h3
    exact ⟨S', h4, h5⟩
  · rintro ⟨S, h1, h2⟩ z
    obtain ⟨r, hr, _⟩ := tls_complete n hn hl (fun t ht => h1.subset ht) (fun t ht => h.ne t (h1.subset ht)) h2
    rw [z] at hr
    cases hr
/-- the rows: all tilings, each in order -/
theorem up_names {T S : List Tl} (h : TOk T) (s : S.Sublist T) : (S.map (·.1)).Pairwise fun a b => lexI a b = true := by
  rw [List.pairwise_map]
  exact h.up.sublist s
theorem name_inj {T : List Tl} (h : TOk T) {a b : Tl} (ha : a ∈ T) (hb : b ∈ T) (e : a.1 = b.1) : a = b := by
  have hu := h.up
  clear h
  induction T with
  | nil => cases ha
  | cons t r ih =>
    obtain ⟨h1, h2⟩ := List.pairwise_cons.mp hu
    rcases List.mem_cons.mp ha with e1 | ha1
    · rcases List.mem_cons.mp hb with e2 | hb1
      · rw [e1, e2]
      · have := h1 b hb1
        rw [← e1, e, lex_irr] at this
        cases this
    · rcases List.mem_cons.mp hb with e2 | hb1
      · have := h1 a ha1
        rw [← e2, e, lex_irr] at this
        cases this
      · exact ih ha1 hb1 h2
theorem names_inj {T : List Tl} (h : TOk T) : ∀ {A B : List Tl}, (∀ t ∈ A, t ∈ T) → (∀ t ∈ B, t ∈ T) → A.map (·.1) = B.map (·.1) → A = B
  | [], [], _, _, _ => rfl
  | [], _ :: _, _, _, e => by cases e
  | _ :: _, [], _, _, e => by cases e
  | a :: A, b :: B, ha, hb, e => by
    rw [List.map_cons, List.map_cons] at e
    injection e with e1 e2
    rw [name_inj h (ha a List.mem_cons_self) (hb b List.mem_cons_self) e1, names_inj h (fun t ht => ha t (List.mem_cons_of_mem _ ht)) (fun t ht => hb t (List.mem_cons_of_mem _ ht)) e2]
theorem row_sorted {T : List Tl} (h : TOk T) {n : Nat} {left : List Int} (hn : left.Nodup) {r L : List Nm} (hr : r ∈ tls T n left) (hp : L.Perm r) (hu : L.Pairwise fun a b => lexI a b = true) : ∃ S, S.Sublist T ∧ Part S left ∧ L = S.map (·.1) := by
  obtain ⟨S, h1, h2, h3⟩ := tls_sound h.nd n hn hr
  obtain ⟨S', h4, h5, h6⟩ := part_sub h hn h2 h3
  refine ⟨S', h4, h6, pw_uniq lexI_irr lexI_tr hu (up_names h h4) fun x => ?_⟩
  rw [hp.mem_iff, h1]
  exact (h5.map _).mem_iff.symm

/-! ### the first tiling -/
def gd (n : Nat) : List Tl → List Int → List Nm
  | [], _ => []
  | t :: T, left => if left = [] then [] else
      if (∀ b ∈ t.2, b ∈ left) ∧ tls T n (remT left t) ≠ [] then t.1 :: gd n T (remT left t) else gd n T left
theorem gd_nil (n : Nat) (T : List Tl) : gd n T [] = [] := by
  cases T with
  | nil => rfl
  | cons t r => rw [gd, if_pos rfl]
theorem part_nil {S : List Tl} (ne : ∀ t ∈ S, t.2 ≠ []) (h : Part S []) : S = [] := by
  cases S with
  | nil => rfl
  | cons t r =>
    have q := h.length_eq
    rw [List.flatMap_cons, List.length_append, List.length_nil] at q
    have := List.length_pos_iff.mpr (ne t List.mem_cons_self)
    omega
theorem gd_first {n : Nat} : ∀ {T : List Tl} {left : List Int}, TOk T → left.Nodup → left.length < n → (∃ S, S.Sublist T ∧ Part S left) →
    ∃ S, gd n T left = S.map (·.1) ∧ S.Sublist T ∧ Part S left ∧ ∀ S', S'.Sublist T → Part S' left → S' = S ∨ lexT (S.map (·.1)) (S'.map (·.1)) = true
  | [], left, h, hn, hl, ⟨S, hs, hp⟩ => by
    have e : S = [] := List.sublist_nil.mp hs
    subst e
    exact ⟨[], rfl, List.Sublist.refl _, hp, fun S' h1 _ => .inl (List.sublist_nil.mp h1)⟩
  | t :: T, left, h, hn, hl, ex => by
    have hT : TOk T := h.sub (List.sublist_cons_self t T)
    by_cases e0 : left = []
    · subst e0
      refine ⟨[], gd_nil n _, List.nil_sublist _, List.Perm.refl _, fun S' h1 h2 => .inl (part_nil (fun u hu => h.ne u (h1.subset hu)) h2)⟩
    · rw [gd, if_neg e0]
      by_cases c : (∀ b ∈ t.2, b ∈ left) ∧ tls T n (remT left t) ≠ []
      · rw [if_pos c]
        have tn := h.nd t List.mem_cons_self
        have hlen := rem_len hn tn c.1
        have hpos := List.length_pos_iff.mpr (h.ne t List.mem_cons_self)
        obtain ⟨S, e1, e2, e3, e4⟩ := gd_first (n := n) hT (rem_nd (t := t) hn) (by omega) ((tls_ex hT (rem_nd (t := t) hn) (by
          have := List.length_pos_iff.mpr (h.ne t List.mem_cons_self)
          omega)).mp c.2)
        refine ⟨t :: S, by rw [e1] <;> rfl, e2.cons_cons t, ?_, fun S' h1 h2 => ?_⟩
        · unfold Part at e3 ⊢
          rw [List.flatMap_cons]
          exact (e3.append_left _).trans (rem_perm hn tn c.1)
        · cases h1 with
          | cons _ h1 =>
            -- without t: it comes later
            right
            cases S' with
            | nil =>
              have q := h2.length_eq
              exact absurd (List.length_eq_zero_iff.mp (by simpa using q.symm)) e0
            | cons u r =>
              have hu : u ∈ T := h1.subset List.mem_cons_self
              have lt := (List.pairwise_cons.mp h.up).1 u hu
              rw [List.map_cons, List.map_cons, lexT, if_neg]
              · exact lt
              · intro z
                rw [z, lex_irr] at lt
                cases lt
          | cons_cons _ h1 =>
            rename_i r
            obtain ⟨_, _, h3⟩ := part_cons hn List.mem_cons_self h2
            rw [List.erase_cons_head] at h3
            rcases e4 r h1 h3 with z | z
            · left
              rw [z]
            · right
              rw [List.map_cons, List.map_cons, lexT, if_pos rfl]
              exact z
      · rw [if_neg c]
        -- no tiling holds t
        have no : ∀ S', S'.Sublist (t :: T) → Part S' left → S'.Sublist T := fun S' h1 h2 => by
          cases h1 with
          | cons _ h1 => exact h1
          | cons_cons _ h1 =>
            obtain ⟨q1, q2, q3⟩ := part_cons hn List.mem_cons_self h2
            rw [List.erase_cons_head] at q3
            have hlen := rem_len hn q2 q1
            have hpos := List.length_pos_iff.mpr (h.ne t List.mem_cons_self)
            exact absurd ⟨q1, (tls_ex hT (rem_nd (t := t) hn) (by omega)).mpr ⟨_, h1, q3⟩⟩ c
        obtain ⟨S0, s1, s2⟩ := ex
        obtain ⟨S, e1, e2, e3, e4⟩ := gd_first (n := n) hT hn hl ⟨S0, no S0 s1 s2, s2⟩
        exact ⟨S, e1, e2.cons t, e3, fun S' h1 h2 => e4 S' (no S' h1 h2) h2⟩
end Mz

/-! Plain facts: the tiles of some rhythms; how many tilings there are at most. -/
namespace Mz
open PySem
/-- the tiles of the rhythms ps, the first of them the k-th -/
def tlF (m : Int) : Int → List (Int → Bool) → List Tl
  | _, [] => []
  | k, p :: r => (rgI 0 (per m p)).map (fun s => ([k, s], mv m p s)) ++ tlF m (k + 1) r
theorem mem_tlF {m : Int} {t : Tl} : ∀ {ps : List (Int → Bool)} {k : Int}, t ∈ tlF m k ps ↔ ∃ (j : Nat) (p : Int → Bool) (s : Int), ps[j]? = some p ∧ 0 ≤ s ∧ s < per m p ∧ t = ([k + j, s], mv m p s)
  | [], k => by simp [tlF]
  | p :: r, k => by
    rw [tlF, List.mem_append, List.mem_map, mem_tlF]
    constructor
    · rintro (⟨s, hs, rfl⟩ | ⟨j, q, s, h1, h2, h3, h4⟩)
      · obtain ⟨h1, h2⟩ := mem_rgI.mp hs
        exact ⟨0, p, s, rfl, h1, h2, by simp⟩
      · refine ⟨j + 1, q, s, by simpa using h1, h2, h3, ?_⟩
        rw [h4]
        have : k + 1 + (j : Int) = k + ((j + 1 : Nat) : Int) := by omega
        rw [this]
    · rintro ⟨j, q, s, h1, h2, h3, h4⟩
      cases j with
      | zero =>
        left
        have e : p = q := by simpa using h1
        subst e
        exact ⟨s, mem_rgI.mpr ⟨h2, h3⟩, by rw [h4]; simp⟩
      | succ j =>
        right
        refine ⟨j, q, s, by simpa using h1, h2, h3, ?_⟩
        rw [h4]
        have : k + 1 + (j : Int) = k + ((j + 1 : Nat) : Int) := by omega
        rw [this]
theorem lex_two (a b c d : Int) : lexI [a, b] [c, d] = if a = c then decide (b < d) else decide (a < c) := by
  simp only [lexI]
  by_cases h : a = c
  · rw [if_pos h, if_pos h]
    by_cases h2 : b = d
    · rw [if_pos h2, h2]
      simp
    · rw [if_neg h2]
  · rw [if_neg h, if_neg h]
theorem mv_ne {m : Int} (hm : 0 < m) {p : Int → Bool} (hp : fil m p ≠ []) (s : Int) : mv m p s ≠ [] := fun z => by
  have := len_mv hm p s
  rw [z] at this
  exact hp (List.length_eq_zero_iff.mp this.symm)
theorem up_nd2 {l : List Int} (h : Up l) : l.Nodup := h.imp fun {a b} h z => by omega
theorem tlF_ok {m : Int} (hm : 0 < m) : ∀ {ps : List (Int → Bool)} {k : Int}, (∀ p ∈ ps, fil m p ≠ []) → TOk (tlF m k ps)
  | [], k, _ => ⟨List.Pairwise.nil, fun t h => absurd h (by simp [tlF]), fun t h => absurd h (by simp [tlF])⟩
  | p :: r, k, h => by
    have ih := tlF_ok hm (ps := r) (k := k + 1) fun q hq => h q (List.mem_cons_of_mem _ hq)
    refine ⟨?_, fun t ht => ?_, fun t ht => ?_⟩
    · rw [tlF, List.pairwise_append]
      refine ⟨?_, ih.up, fun a ha b hb => ?_⟩
      · rw [List.pairwise_map]
        refine (up_rgI 0 (per m p)).imp fun {a b} hab => ?_
        rw [lex_two, if_pos rfl, decide_eq_true_eq]
        exact hab
      · obtain ⟨s, _, rfl⟩ := List.mem_map.mp ha
        obtain ⟨j, q, s', _, _, _, rfl⟩ := mem_tlF.mp hb
        rw [lex_two, if_neg (by omega), decide_eq_true_eq]
        omega
    · obtain ⟨j, q, s', _, _, _, rfl⟩ := mem_tlF.mp ht
      exact up_nd2 (up_fil m _)
    · obtain ⟨j, q, s', hq, _, _, rfl⟩ := mem_tlF.mp ht
      exact mv_ne hm (h q (List.mem_of_getElem? hq)) s'
/-! ### how many -/
theorem cnt_le {m : Int} (hm : 0 < m) (p : Int → Bool) (x : Int) : ((rgI 0 (per m p)).filter fun s => decide (x ∈ mv m p s)).length ≤ (fil m p).length := by
  have hper := per_spec hm (p := p)
  have h := nodup_len (l := ((rgI 0 (per m p)).filter fun s => decide (x ∈ mv m p s)).map fun s => (x - s) % m) (m := fil m p) ?_ ?_
  · rw [List.length_map] at h
    exact h
  · rw [List.Nodup, List.pairwise_map]
    refine ((up_rgI 0 (per m p)).filter _).imp_of_mem fun {a b} ha hb hab e => ?_
    have ha := mem_rgI.mp (List.mem_filter.mp ha).1
    have hb := mem_rgI.mp (List.mem_filter.mp hb).1
    have h1 := Int.emod_emod_of_dvd (x - a) (Int.dvd_refl m)
    have h2 : ((x - a) - (x - b)) % m = 0 := by
      rw [Int.sub_emod, e, Int.sub_self, Int.zero_emod]
    have h3 : (x - a) - (x - b) = b - a := by omega
    rw [h3, Int.emod_eq_of_lt (by omega) (by omega)] at h2
    omega
  · intro y hy
    obtain ⟨s, hs, rfl⟩ := List.mem_map.mp hy
    have h1 := of_decide_eq_true (List.mem_filter.mp hs).2
    unfold mv at h1
    obtain ⟨_, h2⟩ := mem_fil.mp h1
    exact mem_fil.mpr ⟨⟨Int.emod_nonneg _ (by omega), Int.emod_lt_of_pos _ hm⟩, h2⟩
theorem a3 : ∀ a : Nat, 1 ≤ a → a ≤ 3 ^ (a - 1)
  | 0, h => by omega
  | 1, _ => by decide
  | a + 2, _ => by
    have := a3 (a + 1) (by omega)
    rw [show a + 2 - 1 = (a + 1 - 1) + 1 by omega, Nat.pow_succ]
    omega
theorem sum_le {α : Type} (f : α → Nat) (c : Nat) : ∀ l : List α, (∀ x ∈ l, f x ≤ c) → (l.map f).sum ≤ l.length * c
  | [], _ => by simp
  | x :: r, h => by
    have h1 := h x List.mem_cons_self
    have h2 := sum_le f c r fun y hy => h y (List.mem_cons_of_mem _ hy)
    rw [List.map_cons, List.sum_cons, List.length_cons, Nat.succ_mul]
    omega
theorem len_fm {α β : Type} (f : α → List β) : ∀ l : List α, (l.flatMap f).length = (l.map fun x => (f x).length).sum
  | [] => rfl
  | x :: r => by rw [List.flatMap_cons, List.length_append, len_fm f r, List.map_cons, List.sum_cons]
/-- the weight of the tiles at a beat -/
theorem wt_le {m : Int} (hm : 0 < m) (x : Int) (l : List Int) (hn : (x :: l).Nodup) : ∀ {ps : List (Int → Bool)} {k : Int}, (∀ p ∈ ps, fil m p ≠ []) →
    (((tlF m k ps).filter (okT (x :: l))).map fun t => 3 ^ ((x :: l).length - t.2.length)).sum ≤ ps.length * 3 ^ l.length
  | [], k, _ => by simp [tlF]
  | p :: r, k, h => by
    have ih := wt_le hm x l hn (ps := r) (k := k + 1) fun q hq => h q (List.mem_cons_of_mem _ hq)
    rw [tlF, List.filter_append, List.map_append, List.sum_append, show (p :: r).length = r.length + 1 from rfl, Nat.succ_mul]
    have a1 : 1 ≤ (fil m p).length := List.length_pos_iff.mpr (h p List.mem_cons_self)
    have e1 : (((rgI 0 (per m p)).map fun s => (([k, s], mv m p s) : Tl)).filter (okT (x :: l))) = ((rgI 0 (per m p)).filter fun s => okT (x :: l) ([k, s], mv m p s)).map fun s => (([k, s], mv m p s) : Tl) := by
      rw [List.filter_map] <;> rfl
    have hb : ((((rgI 0 (per m p)).map fun s => (([k, s], mv m p s) : Tl)).filter (okT (x :: l))).map fun t => 3 ^ ((x :: l).length - t.2.length)).sum ≤ 3 ^ l.length := by
      rw [e1, List.map_map]
      have s1 := sum_le (fun s => 3 ^ ((x :: l).length - (mv m p s).length)) (3 ^ ((x :: l).length - (fil m p).length)) ((rgI 0 (per m p)).filter fun s => okT (x :: l) ([k, s], mv m p s)) fun s _ => by
        have := len_mv hm p s
        show 3 ^ ((x :: l).length - (mv m p s).length) ≤ _
        rw [this]
        exact Nat.le_refl _
      have c1 : ((rgI 0 (per m p)).filter fun s => okT (x :: l) ([k, s], mv m p s)).length ≤ (fil m p).length := by
        refine Nat.le_trans ?_ (cnt_le hm p x)
        rw [← List.countP_eq_length_filter, ← List.countP_eq_length_filter]
        exact List.countP_mono_left fun s _ hs => decide_eq_true (okT_iff.mp hs).1
      refine Nat.le_trans s1 ?_
      by_cases z : ((rgI 0 (per m p)).filter fun s => okT (x :: l) ([k, s], mv m p s)) = []
      · rw [z]
        simp
      · -- a tile fits: it is not longer than what is left
        obtain ⟨s, r', e⟩ := List.exists_cons_of_ne_nil z
        have hs : s ∈ (rgI 0 (per m p)).filter fun s => okT (x :: l) ([k, s], mv m p s) := by rw [e]; exact List.mem_cons_self
        have hok := okT_iff.mp (List.mem_filter.mp hs).2
        have hlen := rem_len (t := ([k, s], mv m p s)) hn (up_nd2 (up_fil m _)) hok.2
        have hlm := len_mv hm p s
        have hle : (fil m p).length ≤ (x :: l).length := by
          rw [← hlm]
          have : (mv m p s).length = (fil m fun b => p ((b - s) % m)).length := rfl
          have h3 : ([k, s], mv m p s).2.length = (mv m p s).length := rfl
          omega
        rw [List.length_cons] at hle ⊢
        have h3 := a3 _ a1
        calc _ ≤ (fil m p).length * 3 ^ (l.length + 1 - (fil m p).length) := Nat.mul_le_mul_right _ c1
          _ ≤ 3 ^ ((fil m p).length - 1) * 3 ^ (l.length + 1 - (fil m p).length) := Nat.mul_le_mul_right _ h3
          _ = 3 ^ l.length := by
            rw [← Nat.pow_add]
            congr 1
            omega
    omega
theorem tls_le {m : Int} (hm : 0 < m) {ps : List (Int → Bool)} {k : Int} (h : ∀ p ∈ ps, fil m p ≠ []) (h3 : ps.length ≤ 3) : ∀ (n : Nat) (left : List Int), left.Nodup → (tls (tlF m k ps) n left).length ≤ 3 ^ left.length
  | 0, left, _ => Nat.zero_le _
  | n + 1, [], _ => by simp [tls]
  | n + 1, x :: l, hn => by
    rw [tls, len_fm]
    have T := tlF_ok hm (k := k) h
    refine Nat.le_trans (m := ((((tlF m k ps).filter (okT (x :: l))).map fun t => 3 ^ ((x :: l).length - t.2.length)).sum)) ?_ ?_
    · have mono : ∀ L : List Tl, (∀ t ∈ L, t ∈ tlF m k ps ∧ okT (x :: l) t = true) → (L.map fun t => ((tls (tlF m k ps) n (remT (x :: l) t)).map (t.1 :: ·)).length).sum ≤ (L.map fun t => 3 ^ ((x :: l).length - t.2.length)).sum := fun L => by
        induction L with
        | nil => intro _; exact Nat.le_refl _
        | cons t r ih =>
          intro hL
          obtain ⟨q1, q2⟩ := hL t List.mem_cons_self
          have hlen := rem_len (t := t) hn (T.nd t q1) (okT_iff.mp q2).2
          have := tls_le hm h h3 (k := k) n (remT (x :: l) t) (rem_nd hn)
          rw [List.map_cons, List.map_cons, List.sum_cons, List.sum_cons, List.length_map]
          have e : (x :: l).length - t.2.length = (remT (x :: l) t).length := by omega
          rw [e]
          have := ih fun u hu => hL u (List.mem_cons_of_mem _ hu)
          omega
      exact mono _ fun t ht => ⟨(List.mem_filter.mp ht).1, (List.mem_filter.mp ht).2⟩
    · refine Nat.le_trans (wt_le hm x l hn h) ?_
      rw [List.length_cons, Nat.pow_succ, Nat.mul_comm (3 ^ l.length) 3]
      exact Nat.mul_le_mul_right _ h3
end Mz

/-! Loops: one that adds to a list, one that folds; steps that the language got later. -/
namespace Mz
open PySem
theorem flatMap_one {α β : Type} (f : α → β) : ∀ l : List α, (l.flatMap fun x => [f x]) = l.map f
  | [] => rfl
  | x :: r => by rw [List.flatMap_cons, flatMap_one f r] <;> rfl
theorem forL_cons {f : D → En → SO} {tmp : List Nat} {x : D} {xs : List D} {ρ ρ' : En} (h : f x ρ = .nx ρ') : forL f tmp (x :: xs) ρ = forL f tmp xs (fgt ρ' tmp) := by
  rw [forL, h]
theorem forL_own {f : D → En → SO} {tmp : List Nat} {env : List D → En} {g : D → List D} (B : Nat) : ∀ (xs : List D), (∀ x ∈ xs, ∀ acc : List D, acc.length + (g x).length ≤ B → ∃ ρ', f x (env acc) = .nx ρ' ∧ fgt ρ' tmp = env (acc ++ g x)) →
    ∀ acc : List D, acc.length + (xs.flatMap g).length ≤ B → forL f tmp xs (env acc) = .nx (env (acc ++ xs.flatMap g))
  | [], _, acc, _ => by rw [List.flatMap_nil, List.append_nil] <;> rfl
  | x :: xs, hs, acc, hl => by
    rw [List.flatMap_cons, List.length_append] at hl
    obtain ⟨ρ', t1, t2⟩ := hs x List.mem_cons_self acc (by omega)
    unfold forL
    rw [t1]
    simp only [t2]
    rw [List.flatMap_cons, ← List.append_assoc]
    exact forL_own B xs (fun y hy => hs y (List.mem_cons_of_mem _ hy)) (acc ++ g x) (by rw [List.length_append]; omega)
theorem forL_map {α : Type} {enc : α → D} {f : D → En → SO} {tmp : List Nat} {env : List D → En} {g : α → List D} (B : Nat) : ∀ (xs : List α), (∀ x ∈ xs, ∀ acc : List D, acc.length + (g x).length ≤ B → ∃ ρ', f (enc x) (env acc) = .nx ρ' ∧ fgt ρ' tmp = env (acc ++ g x)) →
    ∀ acc : List D, acc.length + (xs.flatMap g).length ≤ B → forL f tmp (xs.map enc) (env acc) = .nx (env (acc ++ xs.flatMap g))
  | [], _, acc, _ => by rw [List.flatMap_nil, List.append_nil] <;> rfl
  | x :: xs, hs, acc, hl => by
    rw [List.flatMap_cons, List.length_append] at hl
    obtain ⟨ρ', t1, t2⟩ := hs x List.mem_cons_self acc (by omega)
    rw [List.map_cons]
    unfold forL
    rw [t1]
    simp only [t2]
    rw [List.flatMap_cons, ← List.append_assoc]
    exact forL_map B xs (fun y hy => hs y (List.mem_cons_of_mem _ hy)) (acc ++ g x) (by rw [List.length_append]; omega)
theorem forL_foldM {α β : Type} {enc : α → D} {f : D → En → SO} {tmp : List Nat} {env : β → En} {step : β → α → β} {Inv : β → Prop} : ∀ (xs : List α) (b : β), Inv b → (∀ x ∈ xs, ∀ b, Inv b → ∃ ρ', f (enc x) (env b) = .nx ρ' ∧ fgt ρ' tmp = env (step b x) ∧ Inv (step b x)) →
    forL f tmp (xs.map enc) (env b) = .nx (env (xs.foldl step b)) ∧ Inv (xs.foldl step b)
  | [], b, hb, _ => ⟨rfl, hb⟩
  | x :: xs, b, hb, hs => by
    obtain ⟨ρ', t1, t2, t3⟩ := hs x List.mem_cons_self b hb
    rw [List.map_cons]
    unfold forL
    rw [t1]
    simp only [t2]
    exact forL_foldM xs (step b x) t3 fun y hy => hs y (List.mem_cons_of_mem _ hy)
theorem forL_foldN {α β : Type} {enc : α → D} {f : D → En → SO} {tmp : List Nat} {env : β → En} {step : β → α → β} {Inv : Nat → β → Prop} (N : Nat) : ∀ (xs : List α) (i : Nat) (b : β), i + xs.length ≤ N → Inv i b → (∀ x ∈ xs, ∀ i b, i < N → Inv i b → ∃ ρ', f (enc x) (env b) = .nx ρ' ∧ fgt ρ' tmp = env (step b x) ∧ Inv (i + 1) (step b x)) →
    forL f tmp (xs.map enc) (env b) = .nx (env (xs.foldl step b))
  | [], _, b, _, hb, _ => rfl
  | x :: xs, i, b, hl, hb, hs => by
    rw [List.length_cons] at hl
    obtain ⟨ρ', t1, t2, t3⟩ := hs x List.mem_cons_self i b (by omega) hb
    rw [List.map_cons]
    unfold forL
    rw [t1]
    simp only [t2]
    exact forL_foldN N xs (i + 1) (step b x) (by omega) t3 fun y hy => hs y (List.mem_cons_of_mem _ hy)
theorem forL_fold {β : Type} {f : D → En → SO} {tmp : List Nat} {env : β → En} {step : β → D → β} {Inv : β → Prop} : ∀ (xs : List D) (b : β), Inv b → (∀ x ∈ xs, ∀ b, Inv b → ∃ ρ', f x (env b) = .nx ρ' ∧ fgt ρ' tmp = env (step b x) ∧ Inv (step b x)) →
    forL f tmp xs (env b) = .nx (env (xs.foldl step b)) ∧ Inv (xs.foldl step b)
  | [], b, hb, _ => ⟨rfl, hb⟩
  | x :: xs, b, hb, hs => by
    obtain ⟨ρ', t1, t2, t3⟩ := hs x List.mem_cons_self b hb
    unfold forL
    rw [t1]
    simp only [t2]
    exact forL_fold xs (step b x) t3 fun y hy => hs y (List.mem_cons_of_mem _ hy)
/-- a loop that leaves all as it was -/
theorem forL_same {f : D → En → SO} {tmp : List Nat} {ρ : En} : ∀ xs : List D, (∀ x ∈ xs, ∃ ρ', f x ρ = .nx ρ' ∧ fgt ρ' tmp = ρ) → forL f tmp xs ρ = .nx ρ
  | [], _ => rfl
  | x :: xs, hs => by
    obtain ⟨ρ', t1, t2⟩ := hs x List.mem_cons_self
    unfold forL
    rw [t1]
    simp only [t2]
    exact forL_same xs fun y hy => hs y (List.mem_cons_of_mem _ hy)
section
variable {cal : Nat → List D → Out D} {ρ : En}
@[simp] theorem e_cc {f : Nat} {a b : M} : evE cal ρ (.cc f a b) = (evE cal ρ a).bnd fun x => (evE cal ρ b).bnd fun y => opCC (cal f [x, y]) y := by simp only [evE]
theorem cc_ok {d : D} {ns : List Int} (h : ns.length ≤ 12) : opCC (.ok d) (tupI ns) = .ok d := by
  unfold opCC tupI
  simp only [allInts_map, if_pos h]
/-- a for that comes first -/
theorem t_fr {t : Tg} {it b r : M} {tmp : List Nat} {xs : List D} {ρ' : En} {o : SO} (hi : evI cal ρ it = .ok xs) (hf : forL (fun x ρ' => match asgT t x ρ' with
        | some ρ2 => evS cal b ρ2
        | none => .bad) tmp xs ρ = .nx ρ') (h : evS cal r ρ' = o) (hm : ment ρ it = false := by rfl) : evS cal (.sq (.fr t it b tmp) r) ρ = o := t_sq ((s_fr hi hm).trans hf) h
end
end Mz

/-! Plain facts: numbers of tilings; tilings of one rhythm are canons. -/
namespace Mz
open PySem
/-! ### numbers by the beats alone -/
def okB (left : List Int) (t : List Int) : Bool := match left with
  | [] => false
  | x :: _ => decide (x ∈ t) && t.all fun b => decide (b ∈ left)
def remB (left : List Int) (t : List Int) : List Int := left.filter fun b => !decide (b ∈ t)
def cB (B : List (List Int)) : Nat → List Int → Nat
  | 0, _ => 0
  | _ + 1, [] => 1
  | n + 1, x :: l => ((B.filter (okB (x :: l))).map fun t => cB B n (remB (x :: l) t)).sum
theorem tls_cB (T : List Tl) : ∀ (n : Nat) (left : List Int), (tls T n left).length = cB (T.map (·.2)) n left
  | 0, _ => rfl
  | n + 1, [] => rfl
  | n + 1, x :: l => by
    rw [tls, cB, len_fm, List.filter_map, List.map_map]
    have e : (T.filter (okT (x :: l))) = T.filter (okB (x :: l) ∘ fun t => t.2) := rfl
    rw [← e]
    congr 1
    refine List.map_congr_left fun t _ => ?_
    rw [List.length_map, tls_cB T n]
    rfl
theorem sum_perm {α : Type} (f : α → Nat) {a b : List α} (h : a.Perm b) : (a.map f).sum = (b.map f).sum := by
  induction h with
  | nil => rfl
  | cons x _ ih => rw [List.map_cons, List.map_cons, List.sum_cons, List.sum_cons, ih]
  | swap x y l => simp only [List.map_cons, List.sum_cons]; omega
  | trans _ _ h1 h2 => rw [h1, h2]
theorem cB_perm {B B' : List (List Int)} (h : B.Perm B') : ∀ (n : Nat) (left : List Int), cB B n left = cB B' n left
  | 0, _ => rfl
  | n + 1, [] => rfl
  | n + 1, x :: l => by
    rw [cB, cB, sum_perm _ (h.filter _)]
    congr 1
    exact List.map_congr_left fun t _ => cB_perm h n _
theorem sum_sub {α : Type} (f : α → Nat) {a b : List α} (h : a.Sublist b) : (a.map f).sum ≤ (b.map f).sum := by
  induction h with
  | slnil => exact Nat.le_refl _
  | cons x _ ih => rw [List.map_cons, List.sum_cons]; omega
  | cons_cons x _ ih => rw [List.map_cons, List.map_cons, List.sum_cons, List.sum_cons]; omega
theorem sum_le2 {α : Type} (f g : α → Nat) : ∀ l : List α, (∀ x ∈ l, f x ≤ g x) → (l.map f).sum ≤ (l.map g).sum
  | [], _ => Nat.le_refl _
  | x :: r, h => by
    have h1 := h x List.mem_cons_self
    have h2 := sum_le2 f g r fun y hy => h y (List.mem_cons_of_mem _ hy)
    rw [List.map_cons, List.map_cons, List.sum_cons, List.sum_cons]
    omega
theorem cB_sub {B B' : List (List Int)} (h : B.Sublist B') : ∀ (n : Nat) (left : List Int), cB B n left ≤ cB B' n left
  | 0, _ => Nat.le_refl _
  | n + 1, [] => Nat.le_refl _
  | n + 1, x :: l => by
    rw [cB, cB]
    exact Nat.le_trans (sum_le2 _ _ _ fun t _ => cB_sub h n _) (sum_sub _ (h.filter _))
/-! ### each tiling once -/
theorem tls_uniq {T : List Tl} (hT : TOk T) : ∀ (n : Nat) (left : List Int), left.Nodup → (tls T n left).Pairwise fun a b => ¬ a.Perm b
  | 0, _, _ => List.Pairwise.nil
  | n + 1, [], _ => by
    rw [tls]
    exact List.pairwise_singleton _ _
  | n + 1, x :: l, hn => by
    rw [tls, List.pairwise_flatMap]
    refine ⟨fun t _ => ?_, ?_⟩
    · rw [List.pairwise_map]
      exact (tls_uniq hT n (remT (x :: l) t) (rem_nd hn)).imp fun {a b} h z => h ((List.perm_cons _).mp z)
    · refine (hT.up.filter _).imp_of_mem fun {t u} ht hu htu => ?_
      intro a ha b hb z
      obtain ⟨ht1, ht2⟩ := List.mem_filter.mp ht
      obtain ⟨hu1, hu2⟩ := List.mem_filter.mp hu
      obtain ⟨a', _, rfl⟩ := List.mem_map.mp ha
      obtain ⟨b', hb', rfl⟩ := List.mem_map.mp hb
      have hin : t.1 ∈ u.1 :: b' := z.mem_iff.mp List.mem_cons_self
      rcases List.mem_cons.mp hin with e | e
      · rw [e, lex_irr] at htu
        cases htu
      · obtain ⟨S, q1, q2, q3⟩ := tls_sound hT.nd n (rem_nd (t := u) hn) hb'
        rw [q1] at e
        obtain ⟨v, hv, ev⟩ := List.mem_map.mp e
        have evt : v = t := name_inj hT (q2 v hv) ht1 ev
        subst evt
        have hx : x ∈ remT (x :: l) u := q3.mem_iff.mp (List.mem_flatMap.mpr ⟨v, hv, (okT_iff.mp ht2).1⟩)
        unfold remT at hx
        have := (List.mem_filter.mp hx).2
        rw [decide_eq_true (okT_iff.mp hu2).1] at this
        cases this
/-! ### counts -/
theorem cnt1 {b : Int} : ∀ {l : List Int}, l.Nodup → b ∈ l → l.count b = 1
  | [], _, h => by cases h
  | x :: r, nd, h => by
    obtain ⟨h1, h2⟩ := List.nodup_cons.mp nd
    by_cases e : x = b
    · subst e
      rw [List.count_cons_self, List.count_eq_zero_of_not_mem h1]
    · rw [List.count_cons_of_ne e]
      rcases List.mem_cons.mp h with z | z
      · exact absurd z.symm e
      · exact cnt1 h2 z
theorem cnt_flat {b : Int} : ∀ {S : List Tl}, (∀ t ∈ S, t.2.Nodup) → (S.flatMap (·.2)).count b = S.countP fun t => decide (b ∈ t.2)
  | [], _ => rfl
  | t :: r, h => by
    have ih := cnt_flat (b := b) (S := r) fun u hu => h u (List.mem_cons_of_mem _ hu)
    rw [List.flatMap_cons, List.count_append, ih, List.countP_cons]
    have ht := h t List.mem_cons_self
    by_cases hb : b ∈ t.2
    · rw [cnt1 ht hb, decide_eq_true hb]
      simp
      omega
    · rw [List.count_eq_zero_of_not_mem hb, decide_eq_false hb]
      simp
theorem cnt_rg {m b : Int} : (rgI 0 m).count b = if 0 ≤ b ∧ b < m then 1 else 0 := by
  split
  · rename_i h
    exact cnt1 (up_nd2 (up_rgI 0 m)) (mem_rgI.mpr h)
  · rename_i h
    exact List.count_eq_zero_of_not_mem fun z => h (mem_rgI.mp z)
theorem mem_mv {m b s : Int} {p : Int → Bool} : b ∈ mv m p s ↔ (0 ≤ b ∧ b < m) ∧ p ((b - s) % m) = true := by
  unfold mv
  exact mem_fil
/-- tiles of one rhythm, by their starts -/
def tl1 (m : Int) (p : Int → Bool) (s : Int) : Tl := ([0, s], mv m p s)
theorem part_ones {m : Int} {p : Int → Bool} {l : List Int} : Part (l.map (tl1 m p)) (rgI 0 m) ↔ ∀ b, 0 ≤ b → b < m → l.countP (fun s => p ((b - s) % m)) = 1 := by
  have hc : ∀ b, ((l.map (tl1 m p)).flatMap (·.2)).count b = l.countP fun s => decide (b ∈ mv m p s) := fun b => by
    rw [cnt_flat fun t ht => ?_, List.countP_map]
    · rfl
    · obtain ⟨s, _, rfl⟩ := List.mem_map.mp ht
      exact up_nd2 (up_fil m _)
  unfold Part
  rw [List.perm_iff_count]
  constructor
  · intro h b b0 b1
    have := h b
    rw [hc, cnt_rg, if_pos ⟨b0, b1⟩] at this
    rw [← this]
    refine List.countP_congr fun s _ => ?_
    rw [decide_eq_true_eq, mem_mv]
    exact ⟨fun z => ⟨⟨b0, b1⟩, z⟩, fun z => z.2⟩
  · intro h b
    rw [hc, cnt_rg]
    by_cases hb : 0 ≤ b ∧ b < m
    · rw [if_pos hb, ← h b hb.1 hb.2]
      refine List.countP_congr fun s _ => ?_
      rw [decide_eq_true_eq, mem_mv]
      exact ⟨fun z => z.2, fun z => ⟨hb, z⟩⟩
    · rw [if_neg hb, List.countP_eq_zero]
      intro s _ z
      rw [decide_eq_true_eq, mem_mv] at z
      exact hb z.1
theorem tlF_one (m : Int) (p : Int → Bool) : tlF m 0 [p] = (rgI 0 (per m p)).map (tl1 m p) := by
  show (rgI 0 (per m p)).map (fun s => ([0, s], mv m p s)) ++ [] = _
  rw [List.append_nil] <;> rfl
theorem one_list {m : Int} {p : Int → Bool} : ∀ {S : List Tl}, (∀ t ∈ S, t ∈ tlF m 0 [p]) → ∃ l : List Int, S = l.map (tl1 m p) ∧ ∀ s ∈ l, 0 ≤ s ∧ s < per m p
  | [], _ => ⟨[], rfl, fun s h => by cases h⟩
  | t :: r, h => by
    obtain ⟨l, e, hl⟩ := one_list (S := r) fun u hu => h u (List.mem_cons_of_mem _ hu)
    have ht := h t List.mem_cons_self
    rw [tlF_one] at ht
    obtain ⟨s, hs, rfl⟩ := List.mem_map.mp ht
    refine ⟨s :: l, by rw [e] <;> rfl, fun u hu => ?_⟩
    rcases List.mem_cons.mp hu with rfl | hu
    · exact mem_rgI.mp hs
    · exact hl u hu
/-- the starts of a row -/
def sts (r : List Nm) : List Int := r.map fun z => z.tail.headD 0
theorem sts_tl1 (m : Int) (p : Int → Bool) (l : List Int) : sts ((l.map (tl1 m p)).map (·.1)) = l := by
  unfold sts
  rw [List.map_map, List.map_map]
  conv => rhs; rw [← List.map_id l]
  rfl
theorem fil_isort {m : Int} {l : List Int} (hn : l.Nodup) (hb : ∀ x ∈ l, 0 ≤ x ∧ x < m) : isort ltI l = fil m fun b => decide (b ∈ l) := inL_fil hn hb
/-- rows of one rhythm are good sets -/
theorem row_good {m : Int} (hm : 0 < m) {p : Int → Bool} (hp : fil m p ≠ []) {n : Nat} {r : List Nm} (hr : r ∈ tls (tlF m 0 [p]) n (rgI 0 m)) : ∃ q, isort ltI (sts r) = fil m q ∧ Ones m p q ∧ r = (sts r).map fun s => [0, s] := by
  have T := tlF_ok hm (ps := [p]) (k := 0) (by simpa using hp)
  obtain ⟨S, q1, q2, q3⟩ := tls_sound T.nd n (up_nd2 (up_rgI 0 m)) hr
  obtain ⟨l, e, hl⟩ := one_list q2
  have hper := per_spec hm (p := p)
  have e2 : sts r = l := by rw [q1, e, sts_tl1]
  rw [e] at q3
  have hc := part_ones.mp q3
  have nl : l.Nodup := by
    have := part_nd (up_nd2 (up_rgI 0 m)) (fun t ht => by
      obtain ⟨s, _, rfl⟩ := List.mem_map.mp ht
      exact mv_ne hm hp s) q3
    rw [List.Nodup, List.pairwise_map] at this
    exact this.imp fun {a b} h z => h (by rw [z])
  have hb : ∀ x ∈ l, 0 ≤ x ∧ x < m := fun x hx => by
    have := hl x hx
    omega
  refine ⟨fun b => decide (b ∈ l), by rw [e2]; exact fil_isort nl hb, fun b b0 b1 => ?_, ?_⟩
  · rw [← fil_isort nl hb, (perm_isort l).countP_eq]
    exact hc b b0 b1
  · rw [e2, q1, e, List.map_map] <;> rfl
/-- a good set is a row's starts, round the period -/
theorem good_row {m : Int} (hm : 0 < m) {p q : Int → Bool} (hp : fil m p ≠ []) (o : Ones m p q) {n : Nat} (hl : (rgI 0 m).length < n) : ∃ r ∈ tls (tlF m 0 [p]) n (rgI 0 m), (sts r).Perm ((fil m q).map fun s => s % per m p) := by
  have T := tlF_ok hm (ps := [p]) (k := 0) (by simpa using hp)
  have hper := per_spec hm (p := p)
  have P : Part (((fil m q).map fun s => s % per m p).map (tl1 m p)) (rgI 0 m) := part_ones.mpr fun b b0 b1 => by
    rw [List.countP_map]
    rw [← o b b0 b1]
    refine List.countP_congr fun s _ => ?_
    have : mv m p (s % per m p) = mv m p s := by
      rw [mv_eq hm, Int.sub_emod, Int.emod_emod, Int.sub_self, Int.zero_emod]
    have h1 : b ∈ mv m p (s % per m p) ↔ b ∈ mv m p s := by rw [this]
    rw [mem_mv, mem_mv] at h1
    exact ⟨fun z => (h1.mp ⟨⟨b0, b1⟩, z⟩).2, fun z => (h1.mpr ⟨⟨b0, b1⟩, z⟩).2⟩
  obtain ⟨r, hr, hpm⟩ := tls_complete n (up_nd2 (up_rgI 0 m)) hl (T := tlF m 0 [p]) (fun t ht => by
    obtain ⟨s, hs, rfl⟩ := List.mem_map.mp ht
    obtain ⟨s', _, rfl⟩ := List.mem_map.mp hs
    rw [tlF_one]
    exact List.mem_map_of_mem (mem_rgI.mpr ⟨Int.emod_nonneg _ (by omega), Int.emod_lt_of_pos _ (by omega)⟩)) (fun t ht => by
    obtain ⟨s, _, rfl⟩ := List.mem_map.mp ht
    exact mv_ne hm hp s) P
  refine ⟨r, hr, ?_⟩
  have := hpm.map fun z => z.tail.headD 0
  rw [show ((((fil m q).map fun s => s % per m p).map (tl1 m p)).map (·.1)).map (fun z => z.tail.headD 0) = sts ((((fil m q).map fun s => s % per m p).map (tl1 m p)).map (·.1)) from rfl, sts_tl1] at this
  exact this
/-! all good sets -/
theorem als_lt : ∀ {k : Nat} {t : List Int}, t ∈ als k → ∀ x ∈ t, x < k := fun {k t} h x hx => by
  obtain ⟨p, rfl⟩ := mem_als.mp h
  exact (mem_fil.mp hx).1.2
theorem als_nodup : ∀ k : Nat, (als k).Nodup
  | 0 => by simp [als]
  | k + 1 => by
    have ih := als_nodup k
    rw [als, List.nodup_append]
    refine ⟨ih, ?_, fun a ha b hb e => ?_⟩
    · rw [List.Nodup, List.pairwise_map]
      exact ih.imp fun {a b} h z => h (List.append_cancel_right z)
    · obtain ⟨c, _, rfl⟩ := List.mem_map.mp hb
      have := als_lt ha (k : Int) (by rw [e]; simp)
      omega
open Classical in
theorem good_ex {m : Int} (hm : 0 < m) (p : Int → Bool) : ∃ G, IsG m p G := by
  obtain ⟨k, rfl⟩ : ∃ k : Nat, m = (k : Int) := ⟨m.toNat, by omega⟩
  let G0 := (als k).filter fun t => decide (∃ q, t = fil k q ∧ Ones k p q)
  refine ⟨G0.mergeSort fun a b => !lexI b a, ?_, fun y => ?_⟩
  · have h1 := ms_ord lexI lexI_irr lexI_tr lexI_con G0
    have h2 : (G0.mergeSort fun a b => !lexI b a).Nodup := (List.mergeSort_perm G0 _).nodup_iff.mpr ((als_nodup k).filter _)
    refine (h1.and h2).imp fun {a b} h => ?_
    cases q : lexI a b with
    | true => rfl
    | false => exact absurd (lexI_con _ _ q h.1) h.2
  · rw [(List.mergeSort_perm G0 _).mem_iff, List.mem_filter, decide_eq_true_eq]
    constructor
    · exact fun h => h.2
    · rintro ⟨q, h1, h2⟩
      exact ⟨mem_als.mpr ⟨q, h1⟩, q, h1, h2⟩
/-- how many tilings one rhythm has -/
theorem one_cnt {m : Int} (hm : 0 < m) {p : Int → Bool} (hp : fil m p ≠ []) {L : List (List Int)} (hL : IsC m p L) {n : Nat} (hl : (rgI 0 m).length < n) :
    (tls (tlF m 0 [p]) n (rgI 0 m)).length ≤ L.length * (fil m p).length ∧ (per m p = m → (tls (tlF m 0 [p]) n (rgI 0 m)).length = L.length * (fil m p).length) ∧ (tls (tlF m 0 [p]) n (rgI 0 m) ≠ [] ↔ L ≠ []) := by
  have T := tlF_ok hm (ps := [p]) (k := 0) (by simpa using hp)
  obtain ⟨G, hG⟩ := good_ex hm p
  have hc := hG.cnt hm hL
  have hper := per_spec hm (p := p)
  obtain ⟨W, eW⟩ : ∃ W, tls (tlF m 0 [p]) n (rgI 0 m) = W := ⟨_, rfl⟩
  have good : ∀ r ∈ W, isort ltI (sts r) ∈ G := fun r hr => by
    rw [← eW] at hr
    obtain ⟨q, h1, h2, _⟩ := row_good hm hp hr
    exact (hG.mem _).mpr ⟨q, h1, h2⟩
  have nd : (W.map fun r => isort ltI (sts r)).Nodup := by
    have hu := tls_uniq T n (rgI 0 m) (up_nd2 (up_rgI 0 m))
    rw [eW] at hu
    rw [List.Nodup, List.pairwise_map]
    refine hu.imp_of_mem fun {a b} ha hb h e => h ?_
    rw [← eW] at ha hb
    obtain ⟨_, _, _, e1⟩ := row_good hm hp ha
    obtain ⟨_, _, _, e2⟩ := row_good hm hp hb
    have hp1 : (sts a).Perm (sts b) := (perm_isort (sts a)).symm.trans (by rw [e]; exact perm_isort (sts b))
    rw [e1, e2]
    exact hp1.map _
  have le : W.length ≤ G.length := by
    have := nodup_len nd fun x hx => by
      obtain ⟨r, hr, rfl⟩ := List.mem_map.mp hx
      exact good r hr
    rw [List.length_map] at this
    exact this
  rw [eW]
  refine ⟨by omega, fun hpm => ?_, ?_⟩
  · have ge : G.length ≤ W.length := by
      have := nodup_len (m := W.map fun r => isort ltI (sts r)) (pw_nd hG.srt) fun y hy => by
        obtain ⟨q, rfl, o⟩ := (hG.mem y).mp hy
        obtain ⟨r, hr, hpm2⟩ := good_row hm hp o hl
        rw [eW] at hr
        refine List.mem_map.mpr ⟨r, hr, ?_⟩
        have e : ((fil m q).map fun s => s % per m p) = fil m q := by
          conv => rhs; rw [← List.map_id (fil m q)]
          refine List.map_congr_left fun s hs => ?_
          have := (mem_fil.mp hs).1
          rw [hpm]
          exact Int.emod_eq_of_lt this.1 this.2
        rw [e] at hpm2
        rw [isort_perm hpm2]
        exact up_ext (up_isort _ (up_nd2 (up_fil m q))) (up_fil m q) fun x => mem_isort x _
      rw [List.length_map] at this
      exact this
    omega
  · have hlen : 0 < (fil m p).length := List.length_pos_iff.mpr hp
    constructor
    · intro h z
      rw [z] at hc
      simp at hc
      have := List.length_pos_iff.mpr h
      rw [hc] at le
      simp at le
      exact h le
    · intro h z
      obtain ⟨y, r, e⟩ := List.exists_cons_of_ne_nil h
      obtain ⟨q, _, _, o⟩ := (hL.mem y).mp (by rw [e]; exact List.mem_cons_self)
      obtain ⟨r', hr, _⟩ := good_row hm hp o hl
      rw [eW, z] at hr
      cases hr
end Mz

/-! Plain facts: the tiles' beats; moved rhythms have as many tilings. -/
namespace Mz
open PySem
/-- the tiles' beats -/
def tlB (m : Int) (ps : List (Int → Bool)) : List (List Int) := ps.flatMap fun p => (rgI 0 (per m p)).map (mv m p)
theorem tlF_tlB (m : Int) : ∀ (ps : List (Int → Bool)) (k : Int), (tlF m k ps).map (·.2) = tlB m ps
  | [], _ => rfl
  | p :: r, k => by
    rw [tlF, List.map_append, tlF_tlB m r, List.map_map]
    rfl
theorem tlB_cons (m : Int) (p : Int → Bool) (r : List (Int → Bool)) : tlB m (p :: r) = (rgI 0 (per m p)).map (mv m p) ++ tlB m r := by
  unfold tlB
  rw [List.flatMap_cons]
theorem cnt_tlB (m : Int) (k : Int) (ps : List (Int → Bool)) (n : Nat) (left : List Int) : (tls (tlF m k ps) n left).length = cB (tlB m ps) n left := by
  rw [tls_cB, tlF_tlB]
theorem sb_shiftI {m : Int} (hm : 0 < m) {p : Int → Bool} {k d : Int} : Sb m (fun b => p ((b - k) % m)) d ↔ Sb m p d := by
  unfold Sb
  constructor
  · intro h x
    have := h (x + k)
    simp only [sub_mod] at this
    rw [show x + k - d - k = x - d by omega, show x + k - k = x by omega] at this
    exact this
  · intro h x
    have := h (x - k)
    simp only [sub_mod]
    rw [show x - d - k = x - k - d by omega]
    exact this
theorem per_uniq {a b : Int} (a1 : 1 ≤ a) (b1 : 1 ≤ b) (h : ∀ d : Int, d % a = 0 ↔ d % b = 0) : a = b := by
  have h1 := (h a).mp (Int.emod_self)
  have h2 := (h b).mpr (Int.emod_self)
  have d1 := Int.dvd_of_emod_eq_zero h1
  have d2 := Int.dvd_of_emod_eq_zero h2
  exact Int.dvd_antisymm (by omega) (by omega) d2 d1
theorem per_shiftI {m : Int} (hm : 0 < m) (p : Int → Bool) (k : Int) : per m (fun b => p ((b - k) % m)) = per m p := by
  obtain ⟨a1, _, a3⟩ := per_spec hm (p := fun b => p ((b - k) % m))
  obtain ⟨b1, _, b3⟩ := per_spec hm (p := p)
  exact per_uniq a1 b1 fun d => (a3 d).symm.trans ((sb_shiftI hm).trans (b3 d))
theorem mv_shiftI {m : Int} (p : Int → Bool) (k s : Int) : mv m (fun b => p ((b - k) % m)) s = mv m p (s + k) := by
  unfold mv
  refine fil_ext fun x _ _ => ?_
  simp only [sub_mod]
  rw [show x - s - k = x - (s + k) by omega]
theorem mvs_nd {m : Int} (hm : 0 < m) (p : Int → Bool) : ((rgI 0 (per m p)).map (mv m p)).Nodup := by
  obtain ⟨h1, h2, h3⟩ := per_spec hm (p := p)
  rw [List.Nodup, List.pairwise_map]
  refine (up_rgI 0 (per m p)).imp_of_mem fun {a b} ha hb hab e => ?_
  have ha := mem_rgI.mp ha
  have hb := mem_rgI.mp hb
  rw [mv_eq hm, Int.emod_eq_of_lt (by omega) (by omega)] at e
  omega
theorem mvs_shift {m : Int} (hm : 0 < m) (p : Int → Bool) (k : Int) : ((rgI 0 (per m fun b => p ((b - k) % m))).map (mv m fun b => p ((b - k) % m))).Perm ((rgI 0 (per m p)).map (mv m p)) := by
  obtain ⟨h1, h2, h3⟩ := per_spec hm (p := p)
  refine (List.perm_ext_iff_of_nodup (mvs_nd hm _) (mvs_nd hm p)).mpr fun x => ?_
  rw [per_shiftI hm]
  have hmod : ∀ s, mv m p (s % per m p) = mv m p s := fun s => by
    rw [mv_eq hm, Int.sub_emod, Int.emod_emod, Int.sub_self, Int.zero_emod]
  simp only [List.mem_map]
  constructor
  · rintro ⟨s, _, rfl⟩
    exact ⟨(s + k) % per m p, mem_rgI.mpr ⟨Int.emod_nonneg _ (by omega), Int.emod_lt_of_pos _ (by omega)⟩, by rw [mv_shiftI, hmod]⟩
  · rintro ⟨s, _, rfl⟩
    refine ⟨(s - k) % per m p, mem_rgI.mpr ⟨Int.emod_nonneg _ (by omega), Int.emod_lt_of_pos _ (by omega)⟩, ?_⟩
    rw [mv_shiftI, mv_eq hm]
    have e : s - ((s - k) % per m p + k) = (s - k) - (s - k) % per m p := by omega
    rw [e, Int.sub_emod, Int.emod_emod, Int.sub_self, Int.zero_emod]
theorem tlB_moved {m : Int} (hm : 0 < m) (p o : Int → Bool) (k : Int) : (tlB m [fun b => p ((b - k) % m), o]).Perm (tlB m [p, o]) := by
  rw [tlB_cons, tlB_cons]
  exact (mvs_shift hm p k).append_right _
theorem tlB_swap (m : Int) (p o : Int → Bool) : (tlB m [o, p]).Perm (tlB m [p, o]) := by
  rw [tlB_cons, tlB_cons, tlB_cons, tlB_cons, show tlB m [] = [] from rfl, List.append_nil, List.append_nil]
  exact List.perm_append_comm
theorem tlB_sub (m : Int) (p o : Int → Bool) : (tlB m [p]).Sublist (tlB m [p, o]) := by
  rw [tlB_cons, tlB_cons, show tlB m [] = [] from rfl, List.append_nil]
  exact List.sublist_append_left _ _
end Mz

namespace K54
open PySem Mz
abbrev j_is_int : Nat := 0
abbrev j_is_cycle : Nat := 1
abbrev j_has_set : Nat := 2
abbrev j_check_cycle : Nat := 3
abbrev j_check_set : Nat := 4
abbrev j_move_by : Nat := 5
abbrev j_find_period : Nat := 6
abbrev j_period : Nat := 7
abbrev j_check_rhythms : Nat := 8
abbrev j_all_tiles : Nat := 9
abbrev j_is_tile : Nat := 10
abbrev j_is_tiling : Nat := 11
abbrev j_count_covers : Nat := 12
abbrev j_check_small : Nat := 13
abbrev j_find_count : Nat := 14
abbrev j_can_tile : Nat := 15
abbrev j_count_tilings : Nat := 16
abbrev j_first_tiling : Nat := 17
abbrev j_needed_rhythms : Nat := 18
abbrev j_grown : Nat := 19
abbrev j_find_canons : Nat := 20
abbrev j_has_canon : Nat := 21
abbrev j_count_canons : Nat := 22
abbrev j__law_drawn : Nat := 23
abbrev j__law_set : Nat := 24
abbrev j__law_rhythm : Nat := 25
abbrev j__law_move : Nat := 26
abbrev j__law_moved : Nat := 27
abbrev j_law : Nat := 28
abbrev j_memo : Nat := 29
def b_is_int : M :=
  .sq (.ret (.band (.isi (.nm 0) .int) (.band (.bnot (.isi (.nm 0) .bool)) (.b1 (.chn .LtE .LtE (.nm 1) (.nm 0) (.nm 2)))))) <|
  .nil
def f_is_int : Fn := ⟨3, ["value", "least", "most"], b_is_int⟩
def b_is_cycle : M :=
  .sq (.ret (.call j_is_int (.cons (.nm 0) (.cons (.ci 1) (.cons (.gi "MAX_CYCLE_beats" 24) .nil))))) <|
  .nil
def f_is_cycle : Fn := ⟨1, ["candidate"], b_is_cycle⟩
def b_has_set : M :=
  .sq (.ifs (.bor (.bnot (.isi (.nm 1) .tuple)) (.b1 (.cmp .Eq (.nm 1) (.tup (.nil))))) (
    .sq (.ret (.cb false)) <|
    .nil) (.nil)) <|
  .sq (.ifs (.bnot (.blt .all (.cons (.lc [("beat", 2)] (.n 2) (.b1 (.nm 1)) .nil (.call j_is_int (.cons (.nm 2) (.cons (.ci 0) (.cons (.bin .Sub (.nm 0) (.ci 1)) .nil))))) .nil))) (
    .sq (.ret (.cb false)) <|
    .nil) (.nil)) <|
  .sq (.ret (.blt .all (.cons (.lc [("one", 3), ("other", 4)] (.t [3, 4]) (.zp (.nm 1) (.slc (.nm 1) (.b1 (.ci 1)) .nil)) .nil (.cmp .Lt (.nm 3) (.nm 4))) .nil))) <|
  .nil
def f_has_set : Fn := ⟨2, ["cycle", "candidate", "beat", "one", "other"], b_has_set⟩
def b_check_cycle : M :=
  .sq (.ifs (.bnot (.call j_is_cycle (.cons (.nm 0) .nil))) (
    .sq (.rse 0) <|
    .nil) (.nil)) <|
  .nil
def f_check_cycle : Fn := ⟨1, ["value"], b_check_cycle⟩
def b_check_set : M :=
  .sq (.xpr (.call j_check_cycle (.cons (.nm 0) .nil))) <|
  .sq (.ifs (.bnot (.call j_has_set (.cons (.nm 0) (.cons (.nm 1) .nil)))) (
    .sq (.rse 1) <|
    .nil) (.nil)) <|
  .nil
def f_check_set : Fn := ⟨2, ["cycle", "value"], b_check_set⟩
def b_move_by : M :=
  .sq (.ret (.blt .tuple (.cons (.blt .sorted (.cons (.lc [("beat", 3)] (.n 3) (.b1 (.nm 1)) .nil (.bin .Mod (.bin .Add (.nm 3) (.nm 2)) (.nm 0))) .nil)) .nil))) <|
  .nil
def f_move_by : Fn := ⟨3, ["cycle", "beats", "number", "beat"], b_move_by⟩
def b_find_period : M :=
  .sq (.ret (.sub (.lc [("part", 2)] (.n 2) (.rg (.ci 1) (.bin .Add (.nm 0) (.ci 1))) (.b1 (.band (.cmp .Eq (.bin .Mod (.nm 0) (.nm 2)) (.ci 0)) (.b1 (.cmp .Eq (.call j_move_by (.cons (.nm 0) (.cons (.nm 1) (.cons (.nm 2) .nil)))) (.nm 1))))) (.nm 2)) (.ci 0))) <|
  .nil
def f_find_period : Fn := ⟨2, ["cycle", "beats", "part"], b_find_period⟩
def b_period : M :=
  .sq (.xpr (.call j_check_set (.cons (.nm 0) (.cons (.nm 1) .nil)))) <|
  .sq (.ret (.call j_find_period (.cons (.nm 0) (.cons (.nm 1) .nil)))) <|
  .nil
def f_period : Fn := ⟨2, ["cycle", "beats"], b_period⟩
def b_check_rhythms : M :=
  .sq (.xpr (.call j_check_cycle (.cons (.nm 0) .nil))) <|
  .sq (.ifs (.bor (.bnot (.isi (.nm 1) .list)) (.b1 (.bnot (.chn .LtE .LtE (.ci 1) (.blt .len (.cons (.nm 1) .nil)) (.gi "MAX_RHYTHMS" 3))))) (
    .sq (.rse 2) <|
    .nil) (.nil)) <|
  .sq (.ifs (.bnot (.blt .all (.cons (.lc [("rhythm", 2)] (.n 2) (.b1 (.nm 1)) .nil (.call j_has_set (.cons (.nm 0) (.cons (.nm 2) .nil)))) .nil))) (
    .sq (.rse 2) <|
    .nil) (.nil)) <|
  .nil
def f_check_rhythms : Fn := ⟨2, ["cycle", "value", "rhythm"], b_check_rhythms⟩
def b_all_tiles : M :=
  .sq (.aso 2 (.lst (.nil))) <|
  .sq (.fr (.t [3, 4]) (.enm (.nm 1)) (
    .sq (.fr (.n 5) (.rg .nil (.call j_find_period (.cons (.nm 0) (.cons (.nm 4) .nil)))) (
      .sq (.app 2 (.tup (.cons (.tup (.cons (.nm 3) (.cons (.nm 5) .nil))) (.cons (.call j_move_by (.cons (.nm 0) (.cons (.nm 4) (.cons (.nm 5) .nil)))) .nil)))) <|
      .nil) [5]) <|
    .nil) [3, 4, 5]) <|
  .sq (.ret (.nm 2)) <|
  .nil
def f_all_tiles : Fn := ⟨2, ["cycle", "rhythms", "found", "index", "rhythm", "start"], b_all_tiles⟩
def b_is_tile : M :=
  .sq (.ifs (.bor (.bnot (.isi (.nm 2) .tuple)) (.bor (.cmp .NotEq (.blt .len (.cons (.nm 2) .nil)) (.ci 2)) (.b1 (.bnot (.call j_is_int (.cons (.sub (.nm 2) (.ci 0)) (.cons (.ci 0) (.cons (.bin .Sub (.blt .len (.cons (.nm 1) .nil)) (.ci 1)) .nil)))))))) (
    .sq (.ret (.cb false)) <|
    .nil) (.nil)) <|
  .sq (.ret (.call j_is_int (.cons (.sub (.nm 2) (.ci 1)) (.cons (.ci 0) (.cons (.bin .Sub (.call j_find_period (.cons (.nm 0) (.cons (.sub (.nm 1) (.sub (.nm 2) (.ci 0))) .nil))) (.ci 1)) .nil))))) <|
  .nil
def f_is_tile : Fn := ⟨3, ["cycle", "rhythms", "value"], b_is_tile⟩
def b_is_tiling : M :=
  .sq (.xpr (.call j_check_rhythms (.cons (.nm 0) (.cons (.nm 1) .nil)))) <|
  .sq (.ifs (.bor (.bnot (.isi (.nm 2) .tuple)) (.b1 (.bnot (.blt .all (.cons (.lc [("tile", 7)] (.n 7) (.b1 (.nm 2)) .nil (.call j_is_tile (.cons (.nm 0) (.cons (.nm 1) (.cons (.nm 7) .nil))))) .nil))))) (
    .sq (.ret (.cb false)) <|
    .nil) (.nil)) <|
  .sq (.ifs (.bnot (.blt .all (.cons (.lc [("one", 8), ("other", 9)] (.t [8, 9]) (.zp (.nm 2) (.slc (.nm 2) (.b1 (.ci 1)) .nil)) .nil (.cmp .Lt (.nm 8) (.nm 9))) .nil))) (
    .sq (.ret (.cb false)) <|
    .nil) (.nil)) <|
  .sq (.asg (.n 3) (.lc2 [("index", 5), ("start", 6), ("beat", 4)] (.t [5, 6]) (.b1 (.nm 2)) [4] (.n 4) (.b1 (.call j_move_by (.cons (.nm 0) (.cons (.sub (.nm 1) (.nm 5)) (.cons (.nm 6) .nil))))) (.nm 4))) <|
  .sq (.ret (.cmp .Eq (.blt .sorted (.cons (.nm 3) .nil)) (.lrg .nil (.nm 0)))) <|
  .nil
def f_is_tiling : Fn := ⟨3, ["cycle", "rhythms", "candidate", "beats", "beat", "index", "start", "tile", "one", "other"], b_is_tiling⟩
def b_count_covers : M :=
  .sq (.ifs (.cmp .Eq (.nm 1) (.tup (.nil))) (
    .sq (.ret (.ci 1)) <|
    .nil) (.nil)) <|
  .sq (.ifs (.cmp .NotIn (.nm 1) (.nm 2)) (
    .sq (.asg (.n 3) (.ci 0)) <|
    .sq (.fr (.t [4, 5]) (.b1 (.nm 0)) (
      .sq (.ifs (.band (.cmp .In (.sub (.nm 1) (.ci 0)) (.nm 5)) (.b1 (.blt .all (.cons (.lc [("beat", 6)] (.n 6) (.b1 (.nm 5)) .nil (.cmp .In (.nm 6) (.nm 1))) .nil)))) (
        .sq (.asg (.n 3) (.bin .Add (.nm 3) (.call j_count_covers (.cons (.nm 0) (.cons (.blt .tuple (.cons (.lc [("beat", 6)] (.n 6) (.b1 (.nm 1)) (.b1 (.cmp .NotIn (.nm 6) (.nm 5))) (.nm 6)) .nil)) (.cons (.nm 2) .nil)))))) <|
        .nil) (.nil)) <|
      .nil) [4, 5]) <|
    .sq (.sti 2 (.nm 1) (.nm 3)) <|
    .nil) (.nil)) <|
  .sq (.ret (.sub (.nm 2) (.nm 1))) <|
  .nil
def f_count_covers : Fn := ⟨3, ["tiles", "left", "known", "total", "name", "beats", "beat"], b_count_covers⟩
def b_check_small : M :=
  .sq (.xpr (.call j_check_rhythms (.cons (.nm 0) (.cons (.nm 1) .nil)))) <|
  .sq (.ifs (.cmp .Gt (.nm 0) (.gi "MAX_CYCLE_several" 12)) (
    .sq (.rse 3) <|
    .nil) (.nil)) <|
  .nil
def f_check_small : Fn := ⟨2, ["cycle", "rhythms"], b_check_small⟩
def b_find_count : M :=
  .sq (.ret (.cc j_memo (.call j_all_tiles (.cons (.nm 0) (.cons (.nm 1) .nil))) (.trg .nil (.nm 0)))) <|
  .nil
def f_find_count : Fn := ⟨2, ["cycle", "rhythms"], b_find_count⟩
def b_can_tile : M :=
  .sq (.xpr (.call j_check_small (.cons (.nm 0) (.cons (.nm 1) .nil)))) <|
  .sq (.ret (.cmp .Gt (.call j_find_count (.cons (.nm 0) (.cons (.nm 1) .nil))) (.ci 0))) <|
  .nil
def f_can_tile : Fn := ⟨2, ["cycle", "rhythms"], b_can_tile⟩
def b_count_tilings : M :=
  .sq (.xpr (.call j_check_small (.cons (.nm 0) (.cons (.nm 1) .nil)))) <|
  .sq (.ret (.call j_find_count (.cons (.nm 0) (.cons (.nm 1) .nil)))) <|
  .nil
def f_count_tilings : Fn := ⟨2, ["cycle", "rhythms"], b_count_tilings⟩
def b_first_tiling : M :=
  .sq (.xpr (.call j_check_small (.cons (.nm 0) (.cons (.nm 1) .nil)))) <|
  .sq (.ifs (.cmp .Eq (.call j_find_count (.cons (.nm 0) (.cons (.nm 1) .nil))) (.ci 0)) (
    .sq (.ret .cn) <|
    .nil) (.nil)) <|
  .sq (.par3 2 3 4 (.call j_all_tiles (.cons (.nm 0) (.cons (.nm 1) .nil))) (.trg .nil (.nm 0)) (.tup (.nil))) <|
  .sq (.whl (.band (.cmp .NotEq (.nm 2) (.lst (.nil))) (.b1 (.cmp .NotEq (.nm 3) (.tup (.nil))))) (
    .sq (.asg (.t [6, 7]) (.sub (.nm 2) (.ci 0))) <|
    .sq (.asg (.n 5) (.blt .tuple (.cons (.lc [("beat", 8)] (.n 8) (.b1 (.nm 3)) (.b1 (.cmp .NotIn (.nm 8) (.nm 7))) (.nm 8)) .nil))) <|
    .sq (.asg (.n 2) (.slc (.nm 2) (.b1 (.ci 1)) .nil)) <|
    .sq (.ifs (.band (.cmp .Eq (.blt .len (.cons (.nm 5) .nil)) (.bin .Sub (.blt .len (.cons (.nm 3) .nil)) (.blt .len (.cons (.nm 7) .nil)))) (.b1 (.cmp .Gt (.cc j_memo (.nm 2) (.nm 5)) (.ci 0)))) (
      .sq (.par 4 3 (.bin .Add (.nm 4) (.tup (.cons (.nm 6) .nil))) (.nm 5)) <|
      .nil) (.nil)) <|
    .nil)) <|
  .sq (.ret (.nm 4)) <|
  .nil
def f_first_tiling : Fn := ⟨2, ["cycle", "rhythms", "tiles", "left", "found", "rest", "name", "beats", "beat"], b_first_tiling⟩
def b_needed_rhythms : M :=
  .sq (.xpr (.call j_check_small (.cons (.nm 0) (.cons (.nm 1) .nil)))) <|
  .sq (.ifs (.cmp .Eq (.call j_find_count (.cons (.nm 0) (.cons (.nm 1) .nil))) (.ci 0)) (
    .sq (.ret .cn) <|
    .nil) (.nil)) <|
  .sq (.aso 2 (.lst (.nil))) <|
  .sq (.fr (.n 3) (.rg .nil (.blt .len (.cons (.nm 1) .nil))) (
    .sq (.asg (.n 4) (.lc [("tile", 5)] (.n 5) (.b1 (.call j_all_tiles (.cons (.nm 0) (.cons (.nm 1) .nil)))) (.b1 (.cmp .NotEq (.sub (.sub (.nm 5) (.ci 0)) (.ci 0)) (.nm 3))) (.nm 5))) <|
    .sq (.ifs (.cmp .Eq (.cc j_memo (.nm 4) (.trg .nil (.nm 0))) (.ci 0)) (
      .sq (.app 2 (.nm 3)) <|
      .nil) (.nil)) <|
    .nil) [3, 4]) <|
  .sq (.ret (.nm 2)) <|
  .nil
def f_needed_rhythms : Fn := ⟨2, ["cycle", "rhythms", "found", "index", "tiles", "tile"], b_needed_rhythms⟩
def b_grown : M :=
  .sq (.asg (.n 4) (.lc [("beat", 6)] (.n 6) (.rg .nil (.nm 0)) (.b1 (.bnot (.sub (.nm 3) (.nm 6)))) (.nm 6))) <|
  .sq (.ifs (.cmp .Eq (.nm 4) (.lst (.nil))) (
    .sq (.ret (.lst (.cons (.blt .tuple (.cons (.blt .sorted (.cons (.nm 2) .nil)) .nil)) .nil))) <|
    .nil) (.nil)) <|
  .sq (.aso 5 (.lst (.nil))) <|
  .sq (.fr (.n 6) (.b1 (.nm 1)) (
    .sq (.asg (.n 7) (.bin .Mod (.bin .Sub (.sub (.nm 4) (.ci 0)) (.nm 6)) (.nm 0))) <|
    .sq (.asg (.n 8) (.lc [("other", 10)] (.n 10) (.b1 (.nm 1)) .nil (.bin .Mod (.bin .Add (.nm 7) (.nm 10)) (.nm 0)))) <|
    .sq (.ifs (.bnot (.blt .any (.cons (.lc [("place", 11)] (.n 11) (.b1 (.nm 8)) .nil (.sub (.nm 3) (.nm 11))) .nil))) (
      .sq (.asg (.n 9) (.lc [("place", 11)] (.n 11) (.rg .nil (.nm 0)) .nil (.bor (.sub (.nm 3) (.nm 11)) (.b1 (.cmp .In (.nm 11) (.nm 8)))))) <|
      .sq (.ext 5 (.call j_grown (.cons (.nm 0) (.cons (.nm 1) (.cons (.bin .Add (.nm 2) (.tup (.cons (.nm 7) .nil))) (.cons (.nm 9) .nil)))))) <|
      .nil) (.nil)) <|
    .nil) [6, 7, 8, 9]) <|
  .sq (.ret (.nm 5)) <|
  .nil
def f_grown : Fn := ⟨4, ["cycle", "rhythm", "starts", "taken", "open_beats", "found", "beat", "start", "places", "more", "other", "place"], b_grown⟩
def b_find_canons : M :=
  .sq (.ifs (.cmp .NotEq (.bin .Mod (.nm 0) (.blt .len (.cons (.nm 1) .nil))) (.ci 0)) (
    .sq (.ret (.lst (.nil))) <|
    .nil) (.nil)) <|
  .sq (.ret (.blt .sorted (.cons (.call j_grown (.cons (.nm 0) (.cons (.nm 1) (.cons (.tup (.cons (.ci 0) .nil)) (.cons (.lc [("beat", 2)] (.n 2) (.rg .nil (.nm 0)) .nil (.cmp .In (.nm 2) (.nm 1))) .nil))))) .nil))) <|
  .nil
def f_find_canons : Fn := ⟨2, ["cycle", "rhythm", "beat"], b_find_canons⟩
def b_has_canon : M :=
  .sq (.xpr (.call j_check_set (.cons (.nm 0) (.cons (.nm 1) .nil)))) <|
  .sq (.ret (.cmp .NotEq (.call j_find_canons (.cons (.nm 0) (.cons (.nm 1) .nil))) (.lst (.nil)))) <|
  .nil
def f_has_canon : Fn := ⟨2, ["cycle", "rhythm"], b_has_canon⟩
def b_count_canons : M :=
  .sq (.xpr (.call j_check_set (.cons (.nm 0) (.cons (.nm 1) .nil)))) <|
  .sq (.ret (.bin .Mult (.blt .len (.cons (.call j_find_canons (.cons (.nm 0) (.cons (.nm 1) .nil))) .nil)) (.blt .len (.cons (.nm 1) .nil)))) <|
  .nil
def f_count_canons : Fn := ⟨2, ["cycle", "rhythm"], b_count_canons⟩
def b__law_drawn : M :=
  .sq (.asg (.n 3) (.bin .Mult (.ci 7) (.nm 1))) <|
  .sq (.ifs (.cmp .NotEq (.nm 0) (.lst (.nil))) (
    .sq (.asg (.n 3) (.sub (.nm 0) (.bin .Mod (.nm 1) (.blt .len (.cons (.nm 0) .nil))))) <|
    .sq (.asg (.n 4) (.bin .FloorDiv (.nm 1) (.blt .len (.cons (.nm 0) .nil)))) <|
    .sq (.ifs (.band (.cmp .GtE (.nm 3) (.bin .Pow (.ci 10) (.ci 18))) (.b1 (.cmp .Lt (.nm 4) (.ci 60)))) (
      .sq (.asg (.n 5) (.bin .FloorDiv (.nm 3) (.bin .Pow (.ci 10) (.ci 18)))) <|
      .sq (.whl (.band (.cmp .Gt (.nm 5) (.ci 0)) (.b1 (.cmp .Gt (.nm 4) (.ci 0)))) (
        .sq (.asg (.n 5) (.bin .FloorDiv (.nm 5) (.ci 1000000))) <|
        .sq (.asg (.n 4) (.bin .Sub (.nm 4) (.ci 1))) <|
        .nil)) <|
      .sq (.ifs (.cmp .Gt (.nm 5) (.ci 0)) (
        .sq (.ret (.bin .Mod (.bin .Mod (.nm 5) (.ci 1000000)) (.nm 2))) <|
        .nil) (.nil)) <|
      .nil) (.nil)) <|
    .sq (.asg (.n 3) (.bin .Add (.nm 3) (.bin .Mult (.ci 6553) (.bin .FloorDiv (.nm 1) (.blt .len (.cons (.nm 0) .nil)))))) <|
    .nil) (.nil)) <|
  .sq (.asg (.n 3) (.bin .Mod (.bin .Add (.bin .Mult (.bin .Mod (.nm 3) (.ci 2147483563)) (.ci 69069)) (.bin .Mult (.ci 104723) (.bin .Add (.nm 1) (.ci 1)))) (.ci 2147483563))) <|
  .sq (.asg (.n 3) (.bin .Mod (.bin .Add (.bin .Mult (.nm 3) (.nm 3)) (.bin .FloorDiv (.nm 3) (.ci 3))) (.ci 2147483399))) <|
  .sq (.ret (.bin .Mod (.bin .FloorDiv (.bin .Mod (.bin .Add (.bin .Mult (.nm 3) (.nm 3)) (.bin .FloorDiv (.nm 3) (.ci 7))) (.ci 2147483647)) (.ci 11)) (.nm 2))) <|
  .nil
def f__law_drawn : Fn := ⟨3, ["_law_script", "_law_k", "_law_many", "_law_cell", "_law_turn", "_law_rest"], b__law_drawn⟩
def b__law_set : M :=
  .sq (.asg (.n 3) (.lc [("_law_beat", 4)] (.n 4) (.rg .nil (.nm 2)) (.b1 (.cmp .Eq (.call j__law_drawn (.cons (.nm 0) (.cons (.bin .Add (.bin .Add (.nm 1) (.ci 1)) (.nm 4)) (.cons (.ci 3) .nil)))) (.ci 0))) (.nm 4))) <|
  .sq (.ret (.ite (.cmp .NotEq (.nm 3) (.lst (.nil))) (.blt .tuple (.cons (.nm 3) .nil)) (.tup (.cons (.call j__law_drawn (.cons (.nm 0) (.cons (.nm 1) (.cons (.nm 2) .nil)))) .nil)))) <|
  .nil
def f__law_set : Fn := ⟨3, ["_law_script", "_law_at", "_law_cycle", "_law_found", "_law_beat"], b__law_set⟩
def b__law_rhythm : M :=
  .sq (.asg (.n 3) (.lc [("_law_size", 4)] (.n 4) (.rg (.ci 1) (.bin .Add (.nm 2) (.ci 1))) (.b1 (.cmp .Eq (.bin .Mod (.nm 2) (.nm 4)) (.ci 0))) (.nm 4))) <|
  .sq (.asg (.n 4) (.sub (.nm 3) (.call j__law_drawn (.cons (.nm 0) (.cons (.nm 1) (.cons (.blt .len (.cons (.nm 3) .nil)) .nil)))))) <|
  .sq (.aso 5 (.lst (.nil))) <|
  .sq (.fr (.n 6) (.rg .nil (.nm 4)) (
    .sq (.app 5 (.bin .Mod (.bin .Add (.nm 6) (.bin .Mult (.nm 4) (.call j__law_drawn (.cons (.nm 0) (.cons (.bin .Add (.bin .Add (.nm 1) (.ci 1)) (.nm 6)) (.cons (.bin .FloorDiv (.nm 2) (.nm 4)) .nil)))))) (.nm 2))) <|
    .nil) [6]) <|
  .sq (.ret (.ite (.cmp .Eq (.call j__law_drawn (.cons (.nm 0) (.cons (.bin .Add (.nm 1) (.ci 25)) (.cons (.ci 4) .nil)))) (.ci 0)) (.call j__law_set (.cons (.nm 0) (.cons (.nm 1) (.cons (.nm 2) .nil)))) (.blt .tuple (.cons (.blt .sorted (.cons (.nm 5) .nil)) .nil)))) <|
  .nil
def f__law_rhythm : Fn := ⟨3, ["_law_script", "_law_at", "_law_cycle", "_law_part", "_law_size", "_law_found", "_law_beat"], b__law_rhythm⟩
def b__law_move : M :=
  .sq (.ret (.blt .tuple (.cons (.blt .sorted (.cons (.lc [("_law_beat", 3)] (.n 3) (.b1 (.nm 1)) .nil (.bin .Mod (.bin .Add (.nm 3) (.nm 2)) (.nm 0))) .nil)) .nil))) <|
  .nil
def f__law_move : Fn := ⟨3, ["_law_cycle", "_law_beats", "_law_number", "_law_beat"], b__law_move⟩
def b__law_moved : M :=
  .sq (.asg (.t [6, 7]) (.nm 2)) <|
  .sq (.asg (.n 4) (.call j__law_drawn (.cons (.nm 0) (.cons (.ci 2) (.cons (.nm 1) .nil))))) <|
  .sq (.ifs (.cmp .NotEq (.call j_count_tilings (.cons (.nm 1) (.cons (.lst (.cons (.call j__law_move (.cons (.nm 1) (.cons (.nm 6) (.cons (.nm 4) .nil)))) (.cons (.nm 7) .nil))) .nil))) (.nm 3)) (
    .sq (.ret (.cb false)) <|
    .nil) (.nil)) <|
  .sq (.ifs (.cmp .NotEq (.call j_count_tilings (.cons (.nm 1) (.cons (.rev (.nm 2)) .nil))) (.nm 3)) (
    .sq (.ret (.cb false)) <|
    .nil) (.nil)) <|
  .sq (.asg (.n 5) (.lst (.cons (.tup (.cons (.ci 0) .nil)) (.cons (.nm 6) .nil)))) <|
  .sq (.ifs (.cmp .IsNot (.call j_can_tile (.cons (.nm 1) (.cons (.nm 5) .nil))) (.cb true)) (
    .sq (.ret (.cb false)) <|
    .nil) (.nil)) <|
  .sq (.ifs (.cmp .IsNot (.call j_is_tiling (.cons (.nm 1) (.cons (.nm 5) (.cons (.blt .tuple (.cons (.lc [("_law_start", 8)] (.n 8) (.rg .nil (.nm 1)) .nil (.tup (.cons (.ci 0) (.cons (.nm 8) .nil)))) .nil)) .nil)))) (.cb true)) (
    .sq (.ret (.cb false)) <|
    .nil) (.nil)) <|
  .sq (.ifs (.cmp .NotEq (.call j_count_tilings (.cons (.nm 1) (.cons (.lst (.cons (.tup (.cons (.ci 0) .nil)) .nil)) .nil))) (.ci 1)) (
    .sq (.ret (.cb false)) <|
    .nil) (.nil)) <|
  .sq (.ifs (.cmp .NotEq (.cmp .Lt (.nm 1) (.ci 3)) (.ite (.cmp .Gt (.nm 1) (.ci 1)) (.cmp .Lt (.call j_count_tilings (.cons (.nm 1) (.cons (.lst (.cons (.tup (.cons (.ci 0) .nil)) (.cons (.tup (.cons (.ci 0) (.cons (.ci 1) .nil))) .nil))) .nil))) (.ci 3)) (.cb true))) (
    .sq (.ret (.cb false)) <|
    .nil) (.nil)) <|
  .sq (.ifs (.cmp .NotEq (.call j_needed_rhythms (.cons (.nm 1) (.cons (.lst (.cons (.tup (.cons (.ci 0) .nil)) .nil)) .nil))) (.lst (.cons (.ci 0) .nil))) (
    .sq (.ret (.cb false)) <|
    .nil) (.nil)) <|
  .sq (.ret (.cmp .Eq (.call j_first_tiling (.cons (.nm 1) (.cons (.lst (.cons (.trg .nil (.nm 1)) .nil)) .nil))) (.tup (.cons (.tup (.cons (.ci 0) (.cons (.ci 0) .nil))) .nil)))) <|
  .nil
def f__law_moved : Fn := ⟨4, ["_law_script", "_law_cycle", "_law_rhythms", "_law_many", "_law_number", "_law_single", "_law_one", "_law_other", "_law_start"], b__law_moved⟩
def b_law : M :=
  .sq (.asg (.n 1) (.bin .Add (.ci 1) (.call j__law_drawn (.cons (.nm 0) (.cons (.ci 1) (.cons (.ci 10) .nil)))))) <|
  .sq (.par 4 5 (.call j__law_rhythm (.cons (.nm 0) (.cons (.ci 50) (.cons (.nm 1) .nil)))) (.call j__law_set (.cons (.nm 0) (.cons (.ci 90) (.cons (.nm 1) .nil))))) <|
  .sq (.asg (.n 2) (.lst (.cons (.nm 4) (.cons (.nm 5) .nil)))) <|
  .sq (.ifs (.cmp .NotEq (.call j_can_tile (.cons (.nm 1) (.cons (.lst (.cons (.nm 4) .nil)) .nil))) (.call j_has_canon (.cons (.nm 1) (.cons (.nm 4) .nil)))) (
    .sq (.ret (.cb false)) <|
    .nil) (.nil)) <|
  .sq (.ifs (.cmp .Lt (.call j_count_tilings (.cons (.nm 1) (.cons (.nm 2) .nil))) (.call j_count_tilings (.cons (.nm 1) (.cons (.lst (.cons (.nm 4) .nil)) .nil)))) (
    .sq (.ret (.cb false)) <|
    .nil) (.nil)) <|
  .sq (.ifs (.band (.cmp .Eq (.call j_period (.cons (.nm 1) (.cons (.nm 4) .nil))) (.nm 1)) (.b1 (.cmp .NotEq (.call j_count_tilings (.cons (.nm 1) (.cons (.lst (.cons (.nm 4) .nil)) .nil))) (.call j_count_canons (.cons (.nm 1) (.cons (.nm 4) .nil)))))) (
    .sq (.ret (.cb false)) <|
    .nil) (.nil)) <|
  .sq (.ifs (.cmp .Gt (.call j_count_tilings (.cons (.nm 1) (.cons (.lst (.cons (.nm 4) .nil)) .nil))) (.call j_count_canons (.cons (.nm 1) (.cons (.nm 4) .nil)))) (
    .sq (.ret (.cb false)) <|
    .nil) (.nil)) <|
  .sq (.asg (.t [6, 7]) (.tup (.cons (.call j_count_tilings (.cons (.nm 1) (.cons (.nm 2) .nil))) (.cons (.call j_first_tiling (.cons (.nm 1) (.cons (.nm 2) .nil))) .nil)))) <|
  .sq (.asg (.n 3) (.call j_needed_rhythms (.cons (.nm 1) (.cons (.nm 2) .nil)))) <|
  .sq (.ifs (.bor (.cmp .NotEq (.cmp .Is (.nm 7) .cn) (.cmp .Eq (.nm 6) (.ci 0))) (.b1 (.cmp .NotEq (.cmp .Is (.nm 3) .cn) (.cmp .Eq (.nm 6) (.ci 0))))) (
    .sq (.ret (.cb false)) <|
    .nil) (.nil)) <|
  .sq (.ifs (.cmp .NotEq (.call j_can_tile (.cons (.nm 1) (.cons (.nm 2) .nil))) (.cmp .Gt (.nm 6) (.ci 0))) (
    .sq (.ret (.cb false)) <|
    .nil) (.nil)) <|
  .sq (.ifs (.cmp .IsNot (.nm 7) .cn) (
    .sq (.ifs (.cmp .IsNot (.call j_is_tiling (.cons (.nm 1) (.cons (.nm 2) (.cons (.nm 7) .nil)))) (.cb true)) (
      .sq (.ret (.cb false)) <|
      .nil) (.nil)) <|
    .sq (.ifs (.cmp .NotEq (.lc [("_law_index", 8)] (.n 8) (.b1 (.nm 3)) (.b1 (.cmp .NotIn (.nm 8) (.lc [("_law_name", 10), ("_law_start", 9)] (.t [10, 9]) (.b1 (.nm 7)) .nil (.nm 10)))) (.nm 8)) (.lst (.nil))) (
      .sq (.ret (.cb false)) <|
      .nil) (.nil)) <|
    .sq (.ifs (.cmp .NotEq (.cmp .In (.ci 0) (.nm 3)) (.bnot (.call j_can_tile (.cons (.nm 1) (.cons (.lst (.cons (.nm 5) .nil)) .nil))))) (
      .sq (.ret (.cb false)) <|
      .nil) (.nil)) <|
    .sq (.ifs (.cmp .NotEq (.cmp .In (.ci 1) (.nm 3)) (.bnot (.call j_can_tile (.cons (.nm 1) (.cons (.lst (.cons (.nm 4) .nil)) .nil))))) (
      .sq (.ret (.cb false)) <|
      .nil) (.nil)) <|
    .sq (.ifs (.cmp .NotEq (.blt .sum (.cons (.lc [("_law_index", 8), ("_law_start", 9)] (.t [8, 9]) (.b1 (.nm 7)) .nil (.blt .len (.cons (.sub (.nm 2) (.nm 8)) .nil))) .nil)) (.nm 1)) (
      .sq (.ret (.cb false)) <|
      .nil) (.nil)) <|
    .nil) (.nil)) <|
  .sq (.ret (.call j__law_moved (.cons (.nm 0) (.cons (.nm 1) (.cons (.nm 2) (.cons (.nm 6) .nil)))))) <|
  .nil
def f_law : Fn := ⟨1, ["_law_script", "_law_cycle", "_law_rhythms", "_law_needed", "_law_one", "_law_other", "_law_many", "_law_told", "_law_index", "_law_start", "_law_name"], b_law⟩
def vf : List Fn := [memoF 29]
def fs : List Fn := [f_is_int, f_is_cycle, f_has_set, f_check_cycle, f_check_set, f_move_by, f_find_period, f_period, f_check_rhythms, f_all_tiles, f_is_tile, f_is_tiling, f_count_covers, f_check_small, f_find_count, f_can_tile, f_count_tilings, f_first_tiling, f_needed_rhythms, f_grown, f_find_canons, f_has_canon, f_count_canons, f__law_drawn, f__law_set, f__law_rhythm, f__law_move, f__law_moved, f_law, memoF 29]
theorem run_memo (n : Nat) (x0 x1 : D) : run fs (n + 1) j_memo [x0, x1] = fin (evS (run fs n) (memoV j_memo) [.py x0, .py x1, .un, .un, .un, .un, .un]) := rfl
theorem run_is_int (n : Nat) (x0 x1 x2 : D) : run fs (n + 1) j_is_int [x0, x1, x2] = fin (evS (run fs n) b_is_int [.py x0, .py x1, .py x2]) := rfl
theorem run_is_cycle (n : Nat) (x0 : D) : run fs (n + 1) j_is_cycle [x0] = fin (evS (run fs n) b_is_cycle [.py x0]) := rfl
theorem run_has_set (n : Nat) (x0 x1 : D) : run fs (n + 1) j_has_set [x0, x1] = fin (evS (run fs n) b_has_set [.py x0, .py x1, .un, .un, .un]) := rfl
theorem run_check_cycle (n : Nat) (x0 : D) : run fs (n + 1) j_check_cycle [x0] = fin (evS (run fs n) b_check_cycle [.py x0]) := rfl
theorem run_check_set (n : Nat) (x0 x1 : D) : run fs (n + 1) j_check_set [x0, x1] = fin (evS (run fs n) b_check_set [.py x0, .py x1]) := rfl
theorem run_move_by (n : Nat) (x0 x1 x2 : D) : run fs (n + 1) j_move_by [x0, x1, x2] = fin (evS (run fs n) b_move_by [.py x0, .py x1, .py x2, .un]) := rfl
theorem run_find_period (n : Nat) (x0 x1 : D) : run fs (n + 1) j_find_period [x0, x1] = fin (evS (run fs n) b_find_period [.py x0, .py x1, .un]) := rfl
theorem run_period (n : Nat) (x0 x1 : D) : run fs (n + 1) j_period [x0, x1] = fin (evS (run fs n) b_period [.py x0, .py x1]) := rfl
theorem run_check_rhythms (n : Nat) (x0 x1 : D) : run fs (n + 1) j_check_rhythms [x0, x1] = fin (evS (run fs n) b_check_rhythms [.py x0, .py x1, .un]) := rfl
theorem run_all_tiles (n : Nat) (x0 x1 : D) : run fs (n + 1) j_all_tiles [x0, x1] = fin (evS (run fs n) b_all_tiles [.py x0, .py x1, .un, .un, .un, .un]) := rfl
theorem run_is_tile (n : Nat) (x0 x1 x2 : D) : run fs (n + 1) j_is_tile [x0, x1, x2] = fin (evS (run fs n) b_is_tile [.py x0, .py x1, .py x2]) := rfl
theorem run_is_tiling (n : Nat) (x0 x1 x2 : D) : run fs (n + 1) j_is_tiling [x0, x1, x2] = fin (evS (run fs n) b_is_tiling [.py x0, .py x1, .py x2, .un, .un, .un, .un, .un, .un, .un]) := rfl
theorem run_count_covers (n : Nat) (x0 x1 x2 : D) : run fs (n + 1) j_count_covers [x0, x1, x2] = fin (evS (run fs n) b_count_covers [.py x0, .py x1, .py x2, .un, .un, .un, .un]) := rfl
theorem run_check_small (n : Nat) (x0 x1 : D) : run fs (n + 1) j_check_small [x0, x1] = fin (evS (run fs n) b_check_small [.py x0, .py x1]) := rfl
theorem run_find_count (n : Nat) (x0 x1 : D) : run fs (n + 1) j_find_count [x0, x1] = fin (evS (run fs n) b_find_count [.py x0, .py x1]) := rfl
theorem run_can_tile (n : Nat) (x0 x1 : D) : run fs (n + 1) j_can_tile [x0, x1] = fin (evS (run fs n) b_can_tile [.py x0, .py x1]) := rfl
theorem run_count_tilings (n : Nat) (x0 x1 : D) : run fs (n + 1) j_count_tilings [x0, x1] = fin (evS (run fs n) b_count_tilings [.py x0, .py x1]) := rfl
theorem run_first_tiling (n : Nat) (x0 x1 : D) : run fs (n + 1) j_first_tiling [x0, x1] = fin (evS (run fs n) b_first_tiling [.py x0, .py x1, .un, .un, .un, .un, .un, .un, .un]) := rfl
theorem run_needed_rhythms (n : Nat) (x0 x1 : D) : run fs (n + 1) j_needed_rhythms [x0, x1] = fin (evS (run fs n) b_needed_rhythms [.py x0, .py x1, .un, .un, .un, .un]) := rfl
theorem run_grown (n : Nat) (x0 x1 x2 x3 : D) : run fs (n + 1) j_grown [x0, x1, x2, x3] = fin (evS (run fs n) b_grown [.py x0, .py x1, .py x2, .py x3, .un, .un, .un, .un, .un, .un, .un, .un]) := rfl
theorem run_find_canons (n : Nat) (x0 x1 : D) : run fs (n + 1) j_find_canons [x0, x1] = fin (evS (run fs n) b_find_canons [.py x0, .py x1, .un]) := rfl
theorem run_has_canon (n : Nat) (x0 x1 : D) : run fs (n + 1) j_has_canon [x0, x1] = fin (evS (run fs n) b_has_canon [.py x0, .py x1]) := rfl
theorem run_count_canons (n : Nat) (x0 x1 : D) : run fs (n + 1) j_count_canons [x0, x1] = fin (evS (run fs n) b_count_canons [.py x0, .py x1]) := rfl
theorem run__law_drawn (n : Nat) (x0 x1 x2 : D) : run fs (n + 1) j__law_drawn [x0, x1, x2] = fin (evS (run fs n) b__law_drawn [.py x0, .py x1, .py x2, .un, .un, .un]) := rfl
theorem run__law_set (n : Nat) (x0 x1 x2 : D) : run fs (n + 1) j__law_set [x0, x1, x2] = fin (evS (run fs n) b__law_set [.py x0, .py x1, .py x2, .un, .un]) := rfl
theorem run__law_rhythm (n : Nat) (x0 x1 x2 : D) : run fs (n + 1) j__law_rhythm [x0, x1, x2] = fin (evS (run fs n) b__law_rhythm [.py x0, .py x1, .py x2, .un, .un, .un, .un]) := rfl
theorem run__law_move (n : Nat) (x0 x1 x2 : D) : run fs (n + 1) j__law_move [x0, x1, x2] = fin (evS (run fs n) b__law_move [.py x0, .py x1, .py x2, .un]) := rfl
theorem run__law_moved (n : Nat) (x0 x1 x2 x3 : D) : run fs (n + 1) j__law_moved [x0, x1, x2, x3] = fin (evS (run fs n) b__law_moved [.py x0, .py x1, .py x2, .py x3, .un, .un, .un, .un, .un]) := rfl
theorem run_law (n : Nat) (x0 : D) : run fs (n + 1) j_law [x0] = fin (evS (run fs n) b_law [.py x0, .un, .un, .un, .un, .un, .un, .un, .un, .un, .un]) := rfl
end K54

namespace K54
open PySem PySem.Spec PyProof.Rows L2 Mz
def top (i : Nat) : Stmt := PySem.Challenge.pw_clapcanons_k54_whole_several.main.body.getD i (.Pass ⟨0, 0, 0, 0⟩)
def tabs : List Tb := [⟨"is_int", top 8, ["value", "least", "most"], f_is_int⟩,
  ⟨"is_cycle", top 9, ["candidate"], f_is_cycle⟩,
  ⟨"has_set", top 10, ["cycle", "candidate"], f_has_set⟩,
  ⟨"check_cycle", top 11, ["value"], f_check_cycle⟩,
  ⟨"check_set", top 12, ["cycle", "value"], f_check_set⟩,
  ⟨"move_by", top 13, ["cycle", "beats", "number"], f_move_by⟩,
  ⟨"find_period", top 14, ["cycle", "beats"], f_find_period⟩,
  ⟨"period", top 15, ["cycle", "beats"], f_period⟩,
  ⟨"check_rhythms", top 19, ["cycle", "value"], f_check_rhythms⟩,
  ⟨"all_tiles", top 20, ["cycle", "rhythms"], f_all_tiles⟩,
  ⟨"is_tile", top 21, ["cycle", "rhythms", "value"], f_is_tile⟩,
  ⟨"is_tiling", top 22, ["cycle", "rhythms", "candidate"], f_is_tiling⟩,
  ⟨"count_covers", top 23, ["tiles", "left", "known"], f_count_covers⟩,
  ⟨"check_small", top 24, ["cycle", "rhythms"], f_check_small⟩,
  ⟨"find_count", top 25, ["cycle", "rhythms"], f_find_count⟩,
  ⟨"can_tile", top 26, ["cycle", "rhythms"], f_can_tile⟩,
  ⟨"count_tilings", top 27, ["cycle", "rhythms"], f_count_tilings⟩,
  ⟨"first_tiling", top 28, ["cycle", "rhythms"], f_first_tiling⟩,
  ⟨"needed_rhythms", top 29, ["cycle", "rhythms"], f_needed_rhythms⟩,
  ⟨"grown", top 31, ["cycle", "rhythm", "starts", "taken"], f_grown⟩,
  ⟨"find_canons", top 32, ["cycle", "rhythm"], f_find_canons⟩,
  ⟨"has_canon", top 33, ["cycle", "rhythm"], f_has_canon⟩,
  ⟨"count_canons", top 34, ["cycle", "rhythm"], f_count_canons⟩,
  ⟨"_law_drawn", top 36, ["_law_script", "_law_k", "_law_many"], f__law_drawn⟩,
  ⟨"_law_set", top 37, ["_law_script", "_law_at", "_law_cycle"], f__law_set⟩,
  ⟨"_law_rhythm", top 38, ["_law_script", "_law_at", "_law_cycle"], f__law_rhythm⟩,
  ⟨"_law_move", top 39, ["_law_cycle", "_law_beats", "_law_number"], f__law_move⟩,
  ⟨"_law_moved", top 40, ["_law_script", "_law_cycle", "_law_rhythms", "_law_many"], f__law_moved⟩,
  ⟨"law", top 41, ["_law_script"], f_law⟩]
def g : Pg := { fn := ["is_int", "is_cycle", "has_set", "check_cycle", "check_set", "move_by", "find_period", "period", "check_rhythms", "all_tiles", "is_tile", "is_tiling", "count_covers", "check_small", "find_count", "can_tile", "count_tilings", "first_tiling", "needed_rhythms", "grown", "find_canons", "has_canon", "count_canons", "_law_drawn", "_law_set", "_law_rhythm", "_law_move", "_law_moved", "law"], cs := [("MAX_CYCLE_beats", 24), ("MAX_RHYTHMS", 3), ("MAX_CYCLE_several", 12)], ct := [], ex := ["InvalidCycle", "InvalidSet", "InvalidRhythms", "TooLarge"], hx := false, mf := some (29, "count_covers") }
theorem fs_eq : fs = tabs.map Tb.fn ++ vf := rfl
theorem mfo : MfOk g tabs (tabs.map Tb.fn ++ vf) := ⟨fun j x e => by
  have e2 := Option.some.inj e
  have h1 : 29 = j := congrArg Prod.fst e2
  have h2 : ("count_covers" : Str) = x := congrArg Prod.snd e2
  subst h1 h2
  exact ⟨12, ⟨"count_covers", top 23, ["tiles", "left", "known"], f_count_covers⟩, rfl, rfl, rfl, ⟨rfl, rfl, rfl, by decide +kernel, rfl, by decide +kernel, by decide +kernel⟩, rfl, by decide +kernel⟩⟩
theorem ok_is_int : TbOk g ⟨"is_int", top 8, ["value", "least", "most"], f_is_int⟩ := ⟨⟨rfl, rfl, rfl, by decide +kernel, rfl, by decide +kernel, by decide +kernel⟩, rfl, by decide +kernel, fun _ _ _ _ _ _ us hl => match us, hl with | [_, _, _], _ => rfl⟩
theorem ok_is_cycle : TbOk g ⟨"is_cycle", top 9, ["candidate"], f_is_cycle⟩ := ⟨⟨rfl, rfl, rfl, by decide +kernel, rfl, by decide +kernel, by decide +kernel⟩, rfl, by decide +kernel, fun _ _ _ _ _ _ us hl => match us, hl with | [_], _ => rfl⟩
theorem ok_has_set : TbOk g ⟨"has_set", top 10, ["cycle", "candidate"], f_has_set⟩ := ⟨⟨rfl, rfl, rfl, by decide +kernel, rfl, by decide +kernel, by decide +kernel⟩, rfl, by decide +kernel, fun _ _ _ _ _ _ us hl => match us, hl with | [_, _], _ => rfl⟩
theorem ok_check_cycle : TbOk g ⟨"check_cycle", top 11, ["value"], f_check_cycle⟩ := ⟨⟨rfl, rfl, rfl, by decide +kernel, rfl, by decide +kernel, by decide +kernel⟩, rfl, by decide +kernel, fun _ _ _ _ _ _ us hl => match us, hl with | [_], _ => rfl⟩
theorem ok_check_set : TbOk g ⟨"check_set", top 12, ["cycle", "value"], f_check_set⟩ := ⟨⟨rfl, rfl, rfl, by decide +kernel, rfl, by decide +kernel, by decide +kernel⟩, rfl, by decide +kernel, fun _ _ _ _ _ _ us hl => match us, hl with | [_, _], _ => rfl⟩
theorem ok_move_by : TbOk g ⟨"move_by", top 13, ["cycle", "beats", "number"], f_move_by⟩ := ⟨⟨rfl, rfl, rfl, by decide +kernel, rfl, by decide +kernel, by decide +kernel⟩, rfl, by decide +kernel, fun _ _ _ _ _ _ us hl => match us, hl with | [_, _, _], _ => rfl⟩
theorem ok_find_period : TbOk g ⟨"find_period", top 14, ["cycle", "beats"], f_find_period⟩ := ⟨⟨rfl, rfl, rfl, by decide +kernel, rfl, by decide +kernel, by decide +kernel⟩, rfl, by decide +kernel, fun _ _ _ _ _ _ us hl => match us, hl with | [_, _], _ => rfl⟩
theorem ok_period : TbOk g ⟨"period", top 15, ["cycle", "beats"], f_period⟩ := ⟨⟨rfl, rfl, rfl, by decide +kernel, rfl, by decide +kernel, by decide +kernel⟩, rfl, by decide +kernel, fun _ _ _ _ _ _ us hl => match us, hl with | [_, _], _ => rfl⟩
theorem ok_check_rhythms : TbOk g ⟨"check_rhythms", top 19, ["cycle", "value"], f_check_rhythms⟩ := ⟨⟨rfl, rfl, rfl, by decide +kernel, rfl, by decide +kernel, by decide +kernel⟩, rfl, by decide +kernel, fun _ _ _ _ _ _ us hl => match us, hl with | [_, _], _ => rfl⟩
theorem ok_all_tiles : TbOk g ⟨"all_tiles", top 20, ["cycle", "rhythms"], f_all_tiles⟩ := ⟨⟨rfl, rfl, rfl, by decide +kernel, rfl, by decide +kernel, by decide +kernel⟩, rfl, by decide +kernel, fun _ _ _ _ _ _ us hl => match us, hl with | [_, _], _ => rfl⟩
theorem ok_is_tile : TbOk g ⟨"is_tile", top 21, ["cycle", "rhythms", "value"], f_is_tile⟩ := ⟨⟨rfl, rfl, rfl, by decide +kernel, rfl, by decide +kernel, by decide +kernel⟩, rfl, by decide +kernel, fun _ _ _ _ _ _ us hl => match us, hl with | [_, _, _], _ => rfl⟩
theorem ok_is_tiling : TbOk g ⟨"is_tiling", top 22, ["cycle", "rhythms", "candidate"], f_is_tiling⟩ := ⟨⟨rfl, rfl, rfl, by decide +kernel, rfl, by decide +kernel, by decide +kernel⟩, rfl, by decide +kernel, fun _ _ _ _ _ _ us hl => match us, hl with | [_, _, _], _ => rfl⟩
theorem ok_count_covers : TbOk g ⟨"count_covers", top 23, ["tiles", "left", "known"], f_count_covers⟩ := ⟨⟨rfl, rfl, rfl, by decide +kernel, rfl, by decide +kernel, by decide +kernel⟩, rfl, by decide +kernel, fun _ _ _ _ _ _ us hl => match us, hl with | [_, _, _], _ => rfl⟩
theorem ok_check_small : TbOk g ⟨"check_small", top 24, ["cycle", "rhythms"], f_check_small⟩ := ⟨⟨rfl, rfl, rfl, by decide +kernel, rfl, by decide +kernel, by decide +kernel⟩, rfl, by decide +kernel, fun _ _ _ _ _ _ us hl => match us, hl with | [_, _], _ => rfl⟩
theorem ok_find_count : TbOk g ⟨"find_count", top 25, ["cycle", "rhythms"], f_find_count⟩ := ⟨⟨rfl, rfl, rfl, by decide +kernel, rfl, by decide +kernel, by decide +kernel⟩, rfl, by decide +kernel, fun _ _ _ _ _ _ us hl => match us, hl with | [_, _], _ => rfl⟩
theorem ok_can_tile : TbOk g ⟨"can_tile", top 26, ["cycle", "rhythms"], f_can_tile⟩ := ⟨⟨rfl, rfl, rfl, by decide +kernel, rfl, by decide +kernel, by decide +kernel⟩, rfl, by decide +kernel, fun _ _ _ _ _ _ us hl => match us, hl with | [_, _], _ => rfl⟩
theorem ok_count_tilings : TbOk g ⟨"count_tilings", top 27, ["cycle", "rhythms"], f_count_tilings⟩ := ⟨⟨rfl, rfl, rfl, by decide +kernel, rfl, by decide +kernel, by decide +kernel⟩, rfl, by decide +kernel, fun _ _ _ _ _ _ us hl => match us, hl with | [_, _], _ => rfl⟩
theorem ok_first_tiling : TbOk g ⟨"first_tiling", top 28, ["cycle", "rhythms"], f_first_tiling⟩ := ⟨⟨rfl, rfl, rfl, by decide +kernel, rfl, by decide +kernel, by decide +kernel⟩, rfl, by decide +kernel, fun _ _ _ _ _ _ us hl => match us, hl with | [_, _], _ => rfl⟩
theorem ok_needed_rhythms : TbOk g ⟨"needed_rhythms", top 29, ["cycle", "rhythms"], f_needed_rhythms⟩ := ⟨⟨rfl, rfl, rfl, by decide +kernel, rfl, by decide +kernel, by decide +kernel⟩, rfl, by decide +kernel, fun _ _ _ _ _ _ us hl => match us, hl with | [_, _], _ => rfl⟩
theorem ok_grown : TbOk g ⟨"grown", top 31, ["cycle", "rhythm", "starts", "taken"], f_grown⟩ := ⟨⟨rfl, rfl, rfl, by decide +kernel, rfl, by decide +kernel, by decide +kernel⟩, rfl, by decide +kernel, fun _ _ _ _ _ _ us hl => match us, hl with | [_, _, _, _], _ => rfl⟩
theorem ok_find_canons : TbOk g ⟨"find_canons", top 32, ["cycle", "rhythm"], f_find_canons⟩ := ⟨⟨rfl, rfl, rfl, by decide +kernel, rfl, by decide +kernel, by decide +kernel⟩, rfl, by decide +kernel, fun _ _ _ _ _ _ us hl => match us, hl with | [_, _], _ => rfl⟩
theorem ok_has_canon : TbOk g ⟨"has_canon", top 33, ["cycle", "rhythm"], f_has_canon⟩ := ⟨⟨rfl, rfl, rfl, by decide +kernel, rfl, by decide +kernel, by decide +kernel⟩, rfl, by decide +kernel, fun _ _ _ _ _ _ us hl => match us, hl with | [_, _], _ => rfl⟩
theorem ok_count_canons : TbOk g ⟨"count_canons", top 34, ["cycle", "rhythm"], f_count_canons⟩ := ⟨⟨rfl, rfl, rfl, by decide +kernel, rfl, by decide +kernel, by decide +kernel⟩, rfl, by decide +kernel, fun _ _ _ _ _ _ us hl => match us, hl with | [_, _], _ => rfl⟩
theorem ok__law_drawn : TbOk g ⟨"_law_drawn", top 36, ["_law_script", "_law_k", "_law_many"], f__law_drawn⟩ := ⟨⟨rfl, rfl, rfl, by decide +kernel, rfl, by decide +kernel, by decide +kernel⟩, rfl, by decide +kernel, fun _ _ _ _ _ _ us hl => match us, hl with | [_, _, _], _ => rfl⟩
theorem ok__law_set : TbOk g ⟨"_law_set", top 37, ["_law_script", "_law_at", "_law_cycle"], f__law_set⟩ := ⟨⟨rfl, rfl, rfl, by decide +kernel, rfl, by decide +kernel, by decide +kernel⟩, rfl, by decide +kernel, fun _ _ _ _ _ _ us hl => match us, hl with | [_, _, _], _ => rfl⟩
theorem ok__law_rhythm : TbOk g ⟨"_law_rhythm", top 38, ["_law_script", "_law_at", "_law_cycle"], f__law_rhythm⟩ := ⟨⟨rfl, rfl, rfl, by decide +kernel, rfl, by decide +kernel, by decide +kernel⟩, rfl, by decide +kernel, fun _ _ _ _ _ _ us hl => match us, hl with | [_, _, _], _ => rfl⟩
theorem ok__law_move : TbOk g ⟨"_law_move", top 39, ["_law_cycle", "_law_beats", "_law_number"], f__law_move⟩ := ⟨⟨rfl, rfl, rfl, by decide +kernel, rfl, by decide +kernel, by decide +kernel⟩, rfl, by decide +kernel, fun _ _ _ _ _ _ us hl => match us, hl with | [_, _, _], _ => rfl⟩
theorem ok__law_moved : TbOk g ⟨"_law_moved", top 40, ["_law_script", "_law_cycle", "_law_rhythms", "_law_many"], f__law_moved⟩ := ⟨⟨rfl, rfl, rfl, by decide +kernel, rfl, by decide +kernel, by decide +kernel⟩, rfl, by decide +kernel, fun _ _ _ _ _ _ us hl => match us, hl with | [_, _, _, _], _ => rfl⟩
theorem ok_law : TbOk g ⟨"law", top 41, ["_law_script"], f_law⟩ := ⟨⟨rfl, rfl, rfl, by decide +kernel, rfl, by decide +kernel, by decide +kernel⟩, rfl, by decide +kernel, fun _ _ _ _ _ _ us hl => match us, hl with | [_], _ => rfl⟩
theorem oks : ∀ t ∈ tabs, TbOk g t := by
  intro t h
  unfold tabs at h
  simp only [List.mem_cons, List.not_mem_nil, or_false] at h
  rcases h with h | h | h | h | h | h | h | h | h | h | h | h | h | h | h | h | h | h | h | h | h | h | h | h | h | h | h | h | h
  · subst h; exact ok_is_int
  · subst h; exact ok_is_cycle
  · subst h; exact ok_has_set
  · subst h; exact ok_check_cycle
  · subst h; exact ok_check_set
  · subst h; exact ok_move_by
  · subst h; exact ok_find_period
  · subst h; exact ok_period
  · subst h; exact ok_check_rhythms
  · subst h; exact ok_all_tiles
  · subst h; exact ok_is_tile
  · subst h; exact ok_is_tiling
  · subst h; exact ok_count_covers
  · subst h; exact ok_check_small
  · subst h; exact ok_find_count
  · subst h; exact ok_can_tile
  · subst h; exact ok_count_tilings
  · subst h; exact ok_first_tiling
  · subst h; exact ok_needed_rhythms
  · subst h; exact ok_grown
  · subst h; exact ok_find_canons
  · subst h; exact ok_has_canon
  · subst h; exact ok_count_canons
  · subst h; exact ok__law_drawn
  · subst h; exact ok__law_set
  · subst h; exact ok__law_rhythm
  · subst h; exact ok__law_move
  · subst h; exact ok__law_moved
  · subst h; exact ok_law
end K54

namespace K54
open PySem PySem.Spec PyProof.Rows L2 Mz
abbrev R : PySem.W.OpenRow := PySem.W.OpenLaw.row PySem.Challenge.rw_clapcanons_k54_whole_several
abbrev hk : PySem.W.Hook := hookX 4 g (tabs.map Tb.dd)
def ob (s : PySem.W.SharedT) : Bool × He.AlD := obsX 4 g (tabs.map Tb.dd) (HandSHeadRun.getT s)
theorem ob_eq (s : PySem.W.SharedT) : ob s = hk.obs s.abs := obsX_eq (HandSHeadRun.getT_eq s)
def names : List PySem.Str := ("MAX_CYCLE_beats" :: "MAX_RHYTHMS" :: "MAX_CYCLE_several" :: "CanonError" :: "InvalidCycle" :: "InvalidSet" :: "TooLarge" :: "InvalidRhythms" :: "is_int" :: "is_cycle" :: "has_set" :: "check_cycle" :: "check_set" :: "move_by" :: "find_period" :: "period" :: "check_rhythms" :: "all_tiles" :: "is_tile" :: "is_tiling" :: "count_covers" :: "check_small" :: "find_count" :: "can_tile" :: "count_tilings" :: "first_tiling" :: "needed_rhythms" :: "grown" :: "find_canons" :: "has_canon" :: "count_canons" :: "_law_drawn" :: "_law_set" :: "_law_rhythm" :: "_law_move" :: "_law_moved" :: [])
theorem hrun (w : World) : HandSHeadRun.RunEq R (PySem.W.view R.prog [41]) hk ob 2000 names w := by
  intro os
  kernel_rfl
end K54

namespace K54
open PySem Mz
theorem v_is_int (n : Nat) (v a b : Int) : run fs (n + 1) j_is_int [.int v, .int a, .int b] = .ok (.bool (decide (a ≤ v ∧ v ≤ b))) := by
  rw [run_is_int]
  by_cases h1 : a ≤ v <;> by_cases h2 : v ≤ b <;> simp [b_is_int, evS, thaw, evE, isD, asB, opCmp, h1, h2, fin]
theorem v_is_cycle (n : Nat) (v : Int) : run fs (n + 2) j_is_cycle [.int v] = .ok (.bool (decide (1 ≤ v ∧ v ≤ 24))) := by
  rw [run_is_cycle]
  simp only [b_is_cycle, evS, thaw, evE, evA, List.map_cons, List.map_nil, List.getElem?_cons_zero, bnd_ok, v_is_int, wth_ok, fin]
structure OkS (m : Int) (l : List Int) : Prop where
  m1 : 1 ≤ m
  m2 : m ≤ 24
  ne : l ≠ []
  up : Up l
  bd : ∀ x ∈ l, 0 ≤ x ∧ x < m
theorem OkS.fil {m : Int} {p : Int → Bool} (h1 : 1 ≤ m) (h2 : m ≤ 24) (h : fil m p ≠ []) : OkS m (fil m p) := ⟨h1, h2, h, up_fil m p, fun x hx => (mem_fil.mp hx).1⟩
theorem zip_up : ∀ {l : List Int}, Up l → ∀ p ∈ l.zip l.tail, p.1 < p.2
  | [], _, p, h => by cases h
  | [x], _, p, h => by cases h
  | x :: y :: r, h, p, hp => by
    rw [Up, List.pairwise_cons] at h
    rw [List.tail_cons, List.zip_cons_cons] at hp
    rcases List.mem_cons.mp hp with rfl | hp
    · exact h.1 y List.mem_cons_self
    · exact zip_up h.2 p hp
theorem zipD_ints : ∀ a b : List Int, zipD (a.map .int) (b.map .int) = (a.zip b).map fun p => .tuple [.int p.1, .int p.2]
  | [], _ => rfl
  | _ :: _, [] => rfl
  | x :: a, y :: b => by
    show PyData.tuple [.int x, .int y] :: zipD (a.map .int) (b.map .int) = _
    rw [zipD_ints a b] <;> rfl
theorem cut1 (l : List D) : cutD l (some 1) none = l.tail := by
  unfold cutD
  cases l with
  | nil => rfl
  | cons x r =>
    have e1 : HT.sIx (x :: r).length 0 (some 1) = 1 := by
      show min 1 (r.length + 1) = 1
      omega
    rw [e1, HT.sIx_none]
    show (List.drop 1 (x :: r)).take (r.length + 1 - 1) = r
    simp
theorem v_has_set (n : Nat) {m : Int} {l : List Int} (h : OkS m l) : run fs (n + 2) j_has_set [.int m, tupI l] = .ok (.bool true) := by
  rw [run_has_set]
  unfold b_has_set
  have e1 : evE (run fs (n + 1)) (thaw [.py (.int m), .py (tupI l), .un, .un, .un]) (.bor (.bnot (.isi (.nm 1) .tuple)) (.b1 (.cmp .Eq (.nm 1) (.tup .nil)))) = .ok (.bool false) := by
    have e : opCmp .Eq (tupI l) (.tuple []) = .ok false := by
      have := c_eqT l []
      rw [decide_eq_false h.ne] at this
      exact this
    have e' : isD .tuple (tupI l) = .ok true := rfl
    simp [e', e]
  have e2 := lc_all (cal := run fs (n + 1)) (ρ := [.py (.int m), .py (tupI l), .un, .un, .un]) (ow := [("beat", 2)]) (t := .n 2) (it := .b1 (.nm 1)) (c := .nil) (e := .call j_is_int (.cons (.nm 2) (.cons (.ci 0) (.cons (.bin .Sub (.nm 0) (.ci 1)) .nil)))) (enc := PyData.int) l (fun _ => .bool true)
      (by simp [evI, tupI]) (fun x hx => by
        have hb := h.bd x hx
        simp [turnL, asgT, fgt, v_is_int]
        omega)
  have e3 := lc_all (cal := run fs (n + 1)) (ρ := [.py (.int m), .py (tupI l), .un, .un, .un]) (ow := [("one", 3), ("other", 4)]) (t := .t [3, 4]) (it := .zp (.nm 1) (.slc (.nm 1) (.b1 (.ci 1)) .nil)) (c := .nil) (e := .cmp .Lt (.nm 3) (.nm 4)) (enc := fun p : Int × Int => PyData.tuple [.int p.1, .int p.2]) (l.zip l.tail) (fun _ => .bool true)
      (by simp [evI, evO, tupI, opSlc, cut1, ← List.map_tail, zipD_ints]) (fun p hp => by
        have hb := zip_up h.up p hp
        simp [turnL, asgT, setE, fgt, hb])
  exact fin_ret (t_sq (s_ifF e1 s_nil) (t_sq (s_ifF (by simp [e2, o_all]) s_nil) (t_ret (by simp [e3, o_all]))))
theorem v_check_cycle (n : Nat) {m : Int} (h1 : 1 ≤ m) (h2 : m ≤ 24) : run fs (n + 3) j_check_cycle [.int m] = .ok .none := by
  rw [run_check_cycle]
  unfold b_check_cycle
  exact fin_nx (t_sq (s_ifF (by simp [v_is_cycle, h1, h2]) s_nil) s_nil)
theorem v_check_set (n : Nat) {m : Int} {l : List Int} (h : OkS m l) : run fs (n + 4) j_check_set [.int m, tupI l] = .ok .none := by
  rw [run_check_set]
  unfold b_check_set
  have e1 := v_check_cycle n h.m1 h.m2
  have e2 := v_has_set (n + 1) h
  exact fin_nx (t_sq (s_xpr (d := .none) (by simp [e1])) (t_sq (s_ifF (by simp [e2]) s_nil) s_nil))
theorem v_move_by (n : Nat) {m k : Int} {p : Int → Bool} (hm : 0 < m) : run fs (n + 1) j_move_by [.int m, tupI (fil m p), .int k] = .ok (tupI (fil m fun b => p ((b - k) % m))) := by
  rw [run_move_by]
  unfold b_move_by
  have e := lc_all (cal := run fs n) (ρ := [.py (.int m), .py (tupI (fil m p)), .py (.int k), .un]) (ow := [("beat", 3)]) (t := .n 3) (it := .b1 (.nm 1)) (c := .nil) (e := .bin .Mod (.bin .Add (.nm 3) (.nm 2)) (.nm 0)) (enc := PyData.int) (fil m p) (fun x => .int ((x + k) % m))
      (by simp [evI, tupI]) (fun x hx => by simp [turnL, asgT, fgt, b_mod _ _ hm])
  have e2 : (fil m p).map (fun x => PyData.int ((x + k) % m)) = ((fil m p).map fun x => (x + k) % m).map .int := by rw [List.map_map] <;> rfl
  rw [e2] at e
  exact fin_ret (t_ret (by simp [e, o_sortI, moved_fil hm, o_tupI, -List.map_map]))
theorem scr_ix {ns : List Int} {k : Int} (h : ns ≠ []) (hk : 0 ≤ k) : ∃ z, L2.atI (ns.map PyData.int) (k % (ns.length : Int)) = some (.int z) := by
  have hl : 0 < (ns.length : Int) := by
    have := List.length_pos_iff.mpr h
    omega
  have h1 := Int.emod_nonneg k (show (ns.length : Int) ≠ 0 by omega)
  have h2 := Int.emod_lt_of_pos k hl
  have h3 : (k % (ns.length : Int)).toNat < ns.length := by omega
  refine ⟨ns[(k % (ns.length : Int)).toNat], atI_nat h1 ?_⟩
  rw [List.getElem?_map, List.getElem?_eq_getElem h3] <;> rfl
theorem w_move (n : Nat) {m k : Int} {p : Int → Bool} (hm : 0 < m) : run fs (n + 1) j_move_by [.int m, tupI (fil m p), .int k] = .ok (tupI (mv m p k)) := v_move_by n hm
theorem ix0 (x : Int) (t : List Int) : opIx (.list ((x :: t).map .int)) (.int 0) = .ok (.int x) := by
  show (match L2.atI ((x :: t).map PyData.int) 0 with
    | some d => Out.ok d
    | none => .bad) = _
  rw [atI_nat (x := .int x) (by omega) rfl]
theorem per0 {m : Int} (hm : 0 < m) {p : Int → Bool} : opIx (.list ((parts m p).map .int)) (.int 0) = .ok (.int (per m p)) := by
  obtain ⟨t, ht⟩ := parts_ne (p := p) hm
  rw [ht]
  exact ix0 _ _
theorem v_find_period (n : Nat) {m : Int} {p : Int → Bool} (h : OkS m (fil m p)) : run fs (n + 2) j_find_period [.int m, tupI (fil m p)] = .ok (.int (per m p)) := by
  rw [run_find_period]
  unfold b_find_period
  have hm : 0 < m := by have := h.m1; omega
  have h2 := h.m2
  have e : evE (run fs (n + 1)) [.py (.int m), .py (tupI (fil m p)), .un] (.lc [("part", 2)] (.n 2) (.rg (.ci 1) (.bin .Add (.nm 0) (.ci 1))) (.b1 (.band (.cmp .Eq (.bin .Mod (.nm 0) (.nm 2)) (.ci 0)) (.b1 (.cmp .Eq (.call j_move_by (.cons (.nm 0) (.cons (.nm 1) (.cons (.nm 2) .nil)))) (.nm 1))))) (.nm 2)) = .ok (.list ((parts m p).map .int)) :=
    lc_enc (enc := PyData.int) (rgI 1 (m + 1)) _ PyData.int (by simp [evI, zOr, rngI_ok (a := 1) (b := m + 1) (by omega) (by omega) (by omega) (by omega)]) (fun y hy => by
      have hy := mem_rgI.mp hy
      have hin := b_mod m y (by omega)
      by_cases q : m % y = 0
      · by_cases q2 : mv m p y = fil m p <;> simp [turnL, asgT, fgt, hin, c_eqI, q, w_move n hm, c_eqT, q2]
      · simp [turnL, asgT, fgt, hin, c_eqI, q])
  exact fin_ret (t_ret (by simp [e, per0 hm]))
theorem v_period (n : Nat) {m : Int} {p : Int → Bool} (h : OkS m (fil m p)) : run fs (n + 5) j_period [.int m, tupI (fil m p)] = .ok (.int (per m p)) := by
  rw [run_period]
  unfold b_period
  exact fin_ret (t_sq (s_xpr (d := .none) (by simp [v_check_set n h])) (t_ret (by simp [v_find_period (n + 2) h])))
theorem get_rgD {m k : Int} (h0 : 0 ≤ k) (h1 : k < m) (f : Int → D) : L2.atI ((rgI 0 m).map f) k = some (f k) := by
  refine atI_nat h0 ?_
  have hl : k.toNat < (rgI 0 m).length := by
    rw [len_rgI]
    omega
  rw [List.getElem?_map, List.getElem?_eq_getElem hl, get_rgI]
  have : 0 + ((k.toNat : Nat) : Int) = k := by omega
  rw [this] <;> rfl
theorem opIxL {l : List D} {k : Int} {d : D} (h : L2.atI l k = some d) : opIx (.list l) (.int k) = .ok d := by
  show (match L2.atI l k with
    | some d => Out.ok d
    | none => .bad) = _
  rw [h]
theorem s_ext {cal : Nat → List D → Out D} {ρ : En} {i : Nat} {e : M} {ds xs : List D} (hr : ρ[i]? = some (.own ds)) (he : evE cal ρ e = .ok (.list xs)) (hm : ment ρ e = false) (hl : ds.length + xs.length ≤ SZ) : evS cal (.ext i e) ρ = .nx (ρ.set i (.own (ds ++ xs))) := by
  simp only [evS, evX, hm, he, hr, isOwn, wth_ok, if_true, Bool.false_eq_true, if_false, hl]
theorem o_sortT (l : List Int) : opBl .sorted [tupI l] = .ok (lstI (isort ltI l)) := by
  show opSorted (.tuple (l.map .int)) = _
  unfold opSorted
  simp only [allInts_map]
theorem o_tupL (l : List Int) : opBl .tuple [lstI l] = .ok (tupI l) := rfl
def bls (m : Int) (tk : Int → Bool) : D := .list ((rgI 0 m).map fun b => .bool (tk b))
theorem get_bls {m k : Int} (tk : Int → Bool) (h0 : 0 ≤ k) (h1 : k < m) : opIx (bls m tk) (.int k) = .ok (.bool (tk k)) := opIxL (get_rgD h0 h1 _)
theorem v_grown0 (n : Nat) {m : Int} (hm : 0 < m) (hm2 : m ≤ 24) {p : Int → Bool} (S : List Int) (tk : Int → Bool) (e : opn m tk = []) : run fs (n + 1) j_grown [.int m, tupI (fil m p), tupI S, bls m tk] = .ok (.list ((gr m p (n + 1) S tk).map tupI)) := by
  rw [run_grown]
  unfold b_grown
  have s1 : evE (run fs n) [.py (.int m), .py (tupI (fil m p)), .py (tupI S), .py (bls m tk), .un, .un, .un, .un, .un, .un, .un, .un] (.lc [("beat", 6)] (.n 6) (.rg .nil (.nm 0)) (.b1 (.bnot (.sub (.nm 3) (.nm 6)))) (.nm 6)) = .ok (lstI (opn m tk)) :=
    lc_enc (enc := PyData.int) (rgI 0 m) _ PyData.int (by simp [evI, zOr, rngI_ok (a := 0) (b := m) (by omega) (by omega) (by omega) (by omega)]) (fun x hx => by
      have hx := mem_rgI.mp hx
      cases q : tk x <;> simp [turnL, asgT, fgt, get_bls tk hx.1 hx.2, q])
  rw [e] at s1
  have c1 : opCmp .Eq (lstI []) (.list []) = .ok true := by
    have := c_eqL [] []
    simpa [lstI] using this
  have eg : gr m p (n + 1) S tk = [isort ltI S] := by
    rw [gr, e]
  rw [eg]
  refine fin_ret (t_sq (s_asg s1) (t_ifR (by simp [SZ, c1]) (t_ret (by simp [o_sortT, o_tupL, SZ]))))
theorem v_grown {m : Int} (hm : 0 < m) (hm2 : m ≤ 24) {p : Int → Bool} (hp : 1 ≤ (fil m p).length) : ∀ (n k : Nat) (S : List Int) (tk : Int → Bool), (opn m tk).length ≤ (fil m p).length * k → (opn m tk).length ≤ n → S.length + (opn m tk).length ≤ 1000 → (fil m p).length ^ k ≤ SZ →
    run fs (n + 1) j_grown [.int m, tupI (fil m p), tupI S, bls m tk] = .ok (.list ((gr m p (n + 1) S tk).map tupI)) := by
  intro n
  induction n with
  | zero =>
    intro k S tk h1 h2 h3 h4
    exact v_grown0 0 hm hm2 S tk (List.length_eq_zero_iff.mp (by omega))
  | succ n ih =>
    intro k S tk h1 h2 h3 h4
    by_cases ee : opn m tk = []
    · exact v_grown0 (n + 1) hm hm2 S tk ee
    rw [run_grown]
    unfold b_grown
    have s1 : evE (run fs (n + 1)) [.py (.int m), .py (tupI (fil m p)), .py (tupI S), .py (bls m tk), .un, .un, .un, .un, .un, .un, .un, .un] (.lc [("beat", 6)] (.n 6) (.rg .nil (.nm 0)) (.b1 (.bnot (.sub (.nm 3) (.nm 6)))) (.nm 6)) = .ok (lstI (opn m tk)) :=
      lc_enc (enc := PyData.int) (rgI 0 m) _ PyData.int (by simp [evI, zOr, rngI_ok (a := 0) (b := m) (by omega) (by omega) (by omega) (by omega)]) (fun x hx => by
        have hx := mem_rgI.mp hx
        cases q : tk x <;> simp [turnL, asgT, fgt, get_bls tk hx.1 hx.2, q])
    cases e : opn m tk with
    | nil => exact absurd e ee
    | cons o r =>
      rw [e] at s1
      have ho : o ∈ opn m tk := by rw [e]; exact List.mem_cons_self
      have c1 : opCmp .Eq (lstI (o :: r)) (.list []) = .ok false := by
        have := c_eqL (o :: r) []
        rw [decide_eq_false (by simp)] at this
        exact this
      have g0 : opIx (lstI (o :: r)) (.int 0) = .ok (.int o) := ix0 o r
      let env : List (List Int) → En := fun acc => [.py (.int m), .py (tupI (fil m p)), .py (tupI S), .py (bls m tk), .py (lstI (o :: r)), .own (acc.map tupI), .un, .un, .un, .un, .un, .un]
      let stp : Int → List (List Int) := fun x => if clash m p tk ((o - x) % m) = true then [] else gr m p (n + 1) (S ++ [(o - x) % m]) (tkn m p tk ((o - x) % m))
      have turn : ∀ (x : Int) (acc : List (List Int)), acc.length + (stp x).length ≤ SZ → ∃ ρ', evS (run fs (n + 1)) (.sq (.asg (.n 7) (.bin .Mod (.bin .Sub (.sub (.nm 4) (.ci 0)) (.nm 6)) (.nm 0))) <| .sq (.asg (.n 8) (.lc [("other", 10)] (.n 10) (.b1 (.nm 1)) .nil (.bin .Mod (.bin .Add (.nm 7) (.nm 10)) (.nm 0)))) <|
          .sq (.ifs (.bnot (.blt .any (.cons (.lc [("place", 11)] (.n 11) (.b1 (.nm 8)) .nil (.sub (.nm 3) (.nm 11))) .nil))) (.sq (.asg (.n 9) (.lc [("place", 11)] (.n 11) (.rg .nil (.nm 0)) .nil (.bor (.sub (.nm 3) (.nm 11)) (.b1 (.cmp .In (.nm 11) (.nm 8)))))) <|
          .sq (.ext 5 (.call j_grown (.cons (.nm 0) (.cons (.nm 1) (.cons (.bin .Add (.nm 2) (.tup (.cons (.nm 7) .nil))) (.cons (.nm 9) .nil)))))) <| .nil) .nil) <| .nil) ((env acc).set 6 (.py (.int x))) = .nx ρ' ∧ fgt ρ' [6, 7, 8, 9] = env (acc ++ stp x) := fun x acc hl => by
        obtain ⟨st, hst⟩ : ∃ st, (o - x) % m = st := ⟨_, rfl⟩
        have st0 : 0 ≤ st := by rw [← hst]; exact Int.emod_nonneg _ (by omega)
        have st1 : st < m := by rw [← hst]; exact Int.emod_lt_of_pos _ hm
        have hmod := b_mod (o - x) m hm
        rw [hst] at hmod
        have hmod2 := fun y => b_mod (st + y) m hm
        obtain ⟨P, hP⟩ : ∃ P, (fil m p).map (fun y => (st + y) % m) = P := ⟨_, rfl⟩
        have bP : ∀ y ∈ P, 0 ≤ y ∧ y < m := fun y hy => by
          rw [← hP] at hy
          obtain ⟨z, _, rfl⟩ := List.mem_map.mp hy
          exact ⟨Int.emod_nonneg _ (by omega), Int.emod_lt_of_pos _ hm⟩
        have p1 : evE (run fs (n + 1)) [.py (.int m), .py (tupI (fil m p)), .py (tupI S), .py (bls m tk), .py (lstI (o :: r)), .own (acc.map tupI), .py (.int x), .py (.int st), .un, .un, .un, .un] (.lc [("other", 10)] (.n 10) (.b1 (.nm 1)) .nil (.bin .Mod (.bin .Add (.nm 7) (.nm 10)) (.nm 0))) = .ok (lstI P) := by
          have q := lc_all (cal := run fs (n + 1)) (ρ := [.py (.int m), .py (tupI (fil m p)), .py (tupI S), .py (bls m tk), .py (lstI (o :: r)), .own (acc.map tupI), .py (.int x), .py (.int st), .un, .un, .un, .un]) (ow := [("other", 10)]) (t := .n 10) (it := .b1 (.nm 1)) (c := .nil) (e := .bin .Mod (.bin .Add (.nm 7) (.nm 10)) (.nm 0)) (enc := PyData.int) (fil m p) (fun y => .int ((st + y) % m)) (by simp [evI, tupI]) (fun y hy => by simp [turnL, asgT, fgt, hmod2])
          rw [q, ← hP]
          unfold lstI
          rw [List.map_map] <;> rfl
        have hc : P.any tk = clash m p tk st := by
          rw [← any_clash hm, ← hP, List.any_map] <;> rfl
        have p2 : evE (run fs (n + 1)) [.py (.int m), .py (tupI (fil m p)), .py (tupI S), .py (bls m tk), .py (lstI (o :: r)), .py (.list (acc.map tupI)), .py (.int x), .py (.int st), .py (lstI P), .un, .un, .un] (.lc [("place", 11)] (.n 11) (.b1 (.nm 8)) .nil (.sub (.nm 3) (.nm 11))) = .ok (.list (P.map fun y => .bool (tk y))) :=
          lc_all (enc := PyData.int) P _ (by simp [evI, lstI]) (fun y hy => by simp [turnL, asgT, fgt, get_bls tk (bP y hy).1 (bP y hy).2])
        have estp : stp x = if clash m p tk st = true then [] else gr m p (n + 1) (S ++ [st]) (tkn m p tk st) := by
          show (if clash m p tk ((o - x) % m) = true then [] else gr m p (n + 1) (S ++ [(o - x) % m]) (tkn m p tk ((o - x) % m))) = _
          rw [hst]
        have a7 : evE (run fs (n + 1)) ((env acc).set 6 (.py (.int x))) (.bin .Mod (.bin .Sub (.sub (.nm 4) (.ci 0)) (.nm 6)) (.nm 0)) = .ok (.int st) := by
          simp [env, g0, hmod]
        by_cases cc : clash m p tk st = true
        · rw [estp, if_pos cc, List.append_nil]
          exact ⟨_, t_sq (s_asg a7) (t_sq (s_asg p1) (t_sq (s_ifF (by simp [p2, o_any, hc, cc]) s_nil) s_nil)), rfl⟩
        · rw [estp, if_neg cc] at hl ⊢
          have cf : clash m p tk st = false := by simpa using cc
          have lo := opn_tkn hm cf
          have p3 : evE (run fs (n + 1)) [.py (.int m), .py (tupI (fil m p)), .py (tupI S), .py (bls m tk), .py (lstI (o :: r)), .own (acc.map tupI), .py (.int x), .py (.int st), .py (lstI P), .un, .un, .un] (.lc [("place", 11)] (.n 11) (.rg .nil (.nm 0)) .nil (.bor (.sub (.nm 3) (.nm 11)) (.b1 (.cmp .In (.nm 11) (.nm 8))))) = .ok (bls m (tkn m p tk st)) :=
            lc_all (enc := PyData.int) (rgI 0 m) _ (by simp [evI, zOr, rngI_ok (a := 0) (b := m) (by omega) (by omega) (by omega) (by omega)]) (fun y hy => by
              have hy := mem_rgI.mp hy
              have q := mem_places hm p st y hy.1 hy.2
              rw [hP] at q
              have q2 := c_inI y P
              rw [q] at q2
              unfold tkn
              cases z : tk y <;> simp [turnL, asgT, fgt, get_bls tk hy.1 hy.2, q2, z])
          cases k with
          | zero =>
            rw [Nat.mul_zero] at h1
            rw [e] at h1
            simp at h1
          | succ k =>
            rw [Nat.mul_succ] at h1
            have hk : (fil m p).length ^ k ≤ SZ := Nat.le_trans (Nat.pow_le_pow_right hp (Nat.le_succ k)) h4
            have rec1 := ih k (S ++ [st]) (tkn m p tk st) (by omega) (by omega) (by rw [List.length_append, List.length_singleton]; omega) hk
            have hadd : opBin .Add (tupI S) (.tuple [.int st]) = .ok (tupI (S ++ [st])) := by
              unfold tupI
              rw [List.map_append]
              show (if (S.map PyData.int).length + 1 ≤ SZ then Out.ok (PyData.tuple (S.map .int ++ [.int st])) else .bad) = _
              rw [if_pos (by rw [List.length_map]; unfold SZ; omega)] <;> rfl
            have call : evE (run fs (n + 1)) [.py (.int m), .py (tupI (fil m p)), .py (tupI S), .py (bls m tk), .py (lstI (o :: r)), .own (acc.map tupI), .py (.int x), .py (.int st), .py (lstI P), .py (bls m (tkn m p tk st)), .un, .un] (.call j_grown (.cons (.nm 0) (.cons (.nm 1) (.cons (.bin .Add (.nm 2) (.tup (.cons (.nm 7) .nil))) (.cons (.nm 9) .nil))))) = .ok (.list ((gr m p (n + 1) (S ++ [st]) (tkn m p tk st)).map tupI)) := by
              simp [SZ, hadd, rec1]
            have lx : (acc.map tupI).length + ((gr m p (n + 1) (S ++ [st]) (tkn m p tk st)).map tupI).length ≤ SZ := by
              rw [List.length_map, List.length_map]
              exact hl
            refine ⟨_, t_sq (s_asg a7) (t_sq (s_asg p1) (t_sq (s_ifT (by simp [p2, o_any, hc, cf]) (t_sq (s_asg p3) (t_sq (s_ext rfl call rfl lx) s_nil))) s_nil)), ?_⟩
            show _ = env (acc ++ _)
            simp only [env, List.map_append]
            rfl
      have loop : ∀ (xs : List Int) (acc : List (List Int)), acc.length + (xs.flatMap stp).length ≤ SZ → forL (fun x ρ' => match asgT (.n 6) x ρ' with
          | some ρ2 => evS (run fs (n + 1)) (.sq (.asg (.n 7) (.bin .Mod (.bin .Sub (.sub (.nm 4) (.ci 0)) (.nm 6)) (.nm 0))) <| .sq (.asg (.n 8) (.lc [("other", 10)] (.n 10) (.b1 (.nm 1)) .nil (.bin .Mod (.bin .Add (.nm 7) (.nm 10)) (.nm 0)))) <|
          .sq (.ifs (.bnot (.blt .any (.cons (.lc [("place", 11)] (.n 11) (.b1 (.nm 8)) .nil (.sub (.nm 3) (.nm 11))) .nil))) (.sq (.asg (.n 9) (.lc [("place", 11)] (.n 11) (.rg .nil (.nm 0)) .nil (.bor (.sub (.nm 3) (.nm 11)) (.b1 (.cmp .In (.nm 11) (.nm 8)))))) <|
          .sq (.ext 5 (.call j_grown (.cons (.nm 0) (.cons (.nm 1) (.cons (.bin .Add (.nm 2) (.tup (.cons (.nm 7) .nil))) (.cons (.nm 9) .nil)))))) <| .nil) .nil) <| .nil) ρ2
          | none => .bad) [6, 7, 8, 9] (xs.map .int) (env acc) = .nx (env (acc ++ xs.flatMap stp)) := by
        intro xs
        induction xs with
        | nil =>
          intro acc _
          rw [List.flatMap_nil, List.append_nil] <;> rfl
        | cons x xs ihx =>
          intro acc hl
          rw [List.flatMap_cons, List.length_append] at hl
          obtain ⟨ρ', t1, t2⟩ := turn x acc (by omega)
          rw [List.map_cons]
          unfold forL
          simp only [asgT, t1, t2]
          rw [List.flatMap_cons, ← List.append_assoc]
          exact ihx (acc ++ stp x) (by rw [List.length_append]; omega)
      have eg : gr m p (n + 1 + 1) S tk = (fil m p).flatMap stp := by
        rw [gr, e]
      have lg := len_gr hm hp k (n + 1 + 1) S tk h1
      rw [eg] at lg ⊢
      have l0 := loop (fil m p) [] (by rw [List.length_nil]; omega)
      refine fin_ret (t_sq (s_asg s1) (t_sq (s_ifF (by simp [SZ, c1]) s_nil) (t_sq (ρ' := env []) (by simp [evS, isFresh, ment, SZ, env]) (t_sq ((s_fr (xs := (fil m p).map .int) (by simp [evI, env, tupI])).trans l0) (t_ret ?_)))))
      simp [env]
theorem t_sqR {cal : Nat → List D → Out D} {ρ : En} {a b : M} {d : D} (h : evS cal a ρ = .ret d) : evS cal (.sq a b) ρ = .ret d := by
  simp only [evS, h]
theorem drawn_loop (cal : Nat → List D → Out D) (a b c d : Slot) : ∀ (turn : Nat) (rest : Int) (fuel : Nat), turn < fuel →
    ∃ r2 t2 : Int, whL (fun ρ' => evE cal (thaw ρ') (.band (.cmp .Gt (.nm 5) (.ci 0)) (.b1 (.cmp .Gt (.nm 4) (.ci 0)))))
      (fun ρ' => evS cal (.sq (.asg (.n 5) (.bin .FloorDiv (.nm 5) (.ci 1000000))) (.sq (.asg (.n 4) (.bin .Sub (.nm 4) (.ci 1))) .nil)) ρ') fuel [a, b, c, d, .py (.int turn), .py (.int rest)] = .nx [a, b, c, d, .py (.int t2), .py (.int r2)] := by
  intro turn
  induction turn with
  | zero =>
    intro rest fuel hf
    cases fuel with
    | zero => omega
    | succ fuel =>
      refine ⟨rest, 0, ?_⟩
      unfold whL
      by_cases hr : 0 < rest <;> simp [thaw, hr]
  | succ n ih =>
    intro rest fuel hf
    cases fuel with
    | zero => omega
    | succ fuel =>
      unfold whL
      by_cases hr : 0 < rest
      · obtain ⟨r2, t2, h2⟩ := ih (rest / 1000000) fuel (by omega)
        refine ⟨r2, t2, ?_⟩
        have ec : evE cal (thaw [a, b, c, d, .py (.int ((n + 1 : Nat) : Int)), .py (.int rest)]) (.band (.cmp .Gt (.nm 5) (.ci 0)) (.b1 (.cmp .Gt (.nm 4) (.ci 0)))) = .ok (.bool true) := by
          have : (0 : Int) < (n : Int) + 1 := by omega
          simp [thaw, hr, this]
        have eb : evS cal (.sq (.asg (.n 5) (.bin .FloorDiv (.nm 5) (.ci 1000000))) (.sq (.asg (.n 4) (.bin .Sub (.nm 4) (.ci 1))) .nil)) [a, b, c, d, .py (.int ((n + 1 : Nat) : Int)), .py (.int rest)] = .nx [a, b, c, d, .py (.int (n : Int)), .py (.int (rest / 1000000))] := by
          have h3 := b_div rest 1000000 ⟨by decide, by decide⟩
          have h4 : ((n + 1 : Nat) : Int) - 1 = n := by omega
          refine t_sq (s_asg (d := .int (rest / 1000000)) (by simp [h3])) (t_sq (s_asg (d := .int (n : Int)) (by rw [← h4]; simp)) ?_)
          exact s_nil
        rw [ec]
        simp only [eb]
        exact h2
      · refine ⟨rest, ((n + 1 : Nat) : Int), ?_⟩
        simp [thaw, hr]
theorem drawn_tail (cal : Nat → List D → Out D) (s0 s4 s5 : Slot) (z k m : Int) (hm : 0 < m) : ∃ d : Int, fin (evS cal (.sq (.asg (.n 3) (.bin .Mod (.bin .Add (.bin .Mult (.bin .Mod (.nm 3) (.ci 2147483563)) (.ci 69069)) (.bin .Mult (.ci 104723) (.bin .Add (.nm 1) (.ci 1)))) (.ci 2147483563))) <|
    .sq (.asg (.n 3) (.bin .Mod (.bin .Add (.bin .Mult (.nm 3) (.nm 3)) (.bin .FloorDiv (.nm 3) (.ci 3))) (.ci 2147483399))) <|
    .sq (.ret (.bin .Mod (.bin .FloorDiv (.bin .Mod (.bin .Add (.bin .Mult (.nm 3) (.nm 3)) (.bin .FloorDiv (.nm 3) (.ci 7))) (.ci 2147483647)) (.ci 11)) (.nm 2))) <| .nil) [s0, .py (.int k), .py (.int m), .py (.int z), s4, s5]) = .ok (.int d) ∧ 0 ≤ d ∧ d < m := by
  have m1 := b_mod z 2147483563 (by decide)
  have m2 := b_mul (z % 2147483563) 69069 (.inr ⟨by decide, by decide⟩)
  have m3 := b_mul 104723 (k + 1) (.inl ⟨by decide, by decide⟩)
  have m4 := b_mod (z % 2147483563 * 69069 + 104723 * (k + 1)) 2147483563 (by decide)
  obtain ⟨a, ha⟩ : ∃ a, (z % 2147483563 * 69069 + 104723 * (k + 1)) % 2147483563 = a := ⟨_, rfl⟩
  have a0 : 0 ≤ a := by rw [← ha]; exact Int.emod_nonneg _ (by decide)
  have a1 : a < 2147483563 := by rw [← ha]; exact Int.emod_lt_of_pos _ (by decide)
  rw [ha] at m4
  have m5 := b_mul a a (.inl (by unfold two64; omega))
  have m6 := b_div a 3 ⟨by decide, by decide⟩
  have m7 := b_mod (a * a + a / 3) 2147483399 (by decide)
  obtain ⟨b, hb⟩ : ∃ b, (a * a + a / 3) % 2147483399 = b := ⟨_, rfl⟩
  have b0 : 0 ≤ b := by rw [← hb]; exact Int.emod_nonneg _ (by decide)
  have b1 : b < 2147483399 := by rw [← hb]; exact Int.emod_lt_of_pos _ (by decide)
  rw [hb] at m7
  have m8 := b_mul b b (.inl (by unfold two64; omega))
  have m9 := b_div b 7 ⟨by decide, by decide⟩
  have m10 := b_mod (b * b + b / 7) 2147483647 (by decide)
  have m11 := b_div ((b * b + b / 7) % 2147483647) 11 ⟨by decide, by decide⟩
  have m12 := b_mod ((b * b + b / 7) % 2147483647 / 11) m hm
  refine ⟨_, fin_ret (t_sq (s_asg (d := .int a) ?_ (by rfl)) (t_sq (s_asg (d := .int b) ?_ (by rfl)) (t_ret (d := .int ((b * b + b / 7) % 2147483647 / 11 % m)) ?_))), Int.emod_nonneg _ (by omega), Int.emod_lt_of_pos _ hm⟩
  · simp [m1, m2, m3, m4]
  · simp [m5, m6, m7]
  · cases s0 <;> cases s4 <;> cases s5 <;> simp [m8, m9, m10, m11, m12]
theorem v_drawn (n : Nat) (ns : List Int) (k m : Int) (hn : ns.length ≤ 63) (hk : 0 ≤ k) (hk2 : k ≤ 10000) (hm : 0 < m) (hm2 : m ≤ 10000) : ∃ d : Int, run fs (n + 1) j__law_drawn [scr ns, .int k, .int m] = .ok (.int d) ∧ 0 ≤ d ∧ d < m := by
  rw [run__law_drawn]
  unfold b__law_drawn
  have hne : opCmp .NotEq (scr ns) (.list []) = .ok (decide (ns ≠ [])) := c_neL ns []
  have h7 := b_mul 7 k (.inl ⟨by decide, by decide⟩)
  by_cases h : ns = []
  · subst h
    obtain ⟨d, e, hd⟩ := drawn_tail (run fs n) (.py (scr [])) .un .un (7 * k) k m hm
    refine ⟨d, ?_, hd⟩
    exact (congrArg fin (t_sq (s_asg (d := .int (7 * k)) (by simp [h7])) (t_sq (s_ifF (by simp [hne, SZ]) s_nil) rfl))).trans e
  · obtain ⟨z, hz⟩ := scr_ix h hk
    obtain ⟨l, ol, el⟩ : ∃ l : Int, opBl .len [scr ns] = .ok (.int l) ∧ (ns.length : Int) = l := ⟨ns.length, by
      show Out.ok (PyData.int ((ns.map PyData.int).length : Nat)) = _
      rw [List.length_map], rfl⟩
    have hl : 0 < l := by
      have := List.length_pos_iff.mpr h
      omega
    rw [el] at hz
    have hix : opIx (scr ns) (.int (k % l)) = .ok (.int z) := by
      show (match L2.atI (ns.map PyData.int) (k % l) with
        | some d => Out.ok d
        | none => .bad) = _
      rw [hz]
    have hmod := b_mod k l hl
    have hdiv := b_div k l ⟨hl, by unfold two64; omega⟩
    have t0 : 0 ≤ k / l := Int.ediv_nonneg hk (by omega)
    have t1 : k / l ≤ k := Int.ediv_le_self _ hk
    obtain ⟨t, ht⟩ : ∃ t : Nat, k / l = (t : Int) := ⟨(k / l).toNat, by omega⟩
    have hp : opBin .Pow (.int 10) (.int 18) = .ok (.int 1000000000000000000) := rfl
    have hq := b_div z 1000000000000000000 ⟨by decide, by decide⟩
    have h65 := b_mul 6553 (k / l) (.inl ⟨by decide, by decide⟩)
    have key : (∃ (s4 s5 : Slot) (z' : Int), evS (run fs n) (.ifs (.cmp .NotEq (.nm 0) (.lst (.nil))) (
    .sq (.asg (.n 3) (.sub (.nm 0) (.bin .Mod (.nm 1) (.blt .len (.cons (.nm 0) .nil))))) <|
    .sq (.asg (.n 4) (.bin .FloorDiv (.nm 1) (.blt .len (.cons (.nm 0) .nil)))) <|
    .sq (.ifs (.band (.cmp .GtE (.nm 3) (.bin .Pow (.ci 10) (.ci 18))) (.b1 (.cmp .Lt (.nm 4) (.ci 60)))) (
      .sq (.asg (.n 5) (.bin .FloorDiv (.nm 3) (.bin .Pow (.ci 10) (.ci 18)))) <|
      .sq (.whl (.band (.cmp .Gt (.nm 5) (.ci 0)) (.b1 (.cmp .Gt (.nm 4) (.ci 0)))) (
        .sq (.asg (.n 5) (.bin .FloorDiv (.nm 5) (.ci 1000000))) <|
        .sq (.asg (.n 4) (.bin .Sub (.nm 4) (.ci 1))) <|
        .nil)) <|
      .sq (.ifs (.cmp .Gt (.nm 5) (.ci 0)) (
        .sq (.ret (.bin .Mod (.bin .Mod (.nm 5) (.ci 1000000)) (.nm 2))) <|
        .nil) (.nil)) <|
      .nil) (.nil)) <|
    .sq (.asg (.n 3) (.bin .Add (.nm 3) (.bin .Mult (.ci 6553) (.bin .FloorDiv (.nm 1) (.blt .len (.cons (.nm 0) .nil)))))) <|
    .nil) (.nil)) [.py (scr ns), .py (.int k), .py (.int m), .py (.int (7 * k)), .un, .un] = .nx [.py (scr ns), .py (.int k), .py (.int m), .py (.int z'), s4, s5]) ∨
      ∃ d : Int, (0 ≤ d ∧ d < m) ∧ evS (run fs n) (.ifs (.cmp .NotEq (.nm 0) (.lst (.nil))) (
    .sq (.asg (.n 3) (.sub (.nm 0) (.bin .Mod (.nm 1) (.blt .len (.cons (.nm 0) .nil))))) <|
    .sq (.asg (.n 4) (.bin .FloorDiv (.nm 1) (.blt .len (.cons (.nm 0) .nil)))) <|
    .sq (.ifs (.band (.cmp .GtE (.nm 3) (.bin .Pow (.ci 10) (.ci 18))) (.b1 (.cmp .Lt (.nm 4) (.ci 60)))) (
      .sq (.asg (.n 5) (.bin .FloorDiv (.nm 3) (.bin .Pow (.ci 10) (.ci 18)))) <|
      .sq (.whl (.band (.cmp .Gt (.nm 5) (.ci 0)) (.b1 (.cmp .Gt (.nm 4) (.ci 0)))) (
        .sq (.asg (.n 5) (.bin .FloorDiv (.nm 5) (.ci 1000000))) <|
        .sq (.asg (.n 4) (.bin .Sub (.nm 4) (.ci 1))) <|
        .nil)) <|
      .sq (.ifs (.cmp .Gt (.nm 5) (.ci 0)) (
        .sq (.ret (.bin .Mod (.bin .Mod (.nm 5) (.ci 1000000)) (.nm 2))) <|
        .nil) (.nil)) <|
      .nil) (.nil)) <|
    .sq (.asg (.n 3) (.bin .Add (.nm 3) (.bin .Mult (.ci 6553) (.bin .FloorDiv (.nm 1) (.blt .len (.cons (.nm 0) .nil)))))) <|
    .nil) (.nil)) [.py (scr ns), .py (.int k), .py (.int m), .py (.int (7 * k)), .un, .un] = .ret (.int d) := by
      have c0 : evE (run fs n) (thaw [.py (scr ns), .py (.int k), .py (.int m), .py (.int (7 * k)), .un, .un]) (.cmp .NotEq (.nm 0) (.lst .nil)) = .ok (.bool true) := by simp [hne, SZ, h]
      have a1 : evE (run fs n) [.py (scr ns), .py (.int k), .py (.int m), .py (.int (7 * k)), .un, .un] (.sub (.nm 0) (.bin .Mod (.nm 1) (.blt .len (.cons (.nm 0) .nil)))) = .ok (.int z) := by simp [ol, hmod, hix]
      have a2 : evE (run fs n) [.py (scr ns), .py (.int k), .py (.int m), .py (.int z), .un, .un] (.bin .FloorDiv (.nm 1) (.blt .len (.cons (.nm 0) .nil))) = .ok (.int t) := by simp [ol, hdiv, ht]
      by_cases hbig : 1000000000000000000 ≤ z ∧ k / l < 60
      · have hlt : (t : Int) < 60 := by omega
        obtain ⟨r2, t2, hw⟩ := drawn_loop (run fs n) (.py (scr ns)) (.py (.int k)) (.py (.int m)) (.py (.int z)) t (z / 1000000000000000000) whMax (by unfold whMax; omega)
        have hm2 := b_mod r2 1000000 (by decide)
        have hm3 := b_mod (r2 % 1000000) m hm
        have hc : evE (run fs n) (thaw [.py (scr ns), .py (.int k), .py (.int m), .py (.int z), .py (.int t), .un]) (.band (.cmp .GtE (.nm 3) (.bin .Pow (.ci 10) (.ci 18))) (.b1 (.cmp .Lt (.nm 4) (.ci 60)))) = .ok (.bool true) := by
          simp [hp, hbig.1, hlt]
        by_cases hr : 0 < r2
        · refine .inr ⟨r2 % 1000000 % m, ⟨Int.emod_nonneg _ (by omega), Int.emod_lt_of_pos _ hm⟩, ?_⟩
          exact s_ifT c0 (t_sq (s_asg a1) (t_sq (s_asg a2) (t_ifR hc (t_sq (s_asg (d := .int (z / 1000000000000000000)) (by simp [hp, hq])) (t_sq (ρ' := [.py (scr ns), .py (.int k), .py (.int m), .py (.int z), .py (.int t2), .py (.int r2)]) (by simp only [evS]; exact hw) (t_ifR (by simp [hr]) (t_ret (by simp [hm2, hm3]))))))))
        · refine .inl ⟨.py (.int t2), .py (.int r2), z + 6553 * (k / l), ?_⟩
          exact s_ifT c0 (t_sq (s_asg a1) (t_sq (s_asg a2) (t_sq (ρ' := [.py (scr ns), .py (.int k), .py (.int m), .py (.int z), .py (.int t2), .py (.int r2)]) (s_ifT hc (t_sq (s_asg (d := .int (z / 1000000000000000000)) (by simp [hp, hq])) (t_sq (ρ' := [.py (scr ns), .py (.int k), .py (.int m), .py (.int z), .py (.int t2), .py (.int r2)]) (by simp only [evS]; exact hw) (t_sq (s_ifF (by simp [hr]) s_nil) s_nil)))) (t_sq (s_asg (d := .int (z + 6553 * (k / l))) (by simp [ol, hdiv, h65])) s_nil))))
      · refine .inl ⟨.py (.int t), .un, z + 6553 * (k / l), ?_⟩
        have hc : evE (run fs n) (thaw [.py (scr ns), .py (.int k), .py (.int m), .py (.int z), .py (.int t), .un]) (.band (.cmp .GtE (.nm 3) (.bin .Pow (.ci 10) (.ci 18))) (.b1 (.cmp .Lt (.nm 4) (.ci 60)))) = .ok (.bool false) := by
          by_cases b1 : 1000000000000000000 ≤ z
          · have : ¬ (t : Int) < 60 := fun q => hbig ⟨b1, by omega⟩
            simp [hp, b1, this]
          · simp [hp, b1]
        exact s_ifT c0 (t_sq (s_asg a1) (t_sq (s_asg a2) (t_sq (s_ifF hc s_nil) (t_sq (s_asg (d := .int (z + 6553 * (k / l))) (by simp [ol, hdiv, h65])) s_nil))))
    rcases key with ⟨s4, s5, z', hs⟩ | ⟨d, hd, hs⟩
    · obtain ⟨d, e, hd⟩ := drawn_tail (run fs n) (.py (scr ns)) s4 s5 z' k m hm
      refine ⟨d, ?_, hd⟩
      exact (congrArg fin (t_sq (s_asg (d := .int (7 * k)) (by simp [h7])) (t_sq hs rfl))).trans e
    · refine ⟨d, ?_, hd⟩
      refine fin_ret (t_sq (s_asg (d := .int (7 * k)) (by simp [h7])) ?_)
      exact t_sqR hs
def pq (t : List Int) : Int → Bool := fun b => decide (b ∈ t)
theorem pq_fil {m : Int} {q : Int → Bool} : fil m (pq (fil m q)) = fil m q := fil_ext fun x h1 h2 => by
  unfold pq
  rw [Bool.eq_iff_iff, decide_eq_true_eq, mem_fil]
  exact ⟨fun z => z.2, fun z => ⟨⟨h1, h2⟩, z⟩⟩
theorem isort_pq {m : Int} {l : List Int} (hn : l.Nodup) (hb : ∀ x ∈ l, 0 ≤ x ∧ x < m) : isort ltI l = fil m (pq l) := by
  refine up_ext (up_isort l hn) (up_fil _ _) fun x => ?_
  rw [mem_isort, mem_fil]
  unfold pq
  rw [decide_eq_true_eq]
  exact ⟨fun h => ⟨hb x h, h⟩, fun h => h.2⟩
theorem v_lmove (n : Nat) {m k : Int} {p : Int → Bool} (hm : 0 < m) : run fs (n + 1) j__law_move [.int m, tupI (fil m p), .int k] = .ok (tupI (mv m p k)) := by
  rw [run__law_move]
  unfold b__law_move
  have e := lc_all (cal := run fs n) (ρ := [.py (.int m), .py (tupI (fil m p)), .py (.int k), .un]) (ow := [("_law_beat", 3)]) (t := .n 3) (it := .b1 (.nm 1)) (c := .nil) (e := .bin .Mod (.bin .Add (.nm 3) (.nm 2)) (.nm 0)) (enc := PyData.int) (fil m p) (fun x => .int ((x + k) % m))
      (by simp [evI, tupI]) (fun x hx => by simp [turnL, asgT, fgt, b_mod _ _ hm])
  have e2 : (fil m p).map (fun x => PyData.int ((x + k) % m)) = ((fil m p).map fun x => (x + k) % m).map .int := by rw [List.map_map] <;> rfl
  rw [e2] at e
  exact fin_ret (t_ret (by simp [e, o_sortI, moved_fil hm, o_tupI, mv, -List.map_map]))
theorem v_set (n : Nat) (ns : List Int) (k m : Int) (hn : ns.length ≤ 63) (hk : 0 ≤ k) (hk2 : k ≤ 9000) (hm : 1 ≤ m) (hm2 : m ≤ 24) : ∃ p : Int → Bool, run fs (n + 2) j__law_set [scr ns, .int k, .int m] = .ok (tupI (fil m p)) ∧ fil m p ≠ [] := by
  rw [run__law_set]
  unfold b__law_set
  have ex : ∀ b : Int, ∃ d : Int, 0 ≤ b → b < m → run fs (n + 1) j__law_drawn [scr ns, .int (k + 1 + b), .int 3] = .ok (.int d) := fun b => by
    by_cases hb : 0 ≤ b ∧ b < m
    · obtain ⟨d, e, _⟩ := v_drawn n ns (k + 1 + b) 3 hn (by omega) (by omega) (by omega) (by omega)
      exact ⟨d, fun _ _ => e⟩
    · exact ⟨0, fun q1 q2 => absurd ⟨q1, q2⟩ hb⟩
  obtain ⟨pk, hpk⟩ := Classical.axiomOfChoice ex
  obtain ⟨d3, e3, l3, u3⟩ := v_drawn n ns k m hn (by omega) (by omega) (by omega) (by omega)
  have s3 : evE (run fs (n + 1)) [.py (scr ns), .py (.int k), .py (.int m), .un, .un] (.lc [("_law_beat", 4)] (.n 4) (.rg .nil (.nm 2)) (.b1 (.cmp .Eq (.call j__law_drawn (.cons (.nm 0) (.cons (.bin .Add (.bin .Add (.nm 1) (.ci 1)) (.nm 4)) (.cons (.ci 3) .nil)))) (.ci 0))) (.nm 4)) = .ok (lstI (fil m fun b => decide (pk b = 0))) :=
    lc_enc (enc := PyData.int) (rgI 0 m) _ PyData.int (by simp [evI, zOr, rngI_ok (a := 0) (b := m) (by omega) (by omega) (by omega) (by omega)]) (fun y hy => by
      have hy := mem_rgI.mp hy
      have hin := hpk y hy.1 hy.2
      by_cases q : pk y = 0 <;> simp [turnL, asgT, fgt, hin, c_eqI, q])
  have c := c_neL (fil m fun b => decide (pk b = 0)) []
  rw [show lstI [] = .list [] from rfl] at c
  by_cases hf : (fil m fun b => decide (pk b = 0)) = []
  · have c1 : opCmp .NotEq (lstI (fil m fun b => decide (pk b = 0))) (.list []) = .ok false := by rw [c, decide_eq_false (fun z => z hf)]
    have e1 : fil m (fun b => decide (b = d3)) = [d3] := up_ext (up_fil _ _) (by simp [Up]) fun x => by
      rw [mem_fil, List.mem_singleton, decide_eq_true_eq]
      exact ⟨fun z => z.2, fun z => ⟨by omega, z⟩⟩
    refine ⟨fun b => decide (b = d3), ?_, by rw [e1]; simp⟩
    rw [e1]
    exact fin_ret (t_sq (s_asg s3) (t_ret (by simp [SZ, c1, e3, tupI])))
  · have c1 : opCmp .NotEq (lstI (fil m fun b => decide (pk b = 0))) (.list []) = .ok true := by rw [c, decide_eq_true hf]
    exact ⟨_, fin_ret (t_sq (s_asg s3) (t_ret (by simp [SZ, c1, o_tupL]))), hf⟩
theorem v_rhythm (n : Nat) (ns : List Int) (k m : Int) (hn : ns.length ≤ 63) (hk : 0 ≤ k) (hk2 : k ≤ 9000) (hm : 1 ≤ m) (hm2 : m ≤ 24) : ∃ p : Int → Bool, run fs (n + 3) j__law_rhythm [scr ns, .int k, .int m] = .ok (tupI (fil m p)) ∧ fil m p ≠ [] := by
  rw [run__law_rhythm]
  unfold b__law_rhythm
  have h1 : (1 : Int) ∈ (rgI 1 (m + 1)).filter (fun d => decide (m % d = 0)) := by
    rw [List.mem_filter, mem_rgI]
    exact ⟨by omega, decide_eq_true (Int.emod_one m)⟩
  have hlen : ((rgI 1 (m + 1)).filter (fun d => decide (m % d = 0))).length ≤ 24 := by
    refine Nat.le_trans (List.length_filter_le _ _) ?_
    rw [len_rgI]
    omega
  generalize hst : (rgI 1 (m + 1)).filter (fun d => decide (m % d = 0)) = st at *
  have hmem : ∀ d ∈ st, (1 ≤ d ∧ d ≤ m) ∧ m % d = 0 := fun d hd => by
    rw [← hst, List.mem_filter, mem_rgI, decide_eq_true_eq] at hd
    exact ⟨by omega, hd.2⟩
  have hl0 : 0 < st.length := List.length_pos_of_mem h1
  obtain ⟨len, ol, el⟩ : ∃ len : Int, opBl .len [lstI st] = .ok (.int len) ∧ (st.length : Int) = len := ⟨_, o_lenLI _, rfl⟩
  obtain ⟨d2, e2, l2, u2⟩ := v_drawn (n + 1) ns k len hn (by omega) (by omega) (by omega) (by omega)
  have hj : d2.toNat < st.length := by omega
  have hix : opIx (lstI st) (.int d2) = .ok (.int st[d2.toNat]) := opIxL (atI_nat (x := PyData.int st[d2.toNat]) l2 (by rw [List.getElem?_map, List.getElem?_eq_getElem hj] <;> rfl))
  obtain ⟨z, hz⟩ : ∃ z, st[d2.toNat] = z := ⟨_, rfl⟩
  have hzm := hmem z (by rw [← hz]; exact List.getElem_mem hj)
  rw [hz] at hix
  obtain ⟨c, hc⟩ := Int.dvd_of_emod_eq_zero hzm.2
  have hc0 : 0 < c := by
    rcases Int.lt_or_le 0 c with q | q
    · exact q
    · have : z * c ≤ z * 0 := Int.mul_le_mul_of_nonneg_left q (by omega)
      omega
  have hdiv := b_div m z ⟨by omega, by unfold two64; omega⟩
  have hmz : m / z = c := by
    rw [hc]
    exact Int.mul_ediv_cancel_left c (by omega)
  rw [hmz] at hdiv
  have hcm : c ≤ m := by
    have : 1 * c ≤ z * c := Int.mul_le_mul_of_nonneg_right (by omega) (by omega)
    omega
  have ex : ∀ b : Int, ∃ d : Int, 0 ≤ b → b < z → run fs (n + 2) j__law_drawn [scr ns, .int (k + 1 + b), .int c] = .ok (.int d) ∧ 0 ≤ d ∧ d < c := fun b => by
    by_cases hb : 0 ≤ b ∧ b < z
    · obtain ⟨d, e, q⟩ := v_drawn (n + 1) ns (k + 1 + b) c hn (by omega) (by omega) (by omega) (by omega)
      exact ⟨d, fun _ _ => ⟨e, q⟩⟩
    · exact ⟨0, fun q1 q2 => absurd ⟨q1, q2⟩ hb⟩
  obtain ⟨pk, hpk⟩ := Classical.axiomOfChoice ex
  obtain ⟨d1, e1, _, _⟩ := v_drawn (n + 1) ns (k + 25) 4 hn (by omega) (by omega) (by omega) (by omega)
  obtain ⟨p, ep, np⟩ := v_set n ns k m hn hk hk2 hm hm2
  have val : ∀ b, 0 ≤ b → b < z → (0 ≤ b + z * pk b ∧ b + z * pk b < m) ∧ (b + z * pk b) % z = b := fun b b0 b1 => by
    obtain ⟨_, g1, g2⟩ := hpk b b0 b1
    have a1 : 0 ≤ z * pk b := Int.mul_nonneg (by omega) g1
    have a2 : z * pk b ≤ z * (c - 1) := Int.mul_le_mul_of_nonneg_left (by omega) (by omega)
    rw [Int.mul_sub, Int.mul_one] at a2
    refine ⟨⟨by omega, by omega⟩, ?_⟩
    rw [Int.add_mul_emod_self_left]
    exact Int.emod_eq_of_lt b0 b1
  have s1 : evE (run fs (n + 2)) [.py (scr ns), .py (.int k), .py (.int m), .un, .un, .un, .un] (.lc [("_law_size", 4)] (.n 4) (.rg (.ci 1) (.bin .Add (.nm 2) (.ci 1))) (.b1 (.cmp .Eq (.bin .Mod (.nm 2) (.nm 4)) (.ci 0))) (.nm 4)) = .ok (lstI st) := by
    rw [← hst]
    exact lc_enc (enc := PyData.int) (rgI 1 (m + 1)) _ PyData.int (by simp [evI, zOr, rngI_ok (a := 1) (b := m + 1) (by omega) (by omega) (by omega) (by omega)]) (fun y hy => by
      have hy := mem_rgI.mp hy
      have hin := b_mod m y (by omega)
      by_cases q : m % y = 0 <;> simp [turnL, asgT, fgt, hin, c_eqI, q])
  let env : List Int → En := fun l => [.py (scr ns), .py (.int k), .py (.int m), .py (lstI st), .py (.int z), .own (l.map .int), .un]
  have loop : ∀ (xs l : List Int), (∀ x ∈ xs, 0 ≤ x ∧ x < z) → l.length + xs.length ≤ 100 → forL (fun x ρ' => match asgT (.n 6) x ρ' with
      | some ρ2 => evS (run fs (n + 2)) (.sq (.app 5 (.bin .Mod (.bin .Add (.nm 6) (.bin .Mult (.nm 4) (.call j__law_drawn (.cons (.nm 0) (.cons (.bin .Add (.bin .Add (.nm 1) (.ci 1)) (.nm 6)) (.cons (.bin .FloorDiv (.nm 2) (.nm 4)) .nil)))))) (.nm 2))) <| .nil) ρ2
      | none => .bad) [6] (xs.map .int) (env l) = .nx (env (l ++ xs.map fun b => b + z * pk b)) := by
    intro xs
    induction xs with
    | nil => intro l _ _; simp [forL]
    | cons x xs ih =>
      intro l hx hl
      rw [List.length_cons] at hl
      have bx := hx x List.mem_cons_self
      obtain ⟨g0, _, _⟩ := hpk x bx.1 bx.2
      obtain ⟨v1, _⟩ := val x bx.1 bx.2
      have hmul := b_mul z (pk x) (.inl (by unfold two64; omega))
      have hmod := b_mod (x + z * pk x) m (by omega)
      rw [Int.emod_eq_of_lt v1.1 v1.2] at hmod
      have hz' : l.length < SZ := by
        unfold SZ
        omega
      have he : evE (run fs (n + 2)) [.py (scr ns), .py (.int k), .py (.int m), .py (lstI st), .py (.int z), .own (l.map .int), .py (.int x)] (.bin .Mod (.bin .Add (.nm 6) (.bin .Mult (.nm 4) (.call j__law_drawn (.cons (.nm 0) (.cons (.bin .Add (.bin .Add (.nm 1) (.ci 1)) (.nm 6)) (.cons (.bin .FloorDiv (.nm 2) (.nm 4)) .nil)))))) (.nm 2)) = .ok (.int (x + z * pk x)) := by
        simp [hdiv, g0, hmul, hmod]
      have b : evS (run fs (n + 2)) (.sq (.app 5 (.bin .Mod (.bin .Add (.nm 6) (.bin .Mult (.nm 4) (.call j__law_drawn (.cons (.nm 0) (.cons (.bin .Add (.bin .Add (.nm 1) (.ci 1)) (.nm 6)) (.cons (.bin .FloorDiv (.nm 2) (.nm 4)) .nil)))))) (.nm 2))) <| .nil) [.py (scr ns), .py (.int k), .py (.int m), .py (lstI st), .py (.int z), .own (l.map .int), .py (.int x)] = .nx [.py (scr ns), .py (.int k), .py (.int m), .py (lstI st), .py (.int z), .own ((l ++ [x + z * pk x]).map .int), .py (.int x)] := by
        refine t_sq ?_ s_nil
        have hm : ment [.py (scr ns), .py (.int k), .py (.int m), .py (lstI st), .py (.int z), .own (l.map .int), .py (.int x)] (.bin .Mod (.bin .Add (.nm 6) (.bin .Mult (.nm 4) (.call j__law_drawn (.cons (.nm 0) (.cons (.bin .Add (.bin .Add (.nm 1) (.ci 1)) (.nm 6)) (.cons (.bin .FloorDiv (.nm 2) (.nm 4)) .nil)))))) (.nm 2)) = false := rfl
        simp only [evS, evX, hm, he]
        simp [isOwn, hz']
      rw [List.map_cons]
      unfold forL
      show (match evS (run fs (n + 2)) _ [.py (scr ns), .py (.int k), .py (.int m), .py (lstI st), .py (.int z), .own (l.map .int), .py (.int x)] with
        | .nx ρ' => forL _ [6] (xs.map .int) (fgt ρ' [6])
        | o => o) = _
      rw [b]
      have := ih (l ++ [x + z * pk x]) (fun y hy => hx y (List.mem_cons_of_mem _ hy)) (by rw [List.length_append, List.length_singleton]; omega)
      rw [List.append_assoc] at this
      exact this
  have l0 := loop (rgI 0 z) [] (fun x hx => mem_rgI.mp hx) (by rw [List.length_nil, len_rgI]; omega)
  rw [List.nil_append] at l0
  obtain ⟨F, hF⟩ : ∃ F, (rgI 0 z).map (fun b => b + z * pk b) = F := ⟨_, rfl⟩
  rw [hF] at l0
  have nF : F.Nodup := by
    rw [← hF, List.Nodup, List.pairwise_map]
    refine (up_rgI 0 z).imp_of_mem fun {a b} ha hb hab e => ?_
    have ha := mem_rgI.mp ha
    have hb := mem_rgI.mp hb
    have v1 := (val a ha.1 ha.2).2
    have v2 := (val b hb.1 hb.2).2
    rw [e] at v1
    omega
  have bF : ∀ x ∈ F, 0 ≤ x ∧ x < m := fun x hx => by
    rw [← hF] at hx
    obtain ⟨b, hb, rfl⟩ := List.mem_map.mp hx
    have hb := mem_rgI.mp hb
    exact (val b hb.1 hb.2).1
  have eF := isort_pq (m := m) nF bF
  have oF := o_sortI F
  rw [eF] at oF
  have neF : fil m (pq F) ≠ [] := fun q => by
    have l1 := len_isort F
    rw [eF, q, ← hF, List.length_map, len_rgI, List.length_nil] at l1
    omega
  have tail : ∃ p : Int → Bool, evE (run fs (n + 2)) (thaw (env F)) (.ite (.cmp .Eq (.call j__law_drawn (.cons (.nm 0) (.cons (.bin .Add (.nm 1) (.ci 25)) (.cons (.ci 4) .nil)))) (.ci 0)) (.call j__law_set (.cons (.nm 0) (.cons (.nm 1) (.cons (.nm 2) .nil)))) (.blt .tuple (.cons (.blt .sorted (.cons (.nm 5) .nil)) .nil))) = .ok (tupI (fil m p)) ∧ fil m p ≠ [] := by
    by_cases q : d1 = 0
    · exact ⟨p, by simp [env, e1, c_eqI, q, ep], np⟩
    · exact ⟨pq F, by simp [env, e1, c_eqI, q, oF, o_tupI], neF⟩
  obtain ⟨p', et, nt⟩ := tail
  refine ⟨p', ?_, nt⟩
  exact fin_ret (t_sq (s_asg s1) (t_sq (s_asg (d := .int z) (by simp [ol, e2, hix])) (t_sq (ρ' := env []) (by simp [evS, isFresh, ment, SZ, env]) (t_sq ((s_fr (xs := (rgI 0 z).map .int) (by simp [evI, zOr, env, rngI_ok (a := 0) (b := z) (by omega) (by omega) (by omega) (by omega)])).trans l0) (t_ret et)))))
theorem c_notInT (i : Int) (l : List Int) : opCmp .NotIn (.int i) (tupI l) = .ok (!decide (i ∈ l)) := by
  show (if flatD (.int i) && (l.map PyData.int).all flatD then Out.ok (!memD (.int i) (l.map .int)) else .bad) = _
  rw [flat_ints, mem_int] <;> rfl
end K54

namespace K54
open PySem Mz
/-- rhythms of a cycle -/
structure OkR (m : Int) (ps : List (Int → Bool)) : Prop where
  m1 : 1 ≤ m
  m2 : m ≤ 24
  l1 : 1 ≤ ps.length
  l3 : ps.length ≤ 3
  ne : ∀ p ∈ ps, fil m p ≠ []
theorem OkR.s {m : Int} {ps : List (Int → Bool)} (h : OkR m ps) {p : Int → Bool} (hp : p ∈ ps) : OkS m (fil m p) := .fil h.m1 h.m2 (h.ne p hp)
def rhs (m : Int) (ps : List (Int → Bool)) : D := .list (ps.map fun p => tupI (fil m p))
theorem len_rhs (m : Int) (ps : List (Int → Bool)) : opBl .len [rhs m ps] = .ok (.int ps.length) := by
  show Out.ok (PyData.int ((ps.map fun p => tupI (fil m p)).length : Nat)) = _
  rw [List.length_map]
theorem v_check_rhythms (n : Nat) {m : Int} {ps : List (Int → Bool)} (h : OkR m ps) : run fs (n + 4) j_check_rhythms [.int m, rhs m ps] = .ok .none := by
  rw [run_check_rhythms]
  unfold b_check_rhythms
  obtain ⟨L, eL, l1, l3⟩ : ∃ L : Int, opBl .len [rhs m ps] = .ok (.int L) ∧ 1 ≤ L ∧ L ≤ 3 := ⟨_, len_rhs m ps, by have := h.l1; omega, by have := h.l3; omega⟩
  have e1 := v_check_cycle n h.m1 h.m2
  have e2 := lc_all (cal := run fs (n + 3)) (ρ := [.py (.int m), .py (rhs m ps), .un]) (ow := [("rhythm", 2)]) (t := .n 2) (it := .b1 (.nm 1)) (c := .nil) (e := .call j_has_set (.cons (.nm 0) (.cons (.nm 2) .nil))) (enc := fun p => tupI (fil m p)) ps (fun _ => .bool true)
      (by simp [evI, rhs]) (fun p hp => by
        have := v_has_set (n + 1) (h.s hp)
        simp [turnL, asgT, fgt, this])
  have e3 : isD .list (rhs m ps) = .ok true := rfl
  exact fin_nx (t_sq (s_xpr (d := .none) (by simp [e1])) (t_sq (s_ifF (by simp [e3, eL, l1, l3]) s_nil) (t_sq (s_ifF (by simp [e2, o_all]) s_nil) s_nil)))
theorem tlF_len (m : Int) : ∀ (ps : List (Int → Bool)) (k : Int), (∀ p ∈ ps, per m p ≤ m) → (tlF m k ps).length ≤ ps.length * m.toNat
  | [], _, _ => by simp [tlF]
  | p :: r, k, h => by
    have ih := tlF_len m r (k + 1) fun q hq => h q (List.mem_cons_of_mem _ hq)
    have h1 := h p List.mem_cons_self
    rw [tlF, List.length_append, List.length_map, len_rgI, List.length_cons, Nat.succ_mul]
    have : (per m p - 0).toNat ≤ m.toNat := by omega
    omega
theorem tlF_len' {m : Int} {ps : List (Int → Bool)} (h : OkR m ps) : (tlF m 0 ps).length ≤ 72 := by
  have h1 := tlF_len m ps 0 fun p _ => (per_spec (by have := h.m1; omega)).2.1
  have h2 := h.l3
  have h3 := h.m2
  have h4 : m.toNat ≤ 24 := by omega
  have := Nat.mul_le_mul h2 h4
  omega
theorem v_all_tiles (n : Nat) {m : Int} {ps : List (Int → Bool)} (h : OkR m ps) : run fs (n + 3) j_all_tiles [.int m, rhs m ps] = .ok (.list ((tlF m 0 ps).map encT)) := by
  have hm : 0 < m := by have := h.m1; omega
  have hm2 := h.m2
  rw [run_all_tiles]
  unfold b_all_tiles
  obtain ⟨R, eR⟩ : ∃ R, rhs m ps = R := ⟨_, rfl⟩
  have loop : ∀ (qs : List (Int → Bool)) (k : Nat) (acc : List D), (∀ q ∈ qs, OkS m (fil m q)) → acc.length + (tlF m k qs).length ≤ SZ → forL (fun x ρ' => match asgT (.t [3, 4]) x ρ' with
      | some ρ2 => evS (run fs (n + 2)) (.sq (.fr (.n 5) (.rg .nil (.call j_find_period (.cons (.nm 0) (.cons (.nm 4) .nil)))) (
      .sq (.app 2 (.tup (.cons (.tup (.cons (.nm 3) (.cons (.nm 5) .nil))) (.cons (.call j_move_by (.cons (.nm 0) (.cons (.nm 4) (.cons (.nm 5) .nil)))) .nil)))) <|
      .nil) [5]) <|
    .nil) ρ2
      | none => .bad) [3, 4, 5] (enmD k (qs.map fun p => tupI (fil m p))) [.py (.int m), .py R, .own acc, .un, .un, .un] = .nx [.py (.int m), .py R, .own (acc ++ (tlF m k qs).map encT), .un, .un, .un] := by
    intro qs
    induction qs with
    | nil =>
      intro k acc _ _
      simp [tlF, enmD, forL]
    | cons p r ih =>
      intro k acc hq hl
      rw [tlF, List.length_append, List.length_map] at hl
      have hp := hq p List.mem_cons_self
      have hfp := v_find_period n hp
      have hper := per_spec hm (p := p)
      obtain ⟨P, eP⟩ : ∃ P, per m p = P := ⟨_, rfl⟩
      rw [eP] at hfp hper hl
      have inner := forL_map (enc := PyData.int) (f := fun x ρ' => match asgT (.n 5) x ρ' with
          | some ρ2 => evS (run fs (n + 2)) (.sq (.app 2 (.tup (.cons (.tup (.cons (.nm 3) (.cons (.nm 5) .nil))) (.cons (.call j_move_by (.cons (.nm 0) (.cons (.nm 4) (.cons (.nm 5) .nil)))) .nil)))) <| .nil) ρ2
          | none => .bad) (tmp := [5]) (env := fun acc => [.py (.int m), .py R, .own acc, .py (.int k), .py (tupI (fil m p)), .un]) (g := fun s => [encT ([(k : Int), s], mv m p s)]) SZ (rgI 0 P) (fun s hs acc hl => by
            have e := w_move (n + 1) (k := s) (p := p) hm
            refine ⟨_, t_sq (w_app (d := encT ([(k : Int), s], mv m p s)) rfl (by
              simp [e, SZ]
              rfl) rfl (by simp at hl; omega)) s_nil, rfl⟩) acc (by
            rw [flatMap_one, List.length_map]
            omega)
      rw [List.map_cons, enmD]
      have hfr : evS (run fs (n + 2)) (.sq (.fr (.n 5) (.rg .nil (.call j_find_period (.cons (.nm 0) (.cons (.nm 4) .nil)))) (
          .sq (.app 2 (.tup (.cons (.tup (.cons (.nm 3) (.cons (.nm 5) .nil))) (.cons (.call j_move_by (.cons (.nm 0) (.cons (.nm 4) (.cons (.nm 5) .nil)))) .nil)))) <|
          .nil) [5]) <| .nil) [.py (.int m), .py R, .own acc, .py (.int k), .py (tupI (fil m p)), .un] = .nx [.py (.int m), .py R, .own (acc ++ (rgI 0 P).flatMap fun s => [encT ([(k : Int), s], mv m p s)]), .py (.int k), .py (tupI (fil m p)), .un] :=
        t_fr (xs := (rgI 0 P).map .int) (by simp [evI, zOr, hfp, rngI_ok (a := 0) (b := P) (by omega) (by omega) (by omega) (by omega)]) inner s_nil
      refine (forL_cons hfr).trans ?_
      have e3 : ((rgI 0 P).flatMap fun s => [encT ([(k : Int), s], mv m p s)]) = ((rgI 0 P).map fun s => (([(k : Int), s], mv m p s) : Tl)).map encT := by
        rw [List.map_map, flatMap_one] <;> rfl
      have ih2 := ih (k + 1) (acc ++ (rgI 0 P).flatMap fun s => [encT ([(k : Int), s], mv m p s)]) (fun q hq' => hq q (List.mem_cons_of_mem _ hq')) (by
        rw [List.length_append, e3, List.length_map, List.length_map]
        have : ((k + 1 : Nat) : Int) = (k : Int) + 1 := by omega
        rw [this]
        omega)
      have e4 : ((k + 1 : Nat) : Int) = (k : Int) + 1 := by omega
      rw [e4] at ih2
      refine Eq.trans ih2 ?_
      rw [tlF, eP, e3, List.map_append, List.append_assoc]
  have hl := tlF_len' h
  have l0 := loop ps 0 [] (fun q hq => h.s hq) (by unfold SZ; simp; omega)
  refine fin_ret (t_sq (ρ' := [.py (.int m), .py R, .own [], .un, .un, .un]) (by rw [eR]; simp [evS, isFresh, ment, SZ]) (t_fr (xs := enmD 0 (ps.map fun p => tupI (fil m p))) (by rw [← eR]; simp [evI, rhs]) l0 (t_ret (by simp))))
end K54

namespace K54
open PySem Mz
theorem ixT0 (x : Int) (l : List Int) : opIx (tupI (x :: l)) (.int 0) = .ok (.int x) := by
  show (match L2.atI ((x :: l).map PyData.int) 0 with
    | some d => Out.ok d
    | none => .bad) = _
  rw [atI_nat (x := .int x) (by omega) rfl]
/-- the beats that are left -/
theorem e_rest {cal : Nat → List D → Out D} {ρ : En} {x : Str} {i a b : Nat} {left : List Int} {t : Tl} (h1 : ρ[a]? = some (.py (tupI left))) (h2 : (fgt ρ [i])[b]? = some (.py (tupI t.2))) (hb : b ≠ i) (hi : i < ρ.length) :
    evE cal ρ (.lc [(x, i)] (.n i) (.b1 (.nm a)) (.b1 (.cmp .NotIn (.nm i) (.nm b))) (.nm i)) = .ok (.list ((remT left t).map .int)) :=
  lc_enc (enc := PyData.int) left _ PyData.int (by simp [evI, h1, tupI]) (fun y _ => by
    have hl : i < (fgt ρ [i]).length := by rw [fgt_length]; exact hi
    have e1 : ((fgt ρ [i]).set i (.py (.int y)))[i]? = some (.py (.int y)) := by rw [List.getElem?_set_self hl]
    have e2 : ((fgt ρ [i]).set i (.py (.int y)))[b]? = some (.py (tupI t.2)) := by rw [List.getElem?_set_ne (Ne.symm hb)]; exact h2
    have q := c_notInT y t.2
    simp only [turnL, List.map_cons, List.map_nil, asgT, e_cmp, e_b1, e_nm, e1, e2, bnd_ok, q, asB_ok']
    cases decide (y ∈ t.2) <;> rfl)
theorem e_okT {cal : Nat → List D → Out D} {d0 d2 d3 d4 : Slot} {x : Int} {l : List Int} {t : Tl} : evE cal [d0, .py (tupI (x :: l)), d2, d3, d4, .py (tupI t.2), .un] mm2 = .ok (.bool (okT (x :: l) t)) := by
  have e := lc_all (cal := cal) (ρ := [d0, .py (tupI (x :: l)), d2, d3, d4, .py (tupI t.2), .un]) (ow := [("beat", 6)]) (t := .n 6) (it := .b1 (.nm 5)) (c := .nil) (e := .cmp .In (.nm 6) (.nm 1)) (enc := PyData.int) t.2 (fun b => .bool (decide (b ∈ x :: l)))
    (by simp [evI, tupI]) (fun b _ => by
      have q := c_inT b (x :: l)
      simp only [turnL, asgT, fgt, List.map_cons, List.map_nil, e_cmp, e_nm, List.set, List.getElem?_cons_succ, List.getElem?_cons_zero, bnd_ok, q])
  have c1 := c_inT x t.2
  have c2 := ixT0 x l
  have c3 := o_all (fun b => decide (b ∈ x :: l)) t.2
  have ok : okT (x :: l) t = (decide (x ∈ t.2) && t.2.all fun b => decide (b ∈ x :: l)) := rfl
  rw [ok]
  cases hx : decide (x ∈ t.2) with
  | false =>
    rw [hx] at c1
    simp [c1, c2]
  | true =>
    rw [hx] at c1
    simp only [e_band, e_cmp, e_sub, e_nm, e_ci, e_b1, e_blt, a_cons', a_nil', List.getElem?_cons_succ, List.getElem?_cons_zero, bnd_ok, c1, c2, e, c3, asB_ok', if_true, Bool.true_and]
theorem v_memo (T : List Tl) : ∀ (n k : Nat) (left : List Int), left.length < n → run fs (k + n) j_memo [.list (T.map encT), tupI left] = .ok (.int ((tls T n left).length : Nat))
  | 0, _, _, h => by omega
  | n + 1, k, [], _ => by
    rw [show k + (n + 1) = (k + n) + 1 from rfl, run_memo]
    unfold memoV
    have c1 : opCmp .Eq (tupI []) (.tuple []) = .ok true := by
      have := c_eqT [] []
      simpa [tupI] using this
    rw [tls]
    exact fin_ret (t_ifR (by simp [c1, SZ]) (t_ret (by simp)))
  | n + 1, k, x :: l, h => by
    rw [show k + (n + 1) = (k + n) + 1 from rfl, run_memo]
    unfold memoV
    have c1 : opCmp .Eq (tupI (x :: l)) (.tuple []) = .ok false := by
      have := c_eqT (x :: l) []
      rw [decide_eq_false (by simp)] at this
      exact this
    obtain ⟨X, eX⟩ : ∃ X, PyData.list (T.map encT) = X := ⟨_, rfl⟩
    rw [eX]
    let env : Int × Slot × Slot → En := fun b => [.py X, .py (tupI (x :: l)), .un, .py (.int b.1), b.2.1, b.2.2, .un]
    let step : Int × Slot × Slot → Tl → Int × Slot × Slot := fun b t => (b.1 + (if okT (x :: l) t = true then ((tls T n (remT (x :: l) t)).length : Int) else 0), .py (tupI t.1), .py (tupI t.2))
    have loop := forL_foldM (enc := encT) (f := fun x ρ' => match asgT (.t [4, 5]) x ρ' with
        | some ρ2 => evS (run fs (k + n)) (mmB j_memo) ρ2
        | none => .bad) (tmp := []) (env := env) (step := step) (Inv := fun _ => True) T (0, .un, .un) trivial (fun t _ b _ => by
          refine ⟨env (step b t), ?_, rfl, trivial⟩
          show evS (run fs (k + n)) (mmB j_memo) [.py X, .py (tupI (x :: l)), .un, .py (.int b.1), .py (tupI t.1), .py (tupI t.2), .un] = _
          have e1 : evE (run fs (k + n)) (thaw [.py X, .py (tupI (x :: l)), .un, .py (.int b.1), .py (tupI t.1), .py (tupI t.2), .un]) mm2 = .ok (.bool (okT (x :: l) t)) := by
            show evE (run fs (k + n)) [.py X, .py (tupI (x :: l)), .un, .py (.int b.1), .py (tupI t.1), .py (tupI t.2), .un] mm2 = _
            exact e_okT
          by_cases ok : okT (x :: l) t = true
          · rw [ok] at e1
            have hle : (remT (x :: l) t).length < n := by
              have h1 := (okT_iff.mp ok).1
              have : (remT (x :: l) t).length < (x :: l).length := by
                unfold remT
                refine List.length_filter_lt_length_iff_exists.mpr ⟨x, List.mem_cons_self, ?_⟩
                simp [h1]
              omega
            have rec1 := v_memo T n k (remT (x :: l) t) hle
            rw [eX] at rec1
            have e3 : evE (run fs (k + n)) [.py X, .py (tupI (x :: l)), .un, .py (.int b.1), .py (tupI t.1), .py (tupI t.2), .un] mm3 = .ok (tupI (remT (x :: l) t)) := by
              unfold mm3
              rw [blt1, e_rest (left := x :: l) (t := t) rfl rfl (by decide) (by simp)]
              rfl
            have es : step b t = (b.1 + ((tls T n (remT (x :: l) t)).length : Int), .py (tupI t.1), .py (tupI t.2)) := by
              show (b.1 + (if okT (x :: l) t = true then ((tls T n (remT (x :: l) t)).length : Int) else 0), _, _) = _
              rw [if_pos ok]
            rw [es]
            refine t_sq (s_ifT e1 (t_sq (s_asg (d := .int (b.1 + ((tls T n (remT (x :: l) t)).length : Int))) ?_) s_nil)) s_nil
            generalize ((tls T n (remT (x :: l) t)).length : Int) = c at rec1
            simp only [e_bin, e_call, a_cons', a_nil', e_nm, List.getElem?_cons_succ, List.getElem?_cons_zero, bnd_ok, e3, rec1, b_add]
          · have okf : okT (x :: l) t = false := by simpa using ok
            rw [okf] at e1
            have es : step b t = (b.1, .py (tupI t.1), .py (tupI t.2)) := by
              show (b.1 + (if okT (x :: l) t = true then ((tls T n (remT (x :: l) t)).length : Int) else 0), _, _) = _
              rw [if_neg ok, Int.add_zero]
            rw [es]
            exact t_sq (s_ifF e1 s_nil) s_nil)
    have tot : ∀ (L : List Tl) (b : Int × Slot × Slot), (L.foldl step b).1 = b.1 + (((L.filter (okT (x :: l))).map fun t => (tls T n (remT (x :: l) t)).length).sum : Nat) := by
      intro L
      induction L with
      | nil => intro b; simp
      | cons t r ih =>
        intro b
        rw [List.foldl_cons, ih]
        by_cases ok : okT (x :: l) t = true
        · rw [List.filter_cons_of_pos ok, List.map_cons, List.sum_cons]
          show b.1 + (if okT (x :: l) t = true then ((tls T n (remT (x :: l) t)).length : Int) else 0) + _ = _
          rw [if_pos ok]
          omega
        · rw [List.filter_cons_of_neg ok]
          show b.1 + (if okT (x :: l) t = true then ((tls T n (remT (x :: l) t)).length : Int) else 0) + _ = _
          rw [if_neg ok]
          omega
    have te := tot T (0, .un, .un)
    have el : (tls T (n + 1) (x :: l)).length = ((T.filter (okT (x :: l))).map fun t => (tls T n (remT (x :: l) t)).length).sum := by
      rw [tls, len_fm]
      congr 1
      refine List.map_congr_left fun t _ => ?_
      rw [List.length_map]
    rw [← el] at te
    obtain ⟨w, ew⟩ : ∃ w, T.foldl step (0, .un, .un) = w := ⟨_, rfl⟩
    rw [ew] at te loop
    have te' : w.1 = ((tls T (n + 1) (x :: l)).length : Int) := by
      rw [te]
      omega
    rw [← te']
    refine fin_ret (t_sq (s_ifF (by simp [c1, SZ]) s_nil) (t_sq (s_asg (d := .int 0) (by simp)) (t_fr (xs := T.map encT) (by simp [evI, env, ← eX]) loop.1 (t_ret (by simp [env])))))
theorem memo_lt (T : List Tl) {n : Nat} {left : List Int} (h : left.length < n) : ∀ k, run fs (k + n) j_memo [.list (T.map encT), tupI left] = .ok (.int ((tls T n left).length : Nat)) := fun k => v_memo T n k left h
end K54

namespace K54
open PySem Mz
def cntT (m : Int) (ps : List (Int → Bool)) : Nat := (tls (tlF m 0 ps) 13 (rgI 0 m)).length
theorem len_rg0 {m : Int} (h2 : m ≤ 12) : (rgI 0 m).length < 13 := by
  rw [len_rgI]
  omega
theorem v_find_count (n : Nat) {m : Int} {ps : List (Int → Bool)} (h : OkR m ps) (h2 : m ≤ 12) : run fs (n + 14) j_find_count [.int m, rhs m ps] = .ok (.int (cntT m ps : Nat)) := by
  have h1 := h.m1
  rw [run_find_count]
  unfold b_find_count
  have e1 := v_all_tiles (n + 10) h
  have e2 := memo_lt (tlF m 0 ps) (len_rg0 h2) n
  have e3 := cc_ok (d := .int (cntT m ps : Nat)) (ns := rgI 0 m) (by have := len_rg0 h2; omega)
  have e4 : PyData.tuple ((rgI 0 m).map .int) = tupI (rgI 0 m) := rfl
  have e5 : run fs (n + 13) j_memo [.list ((tlF m 0 ps).map encT), tupI (rgI 0 m)] = .ok (.int (cntT m ps : Nat)) := e2
  generalize (cntT m ps : Int) = c at *
  exact fin_ret (t_ret (by simp [e1, zOr, rngI_ok (a := 0) (b := m) (by omega) (by omega) (by omega) (by omega), e4, e5, e3]))
theorem v_check_small (n : Nat) {m : Int} {ps : List (Int → Bool)} (h : OkR m ps) (h2 : m ≤ 12) : run fs (n + 5) j_check_small [.int m, rhs m ps] = .ok .none := by
  rw [run_check_small]
  unfold b_check_small
  have e1 := v_check_rhythms n h
  have : ¬ 12 < m := by omega
  exact fin_nx (t_sq (s_xpr (d := .none) (by simp [e1])) (t_sq (s_ifF (by simp [this]) s_nil) s_nil))
theorem v_can_tile (n : Nat) {m : Int} {ps : List (Int → Bool)} (h : OkR m ps) (h2 : m ≤ 12) : run fs (n + 15) j_can_tile [.int m, rhs m ps] = .ok (.bool (decide (cntT m ps ≠ 0))) := by
  rw [run_can_tile]
  unfold b_can_tile
  have e1 := v_check_small (n + 9) h h2
  have e2 := v_find_count n h h2
  have e3 : decide ((0 : Int) < (cntT m ps : Nat)) = decide (cntT m ps ≠ 0) := by
    by_cases z : cntT m ps = 0 <;> simp [z] <;> omega
  rw [← e3]
  generalize (cntT m ps : Int) = c at *
  exact fin_ret (t_sq (s_xpr (d := .none) (by simp [e1])) (t_ret (by simp [e2])))
theorem v_count_tilings (n : Nat) {m : Int} {ps : List (Int → Bool)} (h : OkR m ps) (h2 : m ≤ 12) : run fs (n + 15) j_count_tilings [.int m, rhs m ps] = .ok (.int (cntT m ps : Nat)) := by
  rw [run_count_tilings]
  unfold b_count_tilings
  have e1 := v_check_small (n + 9) h h2
  have e2 := v_find_count n h h2
  generalize (cntT m ps : Int) = c at *
  exact fin_ret (t_sq (s_xpr (d := .none) (by simp [e1])) (t_ret (by simp [e2])))
/-! lists of tiles -/
theorem can_encs : ∀ l : List Tl, PyData.canLayAll0 (l.map encT) = true
  | [] => rfl
  | x :: r => by
    show (PyData.canLay0 (encT x) && PyData.canLayAll0 (r.map encT)) = true
    rw [can_encs r]
    unfold encT tupI
    rw [PyData.canLay0, PyData.canLayAll0, PyData.canLayAll0, PyData.canLay0, PyData.canLay0, can_ints, can_ints] <;> rfl
theorem depth_encs : ∀ l : List Tl, PyData.depthAll (l.map encT) ≤ 2
  | [] => by decide
  | x :: r => by
    show max (PyData.depth (encT x)) (PyData.depthAll (r.map encT)) ≤ 2
    have := depth_encs r
    have e : PyData.depth (encT x) ≤ 2 := by
      unfold encT tupI
      simp only [PyData.depth, PyData.depthAll, depth_ints]
      decide
    omega
theorem sh_encs (l : List Tl) : SeqAt.shaped (.list (l.map encT)) = true := by
  unfold SeqAt.shaped
  simp only [PyData.canLay0, PyData.depth, can_encs, Bool.true_and, decide_eq_true_eq]
  exact decide_eq_true (Nat.le_trans (Nat.add_le_add_right (depth_encs l) 1) (show 2 + 1 ≤ 64 by decide))
theorem c_neTs (l : List Tl) : opCmp .NotEq (.list (l.map encT)) (.list []) = .ok (decide (l ≠ [])) := by
  show (if SeqAt.shaped (.list (l.map encT)) && SeqAt.shaped (.list []) then Out.ok (!PyData.eqv (.list (l.map encT)) (.list [])) else .bad) = _
  rw [sh_encs, show SeqAt.shaped (.list []) = true from rfl]
  cases l with
  | nil => rfl
  | cons x r => simp [PyData.eqv, PyData.eqvAll]
theorem rem_iff {left : List Int} {t : Tl} (hn : left.Nodup) (tn : t.2.Nodup) : ((remT left t).length : Int) = (left.length : Int) - (t.2.length : Int) ↔ ∀ b ∈ t.2, b ∈ left := by
  constructor
  · intro h b hb
    have p := List.filter_append_perm (fun b => decide (b ∈ t.2)) left
    have q := p.length_eq
    rw [List.length_append] at q
    have e : (left.filter fun x => !decide (x ∈ t.2)) = remT left t := rfl
    rw [e] at q
    have hi : (left.filter fun b => decide (b ∈ t.2)).length = t.2.length := by omega
    cases z : decide (b ∈ left) with
    | true => exact of_decide_eq_true z
    | false =>
      have hb2 : b ∉ left := of_decide_eq_false z
      have := nodup_len (l := b :: left.filter fun b => decide (b ∈ t.2)) (m := t.2) (List.nodup_cons.mpr ⟨fun y => hb2 (List.mem_filter.mp y).1, hn.filter _⟩) fun x hx => by
        rcases List.mem_cons.mp hx with rfl | hx
        · exact hb
        · exact of_decide_eq_true (List.mem_filter.mp hx).2
      rw [List.length_cons] at this
      omega
  · intro h
    have := rem_len hn tn h
    omega
theorem add_row (r : List Nm) (x : Nm) (h : r.length ≤ 1000) : opBin .Add (rowD r) (.tuple [tupI x]) = .ok (rowD (r ++ [x])) := by
  unfold rowD
  rw [List.map_append]
  show (if (r.map tupI).length + 1 ≤ SZ then Out.ok (PyData.tuple (r.map tupI ++ [tupI x])) else .bad) = _
  rw [if_pos (by rw [List.length_map]; unfold SZ; omega)] <;> rfl
def fwB : M := .sq (.asg (.t [6, 7]) (.sub (.nm 2) (.ci 0))) <|
    .sq (.asg (.n 5) (.blt .tuple (.cons (.lc [("beat", 8)] (.n 8) (.b1 (.nm 3)) (.b1 (.cmp .NotIn (.nm 8) (.nm 7))) (.nm 8)) .nil))) <|
    .sq (.asg (.n 2) (.slc (.nm 2) (.b1 (.ci 1)) .nil)) <|
    .sq (.ifs (.band (.cmp .Eq (.blt .len (.cons (.nm 5) .nil)) (.bin .Sub (.blt .len (.cons (.nm 3) .nil)) (.blt .len (.cons (.nm 7) .nil)))) (.b1 (.cmp .Gt (.cc j_memo (.nm 2) (.nm 5)) (.ci 0)))) (
      .sq (.par 4 3 (.bin .Add (.nm 4) (.tup (.cons (.nm 6) .nil))) (.nm 5)) <|
      .nil) (.nil)) <|
    .nil
theorem fw_loop (k : Nat) (X R : D) : ∀ (T : List Tl) (left : List Int) (found : List Nm) (s5 s6 s7 : Slot) (fuel : Nat), TOk T → left.Nodup → left.length < 13 → found.length + T.length ≤ 1000 → T.length < fuel → NoOwn [s5, s6, s7] →
    ∃ a b c d e, whL (fun ρ' => evE (run fs (k + 13)) (thaw ρ') (.band (.cmp .NotEq (.nm 2) (.lst (.nil))) (.b1 (.cmp .NotEq (.nm 3) (.tup (.nil)))))) (fun ρ' => evS (run fs (k + 13)) fwB ρ') fuel [.py X, .py R, .py (.list (T.map encT)), .py (tupI left), .py (rowD found), s5, s6, s7, .un] = .nx [.py X, .py R, a, b, .py (rowD (found ++ gd 13 T left)), c, d, e, .un]
  | [], left, found, s5, s6, s7, 0, _, _, _, _, hf, _ => by omega
  | [], left, found, s5, s6, s7, fuel + 1, _, _, _, _, _, nO => by
    refine ⟨.py (.list []), .py (tupI left), s5, s6, s7, ?_⟩
    unfold whL
    have c := c_neTs []
    have e : evE (run fs (k + 13)) (thaw [.py X, .py R, .py (.list (([] : List Tl).map encT)), .py (tupI left), .py (rowD found), s5, s6, s7, .un]) (.band (.cmp .NotEq (.nm 2) (.lst (.nil))) (.b1 (.cmp .NotEq (.nm 3) (.tup (.nil))))) = .ok (.bool false) := by
      simp [SZ] at c ⊢
      simp [thaw, c]
    rw [e]
    simp [gd]
  | t :: T, left, found, s5, s6, s7, 0, _, _, _, _, hf, _ => by omega
  | t :: T, left, found, s5, s6, s7, fuel + 1, hT, hn, hl, hs, hf, nO => by
    unfold whL
    have c1 := c_neTs (t :: T)
    rw [decide_eq_true (by simp)] at c1
    have c2 : opCmp .NotEq (tupI left) (.tuple []) = .ok (decide (left ≠ [])) := c_neT left []
    by_cases e0 : left = []
    · have e : evE (run fs (k + 13)) (thaw [.py X, .py R, .py (.list ((t :: T).map encT)), .py (tupI left), .py (rowD found), s5, s6, s7, .un]) (.band (.cmp .NotEq (.nm 2) (.lst (.nil))) (.b1 (.cmp .NotEq (.nm 3) (.tup (.nil))))) = .ok (.bool false) := by
        rw [decide_eq_false (by simp [e0])] at c2
        simp only [thaw, List.map_cons, e_band, e_cmp, e_nm, e_lst, e_tup, e_b1, a_nil', List.getElem?_cons_succ, List.getElem?_cons_zero, bnd_ok, SZ, List.length_nil, Nat.zero_le, if_true, c2, asB_ok'] at c1 ⊢
        rw [c1]
        rfl
      rw [e]
      refine ⟨.py (.list ((t :: T).map encT)), .py (tupI left), s5, s6, s7, ?_⟩
      rw [e0, gd_nil, List.append_nil]
    · have e : evE (run fs (k + 13)) (thaw [.py X, .py R, .py (.list ((t :: T).map encT)), .py (tupI left), .py (rowD found), s5, s6, s7, .un]) (.band (.cmp .NotEq (.nm 2) (.lst (.nil))) (.b1 (.cmp .NotEq (.nm 3) (.tup (.nil))))) = .ok (.bool true) := by
        rw [decide_eq_true (by simp [e0])] at c2
        simp only [thaw, List.map_cons, e_band, e_cmp, e_nm, e_lst, e_tup, e_b1, a_nil', List.getElem?_cons_succ, List.getElem?_cons_zero, bnd_ok, SZ, List.length_nil, Nat.zero_le, if_true, c2, asB_ok'] at c1 ⊢
        rw [c1]
        rfl
      rw [e]
      simp only
      have tn := hT.nd t List.mem_cons_self
      have hTT : TOk T := hT.sub (List.sublist_cons_self t T)
      obtain ⟨r, er⟩ : ∃ r, remT left t = r := ⟨_, rfl⟩
      have hr : r.length ≤ left.length := by
        rw [← er]
        exact List.length_filter_le _ _
      have nO2 : NoOwn [.py (tupI r), .py (tupI t.1), .py (tupI t.2)] := fun i ds z => by
        match i, z with
        | 0, z => cases z
        | 1, z => cases z
        | 2, z => cases z
      -- a turn
      have memo := memo_lt T (n := 13) (left := r) (by omega) k
      obtain ⟨cn, ecn⟩ : ∃ cn, (tls T 13 r).length = cn := ⟨_, rfl⟩
      rw [ecn] at memo
      have cc := cc_ok (d := .int (cn : Nat)) (ns := r) (by omega)
      have hlen : decide ((r.length : Int) = (left.length : Int) - (t.2.length : Int)) = decide (∀ b ∈ t.2, b ∈ left) := by
        rw [← er]
        exact decide_eq_decide.mpr (rem_iff hn tn)
      have hcn : decide ((0 : Int) < (cn : Int)) = decide (tls T 13 r ≠ []) := by
        rw [← ecn]
        cases tls T 13 r with
        | nil => rfl
        | cons x y => simp
      have ol1 : opBl .len [tupI r] = .ok (.int r.length) := by
        show Out.ok (PyData.int ((r.map PyData.int).length : Nat)) = _
        rw [List.length_map]
      have ol2 : opBl .len [tupI left] = .ok (.int left.length) := by
        show Out.ok (PyData.int ((left.map PyData.int).length : Nat)) = _
        rw [List.length_map]
      have ol3 : opBl .len [tupI t.2] = .ok (.int t.2.length) := by
        show Out.ok (PyData.int ((t.2.map PyData.int).length : Nat)) = _
        rw [List.length_map]
      have ar := add_row found t.1 (by rw [List.length_cons] at hs; omega)
      have u1 : evS (run fs (k + 13)) (.asg (.t [6, 7]) (.sub (.nm 2) (.ci 0))) [.py X, .py R, .py (.list ((t :: T).map encT)), .py (tupI left), .py (rowD found), s5, s6, s7, .un] = .nx [.py X, .py R, .py (.list ((t :: T).map encT)), .py (tupI left), .py (rowD found), s5, .py (tupI t.1), .py (tupI t.2), .un] :=
        s_asg (d := encT t) (by
          have : opIx (.list ((t :: T).map encT)) (.int 0) = .ok (encT t) := opIxL (atI_nat (by omega) rfl)
          simp only [e_sub, e_nm, e_ci, List.getElem?_cons_succ, List.getElem?_cons_zero, bnd_ok, this]) (by rfl) rfl
      have u2 : evS (run fs (k + 13)) (.asg (.n 5) (.blt .tuple (.cons (.lc [("beat", 8)] (.n 8) (.b1 (.nm 3)) (.b1 (.cmp .NotIn (.nm 8) (.nm 7))) (.nm 8)) .nil))) [.py X, .py R, .py (.list ((t :: T).map encT)), .py (tupI left), .py (rowD found), s5, .py (tupI t.1), .py (tupI t.2), .un] = .nx [.py X, .py R, .py (.list ((t :: T).map encT)), .py (tupI left), .py (rowD found), .py (tupI r), .py (tupI t.1), .py (tupI t.2), .un] :=
        s_asg (d := tupI r) (by
          rw [blt1, e_rest (left := left) (t := t) rfl rfl (by decide) (by simp), er]
          rfl) (by rfl) rfl
      have u3 : evS (run fs (k + 13)) (.asg (.n 2) (.slc (.nm 2) (.b1 (.ci 1)) .nil)) [.py X, .py R, .py (.list ((t :: T).map encT)), .py (tupI left), .py (rowD found), .py (tupI r), .py (tupI t.1), .py (tupI t.2), .un] = .nx [.py X, .py R, .py (.list (T.map encT)), .py (tupI left), .py (rowD found), .py (tupI r), .py (tupI t.1), .py (tupI t.2), .un] :=
        s_asg (d := .list (T.map encT)) (by
          have : opSlc (.list ((t :: T).map encT)) (some 1) none = .ok (.list (T.map encT)) := by
            show Out.ok (PyData.list (cutD _ _ _)) = _
            rw [cut1] <;> rfl
          simp only [e_slc, e_nm, e_ci, evO, List.getElem?_cons_succ, List.getElem?_cons_zero, bnd_ok, this]) (by rfl) rfl
      have e4 : evE (run fs (k + 13)) (thaw [.py X, .py R, .py (.list (T.map encT)), .py (tupI left), .py (rowD found), .py (tupI r), .py (tupI t.1), .py (tupI t.2), .un]) (.band (.cmp .Eq (.blt .len (.cons (.nm 5) .nil)) (.bin .Sub (.blt .len (.cons (.nm 3) .nil)) (.blt .len (.cons (.nm 7) .nil)))) (.b1 (.cmp .Gt (.cc j_memo (.nm 2) (.nm 5)) (.ci 0)))) = .ok (.bool (decide ((∀ b ∈ t.2, b ∈ left) ∧ tls T 13 r ≠ []))) := by
        have ceq := c_eqI (r.length : Int) ((left.length : Int) - (t.2.length : Int))
        rw [hlen] at ceq
        rw [Bool.decide_and]
        generalize (r.length : Int) = a1 at *
        generalize (left.length : Int) = a2 at *
        generalize (t.2.length : Int) = a3 at *
        have cgt := c_gt (cn : Int) 0
        rw [hcn] at cgt
        generalize (cn : Int) = a4 at *
        cases q1 : decide (∀ b ∈ t.2, b ∈ left) with
        | false =>
          rw [q1] at ceq
          simp only [thaw, List.map_cons, List.map_nil, e_band, e_cmp, e_blt, a_cons', a_nil', e_bin, e_nm, List.getElem?_cons_succ, List.getElem?_cons_zero, bnd_ok, ol1, ol2, ol3, b_sub, ceq, asB_ok', Bool.false_eq_true, if_false, Bool.false_and]
        | true =>
          rw [q1] at ceq
          simp only [thaw, List.map_cons, List.map_nil, e_band, e_cmp, e_blt, a_cons', a_nil', e_bin, e_b1, e_cc, e_ci, e_nm, List.getElem?_cons_succ, List.getElem?_cons_zero, bnd_ok, ol1, ol2, ol3, b_sub, ceq, asB_ok', if_true, Bool.true_and, memo, cc, cgt]
      by_cases q : (∀ b ∈ t.2, b ∈ left) ∧ tls T 13 r ≠ []
      · rw [decide_eq_true q] at e4
        obtain ⟨a, b, c, d, e, hw⟩ := fw_loop k X R T r (found ++ [t.1]) (.py (tupI r)) (.py (tupI t.1)) (.py (tupI t.2)) fuel hTT (by rw [← er]; exact rem_nd hn) (by omega) (by rw [List.length_append, List.length_singleton]; rw [List.length_cons] at hs; omega) (by rw [List.length_cons] at hf; omega) nO2
        refine ⟨a, b, c, d, e, ?_⟩
        have hb : evS (run fs (k + 13)) fwB [.py X, .py R, .py (.list ((t :: T).map encT)), .py (tupI left), .py (rowD found), s5, s6, s7, .un] = .nx [.py X, .py R, .py (.list (T.map encT)), .py (tupI r), .py (rowD (found ++ [t.1])), .py (tupI r), .py (tupI t.1), .py (tupI t.2), .un] := by
          unfold fwB
          refine t_sq u1 (t_sq u2 (t_sq u3 (t_sq (s_ifT e4 (t_sq (s_par (x := rowD (found ++ [t.1])) (y := tupI r) ?_ ?_) s_nil)) s_nil)))
          · have hz : [tupI t.1].length ≤ SZ := by
              unfold SZ
              simp
            simp only [e_bin, e_tup, a_cons', a_nil', e_nm, List.getElem?_cons_succ, List.getElem?_cons_zero, bnd_ok, hz, if_true, ar]
          · simp only [e_nm, List.getElem?_cons_succ, List.getElem?_cons_zero]
        rw [hb]
        simp only
        rw [hw, gd, if_neg e0, er, if_pos q, List.append_assoc] <;> rfl
      · rw [decide_eq_false q] at e4
        obtain ⟨a, b, c, d, e, hw⟩ := fw_loop k X R T left found (.py (tupI r)) (.py (tupI t.1)) (.py (tupI t.2)) fuel hTT hn hl (by rw [List.length_cons] at hs; omega) (by rw [List.length_cons] at hf; omega) nO2
        refine ⟨a, b, c, d, e, ?_⟩
        have hb : evS (run fs (k + 13)) fwB [.py X, .py R, .py (.list ((t :: T).map encT)), .py (tupI left), .py (rowD found), s5, s6, s7, .un] = .nx [.py X, .py R, .py (.list (T.map encT)), .py (tupI left), .py (rowD found), .py (tupI r), .py (tupI t.1), .py (tupI t.2), .un] := by
          unfold fwB
          exact t_sq u1 (t_sq u2 (t_sq u3 (t_sq (s_ifF e4 s_nil) s_nil)))
        rw [hb]
        simp only
        rw [hw, gd, if_neg e0, er, if_neg q]
end K54

namespace K54
open PySem Mz
theorem s_par3 {cal : Nat → List D → Out D} {ρ : En} {i j l : Nat} {a b c : M} {x y z : D} (ha : evE cal ρ a = .ok x) (hb : evE cal ρ b = .ok y) (hc : evE cal ρ c = .ok z) (hm : (ment ρ a || ment ρ b || ment ρ c) = false := by rfl) : evS cal (.par3 i j l a b c) ρ = .nx (((ρ.set i (.py x)).set j (.py y)).set l (.py z)) := by
  simp only [evS, hm, ha, hb, hc, wth_ok, Bool.false_eq_true, if_false]
theorem opIxT {l : List D} {k : Int} {d : D} (h : L2.atI l k = some d) : opIx (.tuple l) (.int k) = .ok d := by
  show (match L2.atI l k with
    | some d => Out.ok d
    | none => .bad) = _
  rw [h]
theorem ixE0 (t : Tl) : opIx (encT t) (.int 0) = .ok (tupI t.1) := opIxT (atI_nat (by omega) rfl)
def fstT (m : Int) (ps : List (Int → Bool)) : List Nm := gd 13 (tlF m 0 ps) (rgI 0 m)
theorem e_rg0 {cal : Nat → List D → Out D} {ρ : En} {m : Int} {i : Nat} (h1 : 1 ≤ m) (h2 : m ≤ 24) (h : ρ[i]? = some (.py (.int m))) : evE cal ρ (.trg .nil (.nm i)) = .ok (tupI (rgI 0 m)) := by
  simp only [e_trg, zOr, e_nm, h, bnd_ok, rngI_ok (a := 0) (b := m) (by omega) (by omega) (by omega) (by omega)]
  rfl
theorem v_first_tiling (n : Nat) {m : Int} {ps : List (Int → Bool)} (h : OkR m ps) (h2 : m ≤ 12) : run fs (n + 15) j_first_tiling [.int m, rhs m ps] = .ok (if cntT m ps = 0 then .none else rowD (fstT m ps)) := by
  rw [run_first_tiling]
  unfold b_first_tiling
  have hm : 0 < m := by have := h.m1; omega
  have e1 := v_check_small (n + 9) h h2
  have e2 := v_find_count n h h2
  have e3 := v_all_tiles (n + 11) h
  have hT := tlF_ok hm (k := 0) h.ne
  have hl := tlF_len' h
  have hce := c_eqI (cntT m ps : Nat) 0
  have hz : decide (((cntT m ps : Nat) : Int) = 0) = decide (cntT m ps = 0) := decide_eq_decide.mpr (by omega)
  rw [hz] at hce
  obtain ⟨R, eR⟩ : ∃ R, rhs m ps = R := ⟨_, rfl⟩
  rw [eR] at e1 e2 e3 ⊢
  generalize ((cntT m ps : Nat) : Int) = c at *
  by_cases z : cntT m ps = 0
  · rw [if_pos z]
    rw [decide_eq_true z] at hce
    exact fin_ret (t_sq (s_xpr (d := .none) (by simp [e1])) (t_ifR (by simp [e2, hce]) (t_ret (by simp))))
  · rw [if_neg z]
    rw [decide_eq_false z] at hce
    obtain ⟨a, b, c', d, e, hw⟩ := fw_loop (n + 1) (.int m) R (tlF m 0 ps) (rgI 0 m) [] .un .un .un whMax hT (up_nd2 (up_rgI 0 m)) (len_rg0 h2) (by rw [List.length_nil]; omega) (by unfold whMax; omega) (fun i ds z => by
      match i, z with
      | 0, z => cases z
      | 1, z => cases z
      | 2, z => cases z)
    refine fin_ret (t_sq (s_xpr (d := .none) (by simp [e1])) (t_sq (s_ifF (by simp [e2, hce]) s_nil) (t_sq (s_par3 (x := .list ((tlF m 0 ps).map encT)) (y := tupI (rgI 0 m)) (z := rowD []) (by simp [e3]) (e_rg0 h.m1 h.m2 rfl) (by simp [SZ, rowD])) (t_sq (ρ' := [.py (.int m), .py R, a, b, .py (rowD (fstT m ps)), c', d, e, .un]) ?_ (t_ret ?_)))))
    · simp only [evS]
      exact hw
    · cases a <;> cases b <;> cases c' <;> cases d <;> cases e <;> simp [thaw]
/-- the rhythms that every tiling wants -/
def wants (m : Int) (ps : List (Int → Bool)) (i : Int) : Bool := decide (tls ((tlF m 0 ps).filter fun t => decide (t.1.headD 0 ≠ i)) 13 (rgI 0 m) = [])
def needT (m : Int) (ps : List (Int → Bool)) : List Int := (rgI 0 (ps.length : Nat)).filter (wants m ps)
theorem v_needed (n : Nat) {m : Int} {ps : List (Int → Bool)} (h : OkR m ps) (h2 : m ≤ 12) : run fs (n + 15) j_needed_rhythms [.int m, rhs m ps] = .ok (if cntT m ps = 0 then .none else lstI (needT m ps)) := by
  rw [run_needed_rhythms]
  unfold b_needed_rhythms
  have hm : 0 < m := by have := h.m1; omega
  have e1 := v_check_small (n + 9) h h2
  have e2 := v_find_count n h h2
  have e3 := v_all_tiles (n + 11) h
  have e4 := len_rhs m ps
  have h3 := h.l3
  have hce := c_eqI (cntT m ps : Nat) 0
  have hz : decide (((cntT m ps : Nat) : Int) = 0) = decide (cntT m ps = 0) := decide_eq_decide.mpr (by omega)
  rw [hz] at hce
  obtain ⟨R, eR⟩ : ∃ R, rhs m ps = R := ⟨_, rfl⟩
  rw [eR] at e1 e2 e3 e4 ⊢
  obtain ⟨c, ec⟩ : ∃ c : Int, ((cntT m ps : Nat) : Int) = c := ⟨_, rfl⟩
  rw [ec] at e2 hce
  by_cases z : cntT m ps = 0
  · rw [if_pos z]
    rw [decide_eq_true z] at hce
    exact fin_ret (t_sq (s_xpr (d := .none) (by simp [e1])) (t_ifR (by simp [e2, hce]) (t_ret (by simp))))
  · rw [if_neg z]
    rw [decide_eq_false z] at hce
    unfold needT
    obtain ⟨L, eL, l1, l2⟩ : ∃ L : Int, ((ps.length : Nat) : Int) = L ∧ 0 ≤ L ∧ L ≤ 3 := ⟨_, rfl, by omega, by omega⟩
    rw [eL] at e4 ⊢
    have ef : ∀ l : List Int, (l.flatMap fun i => if wants m ps i = true then [PyData.int i] else []) = (l.filter (wants m ps)).map .int := fun l => by
      induction l with
      | nil => rfl
      | cons x r ih =>
        rw [List.flatMap_cons, ih]
        by_cases w : wants m ps x = true
        · rw [if_pos w, List.filter_cons_of_pos w] <;> rfl
        · rw [if_neg w, List.filter_cons_of_neg w] <;> rfl
    have loop := forL_map (enc := PyData.int) (f := fun x ρ' => match asgT (.n 3) x ρ' with
        | some ρ2 => evS (run fs (n + 14)) (.sq (.asg (.n 4) (.lc [("tile", 5)] (.n 5) (.b1 (.call j_all_tiles (.cons (.nm 0) (.cons (.nm 1) .nil)))) (.b1 (.cmp .NotEq (.sub (.sub (.nm 5) (.ci 0)) (.ci 0)) (.nm 3))) (.nm 5))) <|
    .sq (.ifs (.cmp .Eq (.cc j_memo (.nm 4) (.trg .nil (.nm 0))) (.ci 0)) (
      .sq (.app 2 (.nm 3)) <|
      .nil) (.nil)) <|
    .nil) ρ2
        | none => .bad) (tmp := [3, 4]) (env := fun acc => [.py (.int m), .py R, .own acc, .un, .un, .un]) (g := fun i => if wants m ps i = true then [.int i] else []) 1000 (rgI 0 L) (fun i hi acc hl => by
          show ∃ ρ', evS (run fs (n + 14)) _ [.py (.int m), .py R, .own acc, .py (.int i), .un, .un] = .nx ρ' ∧ _
          have a1 : evE (run fs (n + 14)) [.py (.int m), .py R, .own acc, .py (.int i), .un, .un] (.lc [("tile", 5)] (.n 5) (.b1 (.call j_all_tiles (.cons (.nm 0) (.cons (.nm 1) .nil)))) (.b1 (.cmp .NotEq (.sub (.sub (.nm 5) (.ci 0)) (.ci 0)) (.nm 3))) (.nm 5)) = .ok (.list (((tlF m 0 ps).filter fun t => decide (t.1.headD 0 ≠ i)).map encT)) :=
            lc_enc (enc := encT) (tlF m 0 ps) _ encT (by simp [evI, e3]) (fun t ht => by
              obtain ⟨j, p, s, _, _, _, rfl⟩ := mem_tlF.mp ht
              have q1 := ixE0 ([0 + (j : Int), s], mv m p s)
              have q2 := ixT0 (0 + (j : Int)) [s]
              have q3 := c_neI (0 + (j : Int)) i
              generalize 0 + (j : Int) = jj at *
              simp only [turnL, asgT, fgt, List.map_cons, List.map_nil, List.set, e_cmp, e_b1, e_sub, e_nm, e_ci, List.getElem?_cons_succ, List.getElem?_cons_zero, bnd_ok, q1, q2, q3, asB_ok', List.headD_cons]
              by_cases hj : jj = i <;> simp [hj])
          obtain ⟨TF, eTF⟩ : ∃ TF, PyData.list (((tlF m 0 ps).filter fun t => decide (t.1.headD 0 ≠ i)).map encT) = TF := ⟨_, rfl⟩
          rw [eTF] at a1
          have memo := memo_lt ((tlF m 0 ps).filter fun t => decide (t.1.headD 0 ≠ i)) (len_rg0 h2) (n + 1)
          have hw : decide (((tls ((tlF m 0 ps).filter fun t => decide (t.1.headD 0 ≠ i)) 13 (rgI 0 m)).length : Int) = 0) = wants m ps i := by
            unfold wants
            refine decide_eq_decide.mpr ?_
            cases tls ((tlF m 0 ps).filter fun t => decide (t.1.headD 0 ≠ i)) 13 (rgI 0 m) with
            | nil => simp
            | cons _ _ => simp; omega
          have cq := c_eqI ((tls ((tlF m 0 ps).filter fun t => decide (t.1.headD 0 ≠ i)) 13 (rgI 0 m)).length : Nat) 0
          rw [hw] at cq
          generalize (((tls ((tlF m 0 ps).filter fun t => decide (t.1.headD 0 ≠ i)) 13 (rgI 0 m)).length : Nat) : Int) = cn at *
          have cc := cc_ok (d := .int cn) (ns := rgI 0 m) (by have := len_rg0 h2; omega)
          rw [eTF] at memo
          have a2 : ∀ ac : D, evE (run fs (n + 14)) [.py (.int m), .py R, .py ac, .py (.int i), .py TF, .un] (.cmp .Eq (.cc j_memo (.nm 4) (.trg .nil (.nm 0))) (.ci 0)) = .ok (.bool (wants m ps i)) := fun ac => by
            simp only [e_cmp, e_cc, e_nm, e_ci, List.getElem?_cons_succ, List.getElem?_cons_zero, bnd_ok, e_rg0 h.m1 h.m2 (ρ := [.py (.int m), .py R, .py ac, .py (.int i), .py TF, .un]) (i := 0) rfl, memo, cc, cq]
          by_cases w : wants m ps i = true
          · rw [w] at a2
            rw [if_pos w] at hl ⊢
            have hl' : acc.length < SZ := by
              rw [List.length_singleton] at hl
              unfold SZ
              omega
            have ha : evS (run fs (n + 14)) (.app 2 (.nm 3)) [.py (.int m), .py R, .own acc, .py (.int i), .py TF, .un] = .nx [.py (.int m), .py R, .own (acc ++ [.int i]), .py (.int i), .py TF, .un] := w_app (ds := acc) rfl (by simp) rfl hl'
            exact ⟨_, t_sq (s_asg (ρ' := [.py (.int m), .py R, .own acc, .py (.int i), .py TF, .un]) a1) (t_sq (s_ifT (a2 (.list acc)) (t_sq ha s_nil)) s_nil), rfl⟩
          · have wf : wants m ps i = false := by simpa using w
            rw [wf] at a2
            rw [if_neg w, List.append_nil]
            exact ⟨_, t_sq (s_asg (ρ' := [.py (.int m), .py R, .own acc, .py (.int i), .py TF, .un]) a1) (t_sq (s_ifF (a2 (.list acc)) s_nil) s_nil), rfl⟩) [] (by
        rw [ef, List.length_map]
        have q := List.length_filter_le (wants m ps) (rgI 0 L)
        rw [len_rgI] at q
        simp only [List.length_nil]
        omega)
    rw [ef, List.nil_append] at loop
    refine fin_ret (t_sq (s_xpr (d := .none) (by simp [e1])) (t_sq (s_ifF (by simp [e2, hce]) s_nil) (t_sq (ρ' := [.py (.int m), .py R, .own [], .un, .un, .un]) (by simp [evS, isFresh, ment, SZ]) (t_fr (xs := (rgI 0 L).map .int) (by simp [evI, zOr, e4, rngI_ok (a := 0) (b := L) (by omega) (by omega) (by omega) (by omega)]) loop (t_ret ?_)))))
    simp [thaw, lstI]
end K54

namespace K54
open PySem Mz
theorem flat_all {α : Type} {enc : α → D} {f : D → Out (List D)} {g : α → List D} : ∀ l : List α, (∀ x ∈ l, f (enc x) = .ok (g x)) → flatL f (l.map enc) = .ok (l.flatMap g)
  | [], _ => rfl
  | x :: r, h => by
    have ih := flat_all r fun y hy => h y (List.mem_cons_of_mem _ hy)
    rw [List.map_cons]
    unfold flatL
    rw [h x List.mem_cons_self]
    simp only [ih, List.flatMap_cons]
/-- is a pair a tile's name -/
def tileB (m : Int) (ps : List (Int → Bool)) (i s : Int) : Bool := decide (0 ≤ i ∧ i ≤ (ps.length : Int) - 1) && decide (0 ≤ s ∧ s ≤ per m (ps.getD i.toNat fun _ => false) - 1)
theorem v_is_tile (n : Nat) {m : Int} {ps : List (Int → Bool)} (h : OkR m ps) (i s : Int) : run fs (n + 4) j_is_tile [.int m, rhs m ps, tupI [i, s]] = .ok (.bool (tileB m ps i s)) := by
  rw [run_is_tile]
  unfold b_is_tile tileB
  have e0 : isD .tuple (tupI [i, s]) = .ok true := rfl
  have e1 : opBl .len [tupI [i, s]] = .ok (.int 2) := rfl
  have e2 := ixT0 i [s]
  have e3 : opIx (tupI [i, s]) (.int 1) = .ok (.int s) := opIxT (atI_nat (by omega) rfl)
  have e4 := len_rhs m ps
  have h1 := h.l1
  obtain ⟨L, eL, l1⟩ : ∃ L : Int, ((ps.length : Nat) : Int) = L ∧ 1 ≤ L := ⟨_, rfl, by omega⟩
  have hL : L.toNat = ps.length := by omega
  rw [eL] at e4 ⊢
  have e5 := v_is_int (n + 2) i 0 (L - 1)
  have c2 := c_neI 2 2
  rw [decide_eq_false (by simp)] at c2
  by_cases hi : 0 ≤ i ∧ i ≤ L - 1
  · rw [decide_eq_true hi] at e5 ⊢
    have hp : i.toNat < ps.length := by omega
    have hg : ps.getD i.toNat (fun _ => false) = ps[i.toNat] := by
      rw [List.getD_eq_getElem?_getD, List.getElem?_eq_getElem hp] <;> rfl
    have hmem : ps[i.toNat] ∈ ps := List.getElem_mem hp
    have e6 : opIx (rhs m ps) (.int i) = .ok (tupI (fil m ps[i.toNat])) := opIxL (atI_nat hi.1 (by rw [List.getElem?_map, List.getElem?_eq_getElem hp] <;> rfl))
    have e7 := v_find_period (n + 1) (h.s hmem)
    rw [hg]
    generalize ps[i.toNat] = p at *
    have e8 := v_is_int (n + 2) s 0 (per m p - 1)
    refine fin_ret (t_sq (s_ifF ?_ s_nil) (t_ret ?_))
    · simp [e0, e1, c2, e2, e4, e5]
    · simp [e2, e3, e6, e7, e8]
  · rw [decide_eq_false hi] at e5 ⊢
    exact fin_ret (t_ifR (by simp [e0, e1, c2, e2, e4, e5]) (t_ret (by simp)))
/-- a name of two ints -/
def nmP (x : Int × Int) : Nm := [x.1, x.2]
def ascB (r : List (Int × Int)) : Bool := (r.zip r.tail).all fun q => lexI (nmP q.1) (nmP q.2)
def bts (m : Int) (ps : List (Int → Bool)) (r : List (Int × Int)) : List Int := r.flatMap fun x => mv m (ps.getD x.1.toNat fun _ => false) x.2
theorem zipD_rows : ∀ a b : List (Int × Int), zipD (a.map fun x => tupI (nmP x)) (b.map fun x => tupI (nmP x)) = (a.zip b).map fun p => .tuple [tupI (nmP p.1), tupI (nmP p.2)]
  | [], _ => rfl
  | _ :: _, [] => rfl
  | x :: a, y :: b => by
    show PyData.tuple [tupI (nmP x), tupI (nmP y)] :: zipD (a.map fun x => tupI (nmP x)) (b.map fun x => tupI (nmP x)) = _
    rw [zipD_rows a b] <;> rfl
def rowP (r : List (Int × Int)) : D := rowD (r.map nmP)
theorem rowP_eq (r : List (Int × Int)) : rowP r = .tuple (r.map fun x => tupI (nmP x)) := by
  unfold rowP rowD
  rw [List.map_map] <;> rfl
theorem c_ltN (a b : Nm) : opCmp .Lt (tupI a) (tupI b) = .ok (lexI a b) := by
  show (match allInts (a.map .int), allInts (b.map .int) with
    | some l, some m => Out.ok (lexI l m)
    | _, _ => .bad) = _
  rw [allInts_map, allInts_map]
theorem v_is_tiling (n : Nat) {m : Int} {ps : List (Int → Bool)} (h : OkR m ps) (r : List (Int × Int)) (hl : r.length ≤ 100) : run fs (n + 5) j_is_tiling [.int m, rhs m ps, rowP r] = .ok (.bool ((r.all fun x => tileB m ps x.1 x.2) && ascB r && decide (isort ltI (bts m ps r) = rgI 0 m))) := by
  have hm : 0 < m := by have := h.m1; omega
  have hm2 := h.m2
  rw [run_is_tiling]
  unfold b_is_tiling
  have e0 := v_check_rhythms n h
  have e1 : isD .tuple (rowP r) = .ok true := rfl
  obtain ⟨R, eR⟩ : ∃ R, rhs m ps = R := ⟨_, rfl⟩
  obtain ⟨C, eC⟩ : ∃ C, rowP r = C := ⟨_, rfl⟩
  have eC2 : C = .tuple (r.map fun x => tupI (nmP x)) := by rw [← eC, rowP_eq]
  have a1 : evE (run fs (n + 4)) [.py (.int m), .py R, .py C, .un, .un, .un, .un, .un, .un, .un] (.lc [("tile", 7)] (.n 7) (.b1 (.nm 2)) .nil (.call j_is_tile (.cons (.nm 0) (.cons (.nm 1) (.cons (.nm 7) .nil))))) = .ok (.list (r.map fun x => .bool (tileB m ps x.1 x.2))) :=
    lc_all (enc := fun x => tupI (nmP x)) r _ (by simp [evI, eC2]) (fun x _ => by
      have q := v_is_tile n h x.1 x.2
      rw [eR] at q
      have q2 : tupI [x.1, x.2] = tupI (nmP x) := rfl
      rw [q2] at q
      simp only [turnL, asgT, fgt, List.map_cons, List.map_nil, List.set, e_call, a_cons', a_nil', e_nm, List.getElem?_cons_succ, List.getElem?_cons_zero, bnd_ok, q])
  have a2 : evE (run fs (n + 4)) [.py (.int m), .py R, .py C, .un, .un, .un, .un, .un, .un, .un] (.lc [("one", 8), ("other", 9)] (.t [8, 9]) (.zp (.nm 2) (.slc (.nm 2) (.b1 (.ci 1)) .nil)) .nil (.cmp .Lt (.nm 8) (.nm 9))) = .ok (.list ((r.zip r.tail).map fun q => .bool (lexI (nmP q.1) (nmP q.2)))) :=
    lc_all (enc := fun q : (Int × Int) × (Int × Int) => PyData.tuple [tupI (nmP q.1), tupI (nmP q.2)]) (r.zip r.tail) _ (by simp [evI, evO, eC2, opSlc, cut1, ← List.map_tail, zipD_rows]) (fun q _ => by
      have z := c_ltN (nmP q.1) (nmP q.2)
      simp only [turnL, asgT, setE, fgt, List.map_cons, List.map_nil, List.set, List.length_cons, List.length_nil, if_true, e_cmp, e_nm, List.getElem?_cons_succ, List.getElem?_cons_zero, bnd_ok, z])
  have o1 := o_all (fun x : Int × Int => tileB m ps x.1 x.2) r
  have o2 : opBl .all [.list ((r.zip r.tail).map fun q => .bool (lexI (nmP q.1) (nmP q.2)))] = .ok (.bool (ascB r)) := o_all (fun q : (Int × Int) × (Int × Int) => lexI (nmP q.1) (nmP q.2)) (r.zip r.tail)
  rw [eR] at e0
  rw [eC] at e1
  rw [eR, eC]
  cases t1 : r.all fun x => tileB m ps x.1 x.2 with
  | false =>
    rw [t1] at o1
    exact fin_ret (t_sq (s_xpr (d := .none) (by simp [e0])) (t_ifR (by simp [e1, a1, o1]) (t_ret (by simp))))
  | true =>
    rw [t1] at o1
    cases t2 : ascB r with
    | false =>
      rw [t2] at o2
      exact fin_ret (t_sq (s_xpr (d := .none) (by simp [e0])) (t_sq (s_ifF (by simp [e1, a1, o1]) s_nil) (t_ifR (by simp [a2, o2]) (t_ret (by simp)))))
    | true =>
      rw [t2] at o2
      have ht := List.all_eq_true.mp t1
      have a3 : evE (run fs (n + 4)) [.py (.int m), .py R, .py C, .un, .un, .un, .un, .un, .un, .un] (.lc2 [("index", 5), ("start", 6), ("beat", 4)] (.t [5, 6]) (.b1 (.nm 2)) [4] (.n 4) (.b1 (.call j_move_by (.cons (.nm 0) (.cons (.sub (.nm 1) (.nm 5)) (.cons (.nm 6) .nil))))) (.nm 4)) = .ok (.list ((bts m ps r).map .int)) := by
        simp only [evE]
        rw [show evI (run fs (n + 4)) [.py (.int m), .py R, .py C, .un, .un, .un, .un, .un, .un, .un] (.b1 (.nm 2)) = .ok (r.map fun x => tupI (nmP x)) by simp [evI, eC2], bnd_ok]
        rw [flat_all (enc := fun x => tupI (nmP x)) (g := fun x : Int × Int => (mv m (ps.getD x.1.toNat fun _ => false) x.2).map .int) r (fun x hx => by
          have htx := ht x hx
          unfold tileB at htx
          rw [Bool.and_eq_true, decide_eq_true_eq, decide_eq_true_eq] at htx
          have hp : x.1.toNat < ps.length := by omega
          have hg : ps.getD x.1.toNat (fun _ => false) = ps[x.1.toNat] := by
            rw [List.getD_eq_getElem?_getD, List.getElem?_eq_getElem hp] <;> rfl
          have e6 : opIx R (.int x.1) = .ok (tupI (fil m ps[x.1.toNat])) := by
            rw [← eR]
            show opIx (.list (ps.map fun p => tupI (fil m p))) _ = _
            exact opIxL (atI_nat htx.1.1 (by rw [List.getElem?_map, List.getElem?_eq_getElem hp] <;> rfl))
          have e7 := w_move (n + 3) (k := x.2) (p := ps[x.1.toNat]) hm
          rw [hg]
          generalize ps[x.1.toNat] = p at *
          have e8 : tupI (nmP x) = .tuple [.int x.1, .int x.2] := rfl
          rw [e8]
          simp only [asgT, setE, fgt, List.map_cons, List.map_nil, List.set, List.length_cons, List.length_nil, if_true, evI, e_call, a_cons', a_nil', e_sub, e_nm, List.getElem?_cons_succ, List.getElem?_cons_zero, bnd_ok, e6, e7]
          have e9 := compL_all (f := fun y => (match asgT (.n 4) y [.py (.int m), .py R, .py C, .un, .un, .py (.int x.1), .py (.int x.2), .un, .un, .un] with
            | some ρ2 => (evE (run fs (n + 4)) ρ2 (.nm 4)).bnd fun z => .ok (some z)
            | none => .bad)) (enc := PyData.int) (h := PyData.int) (mv m p x.2) (fun y _ => rfl)
          exact e9), bnd_ok]
        have hb : (r.flatMap fun x => (mv m (ps.getD x.1.toNat fun _ => false) x.2).map PyData.int) = (bts m ps r).map .int := by
          unfold bts
          rw [List.map_flatMap]
        rw [hb, if_pos]
        rw [List.length_map]
        unfold bts
        rw [len_fm]
        have := sum_le (fun x : Int × Int => (mv m (ps.getD x.1.toNat fun _ => false) x.2).length) 24 r fun x _ => by
          have q := List.length_filter_le (fun b => (ps.getD x.1.toNat fun _ => false) ((b - x.2) % m)) (rgI 0 m)
          rw [len_rgI] at q
          have q2 : (mv m (ps.getD x.1.toNat fun _ => false) x.2).length = ((rgI 0 m).filter fun b => (ps.getD x.1.toNat fun _ => false) ((b - x.2) % m)).length := rfl
          omega
        unfold SZ
        omega
      have c1 := c_eqL (isort ltI (bts m ps r)) (rgI 0 m)
      have o3 := o_sortI (bts m ps r)
      have c1' : opCmp .Eq (.list ((isort ltI (bts m ps r)).map .int)) (.list ((rgI 0 m).map .int)) = .ok (decide (isort ltI (bts m ps r) = rgI 0 m)) := c1
      refine fin_ret (t_sq (s_xpr (d := .none) (by simp [e0])) (t_sq (s_ifF (by simp [e1, a1, o1]) s_nil) (t_sq (s_ifF (by simp [a2, o2]) s_nil) (t_sq (s_asg (ρ' := [.py (.int m), .py R, .py C, .py (.list ((bts m ps r).map .int)), .un, .un, .un, .un, .un, .un]) a3) (t_ret ?_)))))
      simp [o3, zOr, rngI_ok (a := 0) (b := m) (by omega) (by omega) (by omega) (by omega), c1', -List.map_map]
end K54

namespace K54
open PySem Mz
/-! ### a row of tiles, asked for -/
def prT (t : Tl) : Int × Int := (t.1.headD 0, t.1.tail.headD 0)
theorem prT_nm {m : Int} {ps : List (Int → Bool)} {t : Tl} (h : t ∈ tlF m 0 ps) : nmP (prT t) = t.1 := by
  obtain ⟨j, p, s, _, _, _, rfl⟩ := mem_tlF.mp h
  rfl
theorem rowD_rowP {m : Int} {ps : List (Int → Bool)} {S : List Tl} (h : ∀ t ∈ S, t ∈ tlF m 0 ps) : rowD (S.map (·.1)) = rowP (S.map prT) := by
  unfold rowP
  rw [List.map_map]
  congr 1
  exact List.map_congr_left fun t ht => (prT_nm (h t ht)).symm
theorem getD_at {ps : List (Int → Bool)} {j : Nat} {p : Int → Bool} (h : ps[j]? = some p) : ps.getD ((0 : Int) + (j : Int)).toNat (fun _ => false) = p := by
  have : ((0 : Int) + (j : Int)).toNat = j := by omega
  rw [this, List.getD_eq_getElem?_getD, h] <;> rfl
theorem tile_in {m : Int} {ps : List (Int → Bool)} {t : Tl} (h : t ∈ tlF m 0 ps) : tileB m ps (prT t).1 (prT t).2 = true ∧ mv m (ps.getD (prT t).1.toNat fun _ => false) (prT t).2 = t.2 := by
  obtain ⟨j, p, s, h1, h2, h3, rfl⟩ := mem_tlF.mp h
  have hj : j < ps.length := (List.getElem?_eq_some_iff.mp h1).1
  have e := getD_at h1
  have e1 : (prT ([0 + (j : Int), s], mv m p s)).1 = 0 + (j : Int) := rfl
  have e2 : (prT ([0 + (j : Int), s], mv m p s)).2 = s := rfl
  rw [e1, e2, e]
  refine ⟨?_, rfl⟩
  unfold tileB
  rw [e, decide_eq_true (by omega), decide_eq_true (by omega)] <;> rfl
theorem asc_of : ∀ {r : List (Int × Int)}, (r.map nmP).Pairwise (fun a b => lexI a b = true) → ascB r = true
  | [], _ => rfl
  | [x], _ => rfl
  | x :: y :: r, h => by
    rw [List.map_cons, List.pairwise_cons] at h
    have ih := asc_of (r := y :: r) h.2
    unfold ascB at ih ⊢
    rw [List.tail_cons, List.zip_cons_cons, List.all_cons, h.1 (nmP y) (by simp), Bool.true_and]
    exact ih
theorem isort_rg {l : List Int} {m : Int} : isort ltI l = rgI 0 m ↔ l.Perm (rgI 0 m) := by
  constructor
  · intro h
    rw [← h]
    exact (perm_isort l).symm
  · intro h
    have h1 := isort_perm h
    rw [h1]
    exact up_ext (up_isort _ (up_nd2 (up_rgI 0 m))) (up_rgI 0 m) fun x => mem_isort x _
theorem v_tiling_sub (n : Nat) {m : Int} {ps : List (Int → Bool)} (h : OkR m ps) {S : List Tl} (hs : S.Sublist (tlF m 0 ps)) : ∃ b : Bool, run fs (n + 5) j_is_tiling [.int m, rhs m ps, rowD (S.map (·.1))] = .ok (.bool b) ∧ (b = true ↔ Part S (rgI 0 m)) := by
  have hm : 0 < m := by have := h.m1; omega
  have T := tlF_ok hm (k := 0) h.ne
  have hl : (S.map prT).length ≤ 100 := by
    rw [List.length_map]
    have := hs.length_le
    have := tlF_len' h
    omega
  have q := v_is_tiling n h (S.map prT) hl
  rw [← rowD_rowP fun t ht => hs.subset ht] at q
  refine ⟨_, q, ?_⟩
  have a1 : ((S.map prT).all fun x => tileB m ps x.1 x.2) = true := by
    rw [List.all_map, List.all_eq_true]
    intro t ht
    exact (tile_in (hs.subset ht)).1
  have a2 : ascB (S.map prT) = true := asc_of (by
    rw [List.map_map]
    have := up_names T hs
    rw [show S.map (nmP ∘ prT) = S.map (·.1) from List.map_congr_left fun t ht => prT_nm (hs.subset ht)]
    exact this)
  have a3 : bts m ps (S.map prT) = S.flatMap (·.2) := by
    unfold bts
    rw [List.flatMap_map]
    clear q hl a1 a2
    induction S with
    | nil => rfl
    | cons t r ih =>
      rw [List.flatMap_cons, List.flatMap_cons, (tile_in (hs.subset List.mem_cons_self)).2, ih ((List.sublist_cons_self t r).trans hs)]
  rw [a1, a2, a3, Bool.true_and, Bool.true_and, decide_eq_true_eq, isort_rg]
  rfl
theorem v_fcs (n : Nat) {m : Int} {p : Int → Bool} (h : OkS m (fil m p)) : ∃ L : List (List Int), run fs (n + 26) j_find_canons [.int m, tupI (fil m p)] = .ok (.list (L.map tupI)) ∧ IsC m p L := by
  have hm : 0 < m := by have := h.m1; omega
  have hm2 := h.m2
  have hp : 1 ≤ (fil m p).length := List.length_pos_iff.mpr h.ne
  rw [run_find_canons]
  unfold b_find_canons
  obtain ⟨len, ol, el⟩ : ∃ len : Int, opBl .len [tupI (fil m p)] = .ok (.int len) ∧ ((fil m p).length : Int) = len := ⟨_, o_lenI _, rfl⟩
  have hmod := b_mod m len (by omega)
  by_cases hd : m % len = 0
  · have hos := opn_self hm p
    have tk0 : evE (run fs (n + 25)) [.py (.int m), .py (tupI (fil m p)), .un] (.lc [("beat", 2)] (.n 2) (.rg .nil (.nm 0)) .nil (.cmp .In (.nm 2) (.nm 1))) = .ok (bls m p) :=
      lc_all (enc := PyData.int) (rgI 0 m) _ (by simp [evI, zOr, rngI_ok (a := 0) (b := m) (by omega) (by omega) (by omega) (by omega)]) (fun y hy => by
        have hy := mem_rgI.mp hy
        have q := c_inT y (fil m p)
        have q2 : decide (y ∈ fil m p) = p y := by
          rw [Bool.eq_iff_iff, decide_eq_true_eq, mem_fil]
          exact ⟨fun z => z.2, fun z => ⟨hy, z⟩⟩
        rw [q2] at q
        simp [turnL, asgT, fgt, q])
    obtain ⟨k, hk⟩ : ∃ k : Nat, m.toNat = (fil m p).length * k := by
      obtain ⟨c, hc⟩ := Int.dvd_of_emod_eq_zero hd
      refine ⟨c.toNat, ?_⟩
      have hc0 : 0 ≤ c := by
        rcases Int.lt_or_le c 0 with q | q
        · have : len * c ≤ 1 * c := Int.mul_le_mul_of_nonpos_right (by omega) (by omega)
          omega
        · exact q
      obtain ⟨cn, hcn⟩ := Int.eq_ofNat_of_zero_le hc0
      rw [hcn, Int.toNat_natCast]
      rw [hcn, ← el] at hc
      have : (((fil m p).length * cn : Nat) : Int) = ((fil m p).length : Int) * (cn : Int) := Int.natCast_mul ..
      omega
    have g := v_grown hm hm2 hp (n + 24) k [0] p (by omega) (by omega) (by rw [List.length_singleton]; omega) (pow_ok (by omega) hp)
    obtain ⟨L, hL, pL, sL⟩ := o_sortT2 (G := gr m p (n + 25) [0] p) (gr_mem _ _ _ (by simp)) (nodup_gr hm h.ne _ _ _ (by omega))
    refine ⟨L, fin_ret (t_sq (s_ifF (by simp [ol, hmod, hd, c_neI]) s_nil) (t_ret ?_)), sL, fun y => ?_⟩
    · have e0 : PyData.tuple [.int 0] = tupI [0] := rfl
      simp [SZ, tk0, e0, g, hL]
    · rw [pL.mem_iff]
      exact mem_gr0 hm h.ne (by omega) y
  · refine ⟨[], fin_ret (t_ifR (by simp [ol, hmod, hd, c_neI]) (t_ret (by simp [SZ]))), List.Pairwise.nil, fun y => ⟨fun z => (by cases z), ?_⟩⟩
    rintro ⟨q, _, _, o⟩
    have := ones_len hm o
    rw [el] at this
    rw [← this] at hd
    exact absurd (Int.mul_emod_right ..) hd
section
variable {n : Nat} {m : Int} {p : Int → Bool} {L : List (List Int)}
theorem v_fcL (h : OkS m (fil m p)) (hL : IsC m p L) : run fs (n + 26) j_find_canons [.int m, tupI (fil m p)] = .ok (.list (L.map tupI)) := by
  obtain ⟨L', e, i⟩ := v_fcs n h
  rw [e, i.uniq hL]
theorem v_has_canon (h : OkS m (fil m p)) (hL : IsC m p L) : run fs (n + 27) j_has_canon [.int m, tupI (fil m p)] = .ok (.bool (decide (L ≠ []))) := by
  rw [run_has_canon]
  unfold b_has_canon
  have e1 := v_check_set (n + 22) h
  have e2 := v_fcL (n := n) h hL
  have c : opCmp .NotEq (.list (L.map tupI)) (.list []) = .ok (decide (L ≠ [])) := c_neLT L []
  exact fin_ret (t_sq (s_xpr (d := .none) (by simp [e1])) (t_ret (by simp [e2, c, SZ])))
theorem o_lenD (l : List D) : opBl .len [.list l] = .ok (.int l.length) := rfl
theorem v_count (h : OkS m (fil m p)) (hL : IsC m p L) (a b : Int) (ha : (L.length : Int) = a) (hb : ((fil m p).length : Int) = b) : run fs (n + 27) j_count_canons [.int m, tupI (fil m p)] = .ok (.int (a * b)) := by
  rw [run_count_canons]
  unfold b_count_canons
  have e1 := v_check_set (n + 22) h
  have e2 := v_fcL (n := n) h hL
  have e3 := o_lenD (L.map tupI)
  rw [List.length_map, ha] at e3
  have e4 := o_lenI (fil m p)
  rw [hb] at e4
  have lb : b ≤ 24 := by
    have := len_fil (m := m) p
    have := h.m2
    omega
  have e5 := b_mul a b (.inr ⟨by unfold two64; omega, by unfold two64; omega⟩)
  exact fin_ret (t_sq (s_xpr (d := .none) (by simp [e1])) (t_ret (by simp [e2, e3, e4, e5])))
end
end K54

namespace K54
open PySem Mz
theorem cntT_cB (m : Int) (ps : List (Int → Bool)) : cntT m ps = cB (tlB m ps) 13 (rgI 0 m) := cnt_tlB m 0 ps 13 (rgI 0 m)
theorem cnt_more (m : Int) (p o : Int → Bool) : cntT m [p] ≤ cntT m [p, o] := by
  rw [cntT_cB, cntT_cB]
  exact cB_sub (tlB_sub m p o) _ _
theorem cnt_moved {m : Int} (hm : 0 < m) (p o : Int → Bool) (k : Int) : cntT m [fun b => p ((b - k) % m), o] = cntT m [p, o] := by
  rw [cntT_cB, cntT_cB]
  exact cB_perm (tlB_moved hm p o k) _ _
theorem cnt_swap (m : Int) (p o : Int → Bool) : cntT m [o, p] = cntT m [p, o] := by
  rw [cntT_cB, cntT_cB]
  exact cB_perm (tlB_swap m p o) _ _
theorem fil_head (m : Int) (p : Int → Bool) (k i : Int) : (((rgI 0 (per m p)).map fun s => (([k, s], mv m p s) : Tl)).filter fun t => decide (t.1.headD 0 ≠ i)) = if k = i then [] else (rgI 0 (per m p)).map fun s => (([k, s], mv m p s) : Tl) := by
  by_cases h : k = i
  · rw [if_pos h]
    refine List.filter_eq_nil_iff.mpr fun t ht => ?_
    obtain ⟨s, _, rfl⟩ := List.mem_map.mp ht
    show ¬ (decide (k ≠ i) = true)
    rw [decide_eq_true_eq]
    exact fun z => z h
  · rw [if_neg h]
    refine List.filter_eq_self.mpr fun t ht => ?_
    obtain ⟨s, _, rfl⟩ := List.mem_map.mp ht
    exact decide_eq_true h
theorem wants0 (m : Int) (p o : Int → Bool) : wants m [p, o] 0 = decide (cntT m [o] = 0) := by
  unfold wants
  have e : ((tlF m 0 [p, o]).filter fun t => decide (t.1.headD 0 ≠ 0)) = tlF m 1 [o] := by
    show ((((rgI 0 (per m p)).map fun s => (([0, s], mv m p s) : Tl)) ++ (((rgI 0 (per m o)).map fun s => (([0 + 1, s], mv m o s) : Tl)) ++ [])).filter fun t : Tl => decide (t.1.headD 0 ≠ 0)) = _
    rw [List.filter_append, List.filter_append, fil_head, fil_head, if_pos rfl, if_neg (by omega)]
    rfl
  rw [e]
  refine decide_eq_decide.mpr ?_
  rw [← List.length_eq_zero_iff, cnt_tlB, cntT_cB]
theorem wants1 (m : Int) (p o : Int → Bool) : wants m [p, o] 1 = decide (cntT m [p] = 0) := by
  unfold wants
  have e : ((tlF m 0 [p, o]).filter fun t => decide (t.1.headD 0 ≠ 1)) = tlF m 0 [p] := by
    show ((((rgI 0 (per m p)).map fun s => (([0, s], mv m p s) : Tl)) ++ (((rgI 0 (per m o)).map fun s => (([0 + 1, s], mv m o s) : Tl)) ++ [])).filter fun t : Tl => decide (t.1.headD 0 ≠ 1)) = _
    rw [List.filter_append, List.filter_append, fil_head, fil_head, if_neg (by omega), if_pos (by omega)]
    rfl
  rw [e]
  refine decide_eq_decide.mpr ?_
  rw [← List.length_eq_zero_iff]
  rfl
/-- the first tiling: some tiles, in order -/
theorem fst_ok {m : Int} {ps : List (Int → Bool)} (h : OkR m ps) (h2 : m ≤ 12) (hz : cntT m ps ≠ 0) : ∃ S : List Tl, fstT m ps = S.map (·.1) ∧ S.Sublist (tlF m 0 ps) ∧ Part S (rgI 0 m) := by
  have hm : 0 < m := by have := h.m1; omega
  have T := tlF_ok hm (k := 0) h.ne
  have nd := up_nd2 (up_rgI 0 m)
  have hl := len_rg0 h2
  have ex := (tls_ex T nd hl).mp fun z => hz (by unfold cntT; rw [z] <;> rfl)
  obtain ⟨S, e1, e2, e3, e4⟩ := gd_first T nd hl ex
  exact ⟨S, e1, e2, e3⟩
theorem wants_in {m : Int} {ps : List (Int → Bool)} (h : OkR m ps) (h2 : m ≤ 12) {S : List Tl} (hs : S.Sublist (tlF m 0 ps)) (hp : Part S (rgI 0 m)) {i : Int} (hw : wants m ps i = true) : i ∈ S.map fun t => t.1.headD 0 := by
  have hm : 0 < m := by have := h.m1; omega
  have T := tlF_ok hm (k := 0) h.ne
  have nd := up_nd2 (up_rgI 0 m)
  have hl := len_rg0 h2
  have T' : TOk ((tlF m 0 ps).filter fun t => decide (t.1.headD 0 ≠ i)) := T.sub List.filter_sublist
  have w := of_decide_eq_true hw
  by_cases z : i ∈ S.map fun t => t.1.headD 0
  · exact z
  · refine absurd w ((tls_ex T' nd hl).mpr ⟨S, ?_, hp⟩)
    have : S.filter (fun t => decide (t.1.headD 0 ≠ i)) = S := by
      refine List.filter_eq_self.mpr fun t ht => ?_
      rw [decide_eq_true_eq]
      intro e
      exact z (List.mem_map.mpr ⟨t, ht, e⟩)
    rw [← this]
    exact hs.filter _
/-- single beats -/
def p0 : Int → Bool := fun b => decide (b = 0)
def p01 : Int → Bool := fun b => decide (b = 0) || decide (b = 1)
def pA : Int → Bool := fun _ => true
theorem k_one : ((rgI 1 11).map fun m => (cntT m [p0], fil m p0, needT m [p0], per m p0, fstT m [pA], fil m pA, cntT m [pA])) = (rgI 1 11).map fun m => (1, [0], [0], m, [[0, 0]], rgI 0 m, 1) := by kernel_rfl
theorem k_two : ((rgI 2 11).map fun m => (decide (cntT m [p0, p01] < 3), fil m p01)) = (rgI 2 11).map fun m => (decide (m < 3), [0, 1]) := by kernel_rfl
theorem k_sing : ((rgI 1 11).map fun m => (rgI 0 m).map fun s => mv m p0 s) = (rgI 1 11).map fun m => (rgI 0 m).map fun s => [s] := by kernel_rfl
theorem q_one {m : Int} (h1 : 1 ≤ m) (h10 : m ≤ 10) : cntT m [p0] = 1 ∧ fil m p0 = [0] ∧ needT m [p0] = [0] ∧ per m p0 = m ∧ fstT m [pA] = [[0, 0]] ∧ fil m pA = rgI 0 m ∧ cntT m [pA] = 1 := by
  have := List.map_inj_left.mp k_one m (mem_rgI.mpr (by omega))
  simp only [Prod.mk.injEq] at this
  exact this
theorem q_two {m : Int} (h1 : 2 ≤ m) (h10 : m ≤ 10) : decide (cntT m [p0, p01] < 3) = decide (m < 3) ∧ fil m p01 = [0, 1] := by
  have := List.map_inj_left.mp k_two m (mem_rgI.mpr (by omega))
  simp only [Prod.mk.injEq] at this
  exact this
theorem q_sing {m : Int} (h1 : 1 ≤ m) (h10 : m ≤ 10) : ∀ s ∈ rgI 0 m, mv m p0 s = [s] := List.map_inj_left.mp (List.map_inj_left.mp k_sing m (mem_rgI.mpr (by omega)))
/-- all single beats -/
theorem sing_part {m : Int} (h1 : 1 ≤ m) (h10 : m ≤ 10) (o : Int → Bool) : ((rgI 0 m).map (tl1 m p0)).Sublist (tlF m 0 [p0, o]) ∧ Part ((rgI 0 m).map (tl1 m p0)) (rgI 0 m) := by
  have q := q_one h1 h10
  constructor
  · show ((rgI 0 m).map (tl1 m p0)).Sublist ((rgI 0 (per m p0)).map (fun s => ([0, s], mv m p0 s)) ++ tlF m (0 + 1) [o])
    rw [q.2.2.2.1]
    exact List.sublist_append_left _ _
  · unfold Part
    have : ((rgI 0 m).map (tl1 m p0)).flatMap (·.2) = rgI 0 m := by
      rw [List.flatMap_map]
      have hs := q_sing h1 h10
      clear q
      generalize rgI 0 m = l at hs
      induction l with
      | nil => rfl
      | cons x r ih =>
        rw [List.flatMap_cons, ih fun s hs' => hs s (List.mem_cons_of_mem _ hs')]
        show mv m p0 x ++ r = x :: r
        rw [hs x List.mem_cons_self] <;> rfl
    rw [this]
end K54

namespace K54
open PySem Mz
def stm (b : M) (i : Nat) : M := match dropM i b with
  | .sq a _ => a
  | m => m
theorem rhs1 (m : Int) (p : Int → Bool) : rhs m [p] = .list [tupI (fil m p)] := rfl
theorem rhs2 (m : Int) (p o : Int → Bool) : rhs m [p, o] = .list [tupI (fil m p), tupI (fil m o)] := rfl
theorem okR1 {m : Int} {p : Int → Bool} (h1 : 1 ≤ m) (h2 : m ≤ 24) (n1 : fil m p ≠ []) : OkR m [p] := ⟨h1, h2, by simp, by simp, fun q hq => by
  rw [List.mem_singleton] at hq
  subst hq
  exact n1⟩
theorem okR2 {m : Int} {p o : Int → Bool} (h1 : 1 ≤ m) (h2 : m ≤ 24) (n1 : fil m p ≠ []) (n2 : fil m o ≠ []) : OkR m [p, o] := ⟨h1, h2, by simp, by simp, fun q hq => by
  simp only [List.mem_cons, List.not_mem_nil, or_false] at hq
  rcases hq with rfl | rfl
  · exact n1
  · exact n2⟩
theorem fil_ne0 {m : Int} (h1 : 1 ≤ m) {p : Int → Bool} (h : p 0 = true) : fil m p ≠ [] := fun z => by
  have : (0 : Int) ∈ fil m p := mem_fil.mpr ⟨⟨by omega, by omega⟩, h⟩
  rw [z] at this
  cases this
theorem c_isB (a b : Bool) : opCmp .IsNot (.bool a) (.bool b) = .ok (!decide (a = b)) := rfl
def mst (i : Nat) : M := stm b__law_moved i
/-- what is told of moved rhythms and single beats -/
theorem v_moved (n : Nat) {ns : List Int} (hns : ns.length ≤ 63) {m : Int} (h1 : 1 ≤ m) (h10 : m ≤ 10) {p o : Int → Bool} (np : fil m p ≠ []) (no : fil m o ≠ []) :
    run fs (n + 20) j__law_moved [scr ns, .int m, rhs m [p, o], .int (cntT m [p, o] : Nat)] = .ok (.bool true) := by
  have hm : 0 < m := by omega
  rw [run__law_moved]
  unfold b__law_moved
  obtain ⟨k, ek, k0, k1⟩ := v_drawn (n + 18) ns 2 m hns (by omega) (by omega) (by omega) (by omega)
  obtain ⟨one, two, fA, per0', fT, fAl, cA⟩ := q_one h1 h10
  have np0 : fil m p0 ≠ [] := fil_ne0 h1 rfl
  have nA : fil m pA ≠ [] := fil_ne0 h1 rfl
  have n01 : fil m p01 ≠ [] := fil_ne0 h1 rfl
  have nmv : fil m (fun b => p ((b - k) % m)) ≠ [] := mv_ne hm np k
  have e1 := v_lmove (n + 18) (k := k) (p := p) hm
  have e2 := v_count_tilings (n + 4) (okR2 h1 (by omega) nmv no) (by omega)
  rw [cnt_moved hm, rhs2] at e2
  have e2' : run fs (n + 4 + 15) j_count_tilings [.int m, .list [tupI (mv m p k), tupI (fil m o)]] = .ok (.int (cntT m [p, o] : Nat)) := e2
  have e3 := v_count_tilings (n + 4) (okR2 h1 (by omega) no np) (by omega)
  rw [cnt_swap, rhs2] at e3
  have e4 := v_can_tile (n + 4) (okR2 h1 (by omega) np0 np) (by omega)
  have c4 : cntT m [p0, p] ≠ 0 := by
    have := cnt_more m p0 p
    omega
  rw [decide_eq_true c4, rhs2, two] at e4
  obtain ⟨s1, s2⟩ := sing_part h1 h10 p
  obtain ⟨b, e5, hb⟩ := v_tiling_sub (n + 14) (okR2 h1 (by omega) np0 np) s1
  rw [hb.mpr s2, rhs2, two] at e5
  have rw5 : rowD (((rgI 0 m).map (tl1 m p0)).map (·.1)) = .tuple ((rgI 0 m).map fun s => .tuple [.int 0, .int s]) := by
    unfold rowD
    rw [List.map_map, List.map_map] <;> rfl
  rw [rw5] at e5
  have e6 := v_count_tilings (n + 4) (okR1 h1 (by omega) np0) (by omega)
  rw [rhs1, two, one] at e6
  have e7 := v_needed (n + 4) (okR1 h1 (by omega) np0) (by omega)
  rw [rhs1, two, fA, one, if_neg (by decide)] at e7
  have e8 := v_first_tiling (n + 4) (okR1 h1 (by omega) nA) (by omega)
  rw [rhs1, fAl, fT, cA, if_neg (by decide)] at e8
  have e9 : 1 < m → run fs (n + 4 + 15) j_count_tilings [.int m, .list [tupI [0], tupI [0, 1]]] = .ok (.int (cntT m [p0, p01] : Nat)) ∧ decide (((cntT m [p0, p01] : Nat) : Int) < 3) = decide (m < 3) := fun hm1 => by
    obtain ⟨t1, t2⟩ := q_two (m := m) (by omega) h10
    have := v_count_tilings (n + 4) (okR2 h1 (by omega) np0 n01) (by omega)
    rw [rhs2, two, t2] at this
    refine ⟨this, ?_⟩
    rw [← t1]
    exact decide_eq_decide.mpr (by omega)
  rw [show n + 4 + 15 = n + 19 from rfl] at e2' e3 e4 e6 e7 e8 e9
  rw [show n + 14 + 5 = n + 19 from rfl] at e5
  rw [show n + 18 + 1 = n + 19 from rfl] at e1 ek
  rw [rhs2]
  obtain ⟨c, ec⟩ : ∃ c : Int, ((cntT m [p, o] : Nat) : Int) = c := ⟨_, rfl⟩
  rw [ec] at e2' e3 ⊢
  obtain ⟨cal, ecal⟩ : ∃ cal, run fs (n + 19) = cal := ⟨_, rfl⟩
  rw [ecal] at e1 e2' e3 e4 e5 e6 e7 e8 e9 ek ⊢
  have cc := c_neI c c
  rw [decide_eq_false (by simp)] at cc
  have c1 := c_neI ((1 : Nat) : Int) 1
  rw [decide_eq_false (by simp)] at c1
  have z0 : tupI [0] = .tuple [.int 0] := rfl
  have z01 : tupI [0, 1] = .tuple [.int 0, .int 1] := rfl
  rw [z0] at e4 e5 e6 e7 e9
  rw [z01] at e9
  obtain ⟨P, eP⟩ : ∃ P, tupI (fil m p) = P := ⟨_, rfl⟩
  obtain ⟨O, eO⟩ : ∃ O, tupI (fil m o) = O := ⟨_, rfl⟩
  obtain ⟨Q, eQ⟩ : ∃ Q, tupI (mv m p k) = Q := ⟨_, rfl⟩
  obtain ⟨S0, eS0⟩ : ∃ S0, scr ns = S0 := ⟨_, rfl⟩
  rw [eP] at e1 e3 e4 e5 ⊢
  rw [eO] at e2' e3 ⊢
  rw [eQ] at e1 e2'
  rw [eS0] at ek ⊢
  have rv : opRev (.list [P, O]) = .ok (.list [O, P]) := rfl
  have a5 : ∀ (R : D) (s5 s6 s7 : Slot), evE cal [.py S0, .py (.int m), .py R, .py (.int c), .py (.int k), s5, s6, s7, .un] (.lc [("_law_start", 8)] (.n 8) (.rg .nil (.nm 1)) .nil (.tup (.cons (.ci 0) (.cons (.nm 8) .nil)))) = .ok (.list ((rgI 0 m).map fun s => .tuple [.int 0, .int s])) := fun R s5 s6 s7 =>
    lc_all (enc := PyData.int) (rgI 0 m) _ (by simp [evI, zOr, rngI_ok (a := 0) (b := m) (by omega) (by omega) (by omega) (by omega)]) (fun s _ => by simp [turnL, asgT, fgt, SZ])
  obtain ⟨TL, eTL⟩ : ∃ TL, (rgI 0 m).map (fun s => PyData.tuple [.int 0, .int s]) = TL := ⟨_, rfl⟩
  rw [eTL] at e5
  simp only [eTL] at a5
  have iB := c_isB true true
  have rg0 : ∀ ρ : En, ρ[1]? = some (.py (.int m)) → evE cal ρ (.trg .nil (.nm 1)) = .ok (tupI (rgI 0 m)) := fun ρ h => e_rg0 h1 (by omega) h
  have rD : rowD [[0, 0]] = .tuple [.tuple [.int 0, .int 0]] := rfl
  rw [rD] at e8
  have ceq : opCmp .Eq (.tuple [.tuple [.int 0, .int 0]]) (.tuple [.tuple [.int 0, .int 0]]) = .ok true := by kernel_rfl
  have cneL := c_neL [0] [0]
  rw [decide_eq_false (by simp)] at cneL
  have l0 : lstI [0] = .list [.int 0] := rfl
  rw [l0] at cneL e7
  have tuT : opBl .tuple [.list TL] = .ok (.tuple TL) := rfl
  have c11 := c_neI 1 1
  rw [decide_eq_false (by simp)] at c11
  have c_ltI : ∀ a b : Int, opCmp .Lt (.int a) (.int b) = .ok (decide (a < b)) := fun _ _ => rfl
  have c_gtI : ∀ a b : Int, opCmp .Gt (.int a) (.int b) = .ok (decide (b < a)) := fun _ _ => rfl
  have rvl : evE cal [.py S0, .py (.int m), .py (.list [P, O]), .py (.int c), .py (.int k), .un, .py P, .py O, .un] (.rev (.nm 2)) = .ok (.list [O, P]) := by
    simp [rv]
  have b1 : evS cal (mst 0) [.py S0, .py (.int m), .py (.list [P, O]), .py (.int c), .un, .un, .un, .un, .un] = .nx [.py S0, .py (.int m), .py (.list [P, O]), .py (.int c), .un, .un, .py P, .py O, .un] := by
    unfold mst stm b__law_moved
    simp only [dropM]
    exact s_asg (d := .list [P, O]) (by simp) rfl rfl
  have b2 : evS cal (mst 1) [.py S0, .py (.int m), .py (.list [P, O]), .py (.int c), .un, .un, .py P, .py O, .un] = .nx [.py S0, .py (.int m), .py (.list [P, O]), .py (.int c), .py (.int k), .un, .py P, .py O, .un] := by
    unfold mst stm b__law_moved
    simp only [dropM]
    exact s_asg (d := .int k) (by simp [ek]) rfl rfl
  have b3 : evS cal (mst 2) [.py S0, .py (.int m), .py (.list [P, O]), .py (.int c), .py (.int k), .un, .py P, .py O, .un] = .nx [.py S0, .py (.int m), .py (.list [P, O]), .py (.int c), .py (.int k), .un, .py P, .py O, .un] := by
    unfold mst stm b__law_moved
    simp only [dropM]
    exact s_ifF (by simp [e1, e2', cc, SZ]) s_nil
  have b4 : evS cal (mst 3) [.py S0, .py (.int m), .py (.list [P, O]), .py (.int c), .py (.int k), .un, .py P, .py O, .un] = .nx [.py S0, .py (.int m), .py (.list [P, O]), .py (.int c), .py (.int k), .un, .py P, .py O, .un] := by
    unfold mst stm b__law_moved
    simp only [dropM]
    exact s_ifF (by simp [rv, e3, cc, SZ]) s_nil
  have b5 : evS cal (mst 4) [.py S0, .py (.int m), .py (.list [P, O]), .py (.int c), .py (.int k), .un, .py P, .py O, .un] = .nx [.py S0, .py (.int m), .py (.list [P, O]), .py (.int c), .py (.int k), .py (.list [.tuple [.int 0], P]), .py P, .py O, .un] := by
    unfold mst stm b__law_moved
    simp only [dropM]
    exact s_asg (d := .list [.tuple [.int 0], P]) (by simp [SZ]) rfl rfl
  have b6 : evS cal (mst 5) [.py S0, .py (.int m), .py (.list [P, O]), .py (.int c), .py (.int k), .py (.list [.tuple [.int 0], P]), .py P, .py O, .un] = .nx [.py S0, .py (.int m), .py (.list [P, O]), .py (.int c), .py (.int k), .py (.list [.tuple [.int 0], P]), .py P, .py O, .un] := by
    unfold mst stm b__law_moved
    simp only [dropM]
    exact s_ifF (by simp [e4, iB]) s_nil
  have b7 : evS cal (mst 6) [.py S0, .py (.int m), .py (.list [P, O]), .py (.int c), .py (.int k), .py (.list [.tuple [.int 0], P]), .py P, .py O, .un] = .nx [.py S0, .py (.int m), .py (.list [P, O]), .py (.int c), .py (.int k), .py (.list [.tuple [.int 0], P]), .py P, .py O, .un] := by
    unfold mst stm b__law_moved
    simp only [dropM]
    exact s_ifF (by simp [a5, e5, iB, tuT]) s_nil
  have b8 : evS cal (mst 7) [.py S0, .py (.int m), .py (.list [P, O]), .py (.int c), .py (.int k), .py (.list [.tuple [.int 0], P]), .py P, .py O, .un] = .nx [.py S0, .py (.int m), .py (.list [P, O]), .py (.int c), .py (.int k), .py (.list [.tuple [.int 0], P]), .py P, .py O, .un] := by
    unfold mst stm b__law_moved
    simp only [dropM]
    exact s_ifF (by simp [e6, c11, SZ]) s_nil
  have cb : opCmp .NotEq (.bool (decide (m < 3))) (.bool (decide (m < 3))) = .ok false := by cases decide (m < 3) <;> rfl
  have b9 : evS cal (mst 8) [.py S0, .py (.int m), .py (.list [P, O]), .py (.int c), .py (.int k), .py (.list [.tuple [.int 0], P]), .py P, .py O, .un] = .nx [.py S0, .py (.int m), .py (.list [P, O]), .py (.int c), .py (.int k), .py (.list [.tuple [.int 0], P]), .py P, .py O, .un] := by
    unfold mst stm b__law_moved
    simp only [dropM]
    by_cases hq : 1 < m
    · obtain ⟨w1, w2⟩ := e9 hq
      obtain ⟨cn, ecn⟩ : ∃ cn : Int, ((cntT m [p0, p01] : Nat) : Int) = cn := ⟨_, rfl⟩
      rw [ecn] at w1 w2
      exact s_ifF (by simp [c_ltI, c_gtI, hq, w1, w2, cb, SZ]) s_nil
    · have : m = 1 := by omega
      subst this
      exact s_ifF (by simp [c_ltI, c_gtI]; rfl) s_nil
  have b10 : evS cal (mst 9) [.py S0, .py (.int m), .py (.list [P, O]), .py (.int c), .py (.int k), .py (.list [.tuple [.int 0], P]), .py P, .py O, .un] = .nx [.py S0, .py (.int m), .py (.list [P, O]), .py (.int c), .py (.int k), .py (.list [.tuple [.int 0], P]), .py P, .py O, .un] := by
    unfold mst stm b__law_moved
    simp only [dropM]
    exact s_ifF (by simp [e7, cneL, SZ]) s_nil
  have b11 : evS cal (.sq (mst 10) .nil) [.py S0, .py (.int m), .py (.list [P, O]), .py (.int c), .py (.int k), .py (.list [.tuple [.int 0], P]), .py P, .py O, .un] = .ret (.bool true) := by
    unfold mst stm b__law_moved
    simp only [dropM]
    exact t_ret (by simp [rg0, e8, ceq, SZ])
  exact fin_ret (t_sq b1 (t_sq b2 (t_sq b3 (t_sq b4 (t_sq b5 (t_sq b6 (t_sq b7 (t_sq b8 (t_sq b9 (t_sq b10 b11))))))))))
end K54

namespace K54
open PySem Mz
def inn : M := match stm b_law 11 with
  | .ifs _ a _ => a
  | m => m
/-- beats of the tiles, told by their names -/
theorem tile_len {m : Int} (hm : 0 < m) {ps : List (Int → Bool)} {t : Tl} (h : t ∈ tlF m 0 ps) : ∃ (j s : Int) (p : Int → Bool), t.1 = [j, s] ∧ opIx (rhs m ps) (.int j) = .ok (tupI (fil m p)) ∧ (fil m p).length = t.2.length := by
  obtain ⟨j, p, s, h1, h2, h3, rfl⟩ := mem_tlF.mp h
  refine ⟨0 + (j : Int), s, p, rfl, ?_, (len_mv hm p s).symm⟩
  refine opIxL (atI_nat (by omega) ?_)
  have : ((0 : Int) + (j : Int)).toNat = j := by omega
  rw [this, List.getElem?_map, h1] <;> rfl
theorem part_sum {m : Int} {S : List Tl} (h1 : 1 ≤ m) (hp : Part S (rgI 0 m)) : (S.map fun t => ((t.2.length : Nat) : Int)).sum = m := by
  have h := hp.length_eq
  rw [len_fm, len_rgI] at h
  have e : ∀ l : List Tl, (l.map fun t => ((t.2.length : Nat) : Int)).sum = (((l.map fun t => t.2.length).sum : Nat) : Int) := fun l => by
    induction l with
    | nil => rfl
    | cons x r ih =>
      rw [List.map_cons, List.map_cons, List.sum_cons, List.sum_cons, ih]
      omega
  rw [e]
  have : (S.map fun x => x.2.length).sum = (m - 0).toNat := h
  omega
section
variable {cal : Nat → List D → Out D} {S0 P O : D} {m c : Int} {p o : Int → Bool} {S : List Tl}
abbrev evL (S0 : D) (m : Int) (R ND P O : D) (c : Int) (TD : D) : En := [.py S0, .py (.int m), .py R, .py ND, .py P, .py O, .py (.int c), .py TD, .un, .un, .un]
theorem in1 {R ND TD : D} (h : cal j_is_tiling [.int m, R, TD] = .ok (.bool true)) : evS cal (stm inn 0) (evL S0 m R ND P O c TD) = .nx (evL S0 m R ND P O c TD) := by
  unfold inn stm b_law
  simp only [dropM]
  exact s_ifF (by simp [h, c_isB]) s_nil
theorem names_in {R ND : D} (i : Int) (hS : ∀ t ∈ S, t ∈ tlF m 0 [p, o]) : evE cal [.py S0, .py (.int m), .py R, .py ND, .py P, .py O, .py (.int c), .py (rowD (S.map (·.1))), .py (.int i), .un, .un] (.lc [("_law_name", 10), ("_law_start", 9)] (.t [10, 9]) (.b1 (.nm 7)) .nil (.nm 10)) = .ok (lstI (S.map fun t => t.1.headD 0)) := by
  have q := lc_all (cal := cal) (ρ := [.py S0, .py (.int m), .py R, .py ND, .py P, .py O, .py (.int c), .py (rowD (S.map (·.1))), .py (.int i), .un, .un]) (ow := [("_law_name", 10), ("_law_start", 9)]) (t := .t [10, 9]) (it := .b1 (.nm 7)) (c := .nil) (e := .nm 10) (enc := fun t : Tl => tupI t.1) S (fun t => .int (t.1.headD 0)) (by simp [evI, rowD]) (fun t ht => by
    obtain ⟨j, p', s, _, _, _, rfl⟩ := mem_tlF.mp (hS t ht)
    rfl)
  rw [q]
  unfold lstI
  rw [List.map_map] <;> rfl
theorem c_nin (i : Int) (l : List Int) : opCmp .NotIn (.int i) (lstI l) = .ok (!decide (i ∈ l)) := by
  show (if SeqAt.shaped (.int i) && SeqAt.shaped (lstI l) then Out.ok (!memD (.int i) (l.map .int)) else .bad) = _
  simp
theorem in2 {R : D} {N : List Int} (hS : ∀ t ∈ S, t ∈ tlF m 0 [p, o]) (hN : ∀ i ∈ N, i ∈ S.map fun t => t.1.headD 0) :
    evS cal (stm inn 1) (evL S0 m R (lstI N) P O c (rowD (S.map (·.1)))) = .nx (evL S0 m R (lstI N) P O c (rowD (S.map (·.1)))) := by
  unfold inn stm b_law
  simp only [dropM]
  have q : evE cal (evL S0 m R (lstI N) P O c (rowD (S.map (·.1)))) (.lc [("_law_index", 8)] (.n 8) (.b1 (.nm 3)) (.b1 (.cmp .NotIn (.nm 8) (.lc [("_law_name", 10), ("_law_start", 9)] (.t [10, 9]) (.b1 (.nm 7)) .nil (.nm 10)))) (.nm 8)) = .ok (.list []) := by
    have := lc_enc (cal := cal) (ρ := evL S0 m R (lstI N) P O c (rowD (S.map (·.1)))) (ow := [("_law_index", 8)]) (t := .n 8) (it := .b1 (.nm 3)) (c := .b1 (.cmp .NotIn (.nm 8) (.lc [("_law_name", 10), ("_law_start", 9)] (.t [10, 9]) (.b1 (.nm 7)) .nil (.nm 10)))) (e := .nm 8) (enc := PyData.int) N (fun _ => false) PyData.int (by simp [evI, lstI]) (fun i hi => by
      have q := names_in (cal := cal) (S0 := S0) (P := P) (O := O) (c := c) (R := R) (ND := lstI N) i hS
      have q2 := c_nin i (S.map fun t => t.1.headD 0)
      rw [decide_eq_true (hN i hi)] at q2
      simp only [turnL, asgT, fgt, evL, List.map_cons, List.map_nil, List.set, e_cmp, e_b1]
      rw [q]
      simp only [e_nm, List.getElem?_cons_succ, List.getElem?_cons_zero, bnd_ok, q2, asB_ok']
      rfl)
    rw [this]
    have : N.filter (fun _ => false) = [] := List.filter_eq_nil_iff.mpr fun a _ => by simp
    rw [this] <;> rfl
  have c0 : opCmp .NotEq (.list []) (.list []) = .ok false := by kernel_rfl
  refine s_ifF ?_ s_nil
  show evE cal (evL S0 m R (lstI N) P O c (rowD (S.map (·.1)))) _ = _
  rw [e_cmp, q]
  simp [SZ, c0]
theorem in3 {R TD OT : D} {N : List Int} (h : cal j_can_tile [.int m, .list [O]] = .ok (.bool (!decide (0 ∈ N)))) : evS cal (stm inn 2) (evL S0 m R (lstI N) P O c TD) = .nx (evL S0 m R (lstI N) P O c TD) := by
  unfold inn stm b_law
  simp only [dropM]
  have q := c_inI 0 N
  refine s_ifF ?_ s_nil
  cases hb : decide ((0 : Int) ∈ N) <;> rw [hb] at h q <;> simp [h, q, c_neB, SZ]
theorem in4 {R TD OT : D} {N : List Int} (h : cal j_can_tile [.int m, .list [P]] = .ok (.bool (!decide (1 ∈ N)))) : evS cal (stm inn 3) (evL S0 m R (lstI N) P O c TD) = .nx (evL S0 m R (lstI N) P O c TD) := by
  unfold inn stm b_law
  simp only [dropM]
  have q := c_inI 1 N
  refine s_ifF ?_ s_nil
  cases hb : decide ((1 : Int) ∈ N) <;> rw [hb] at h q <;> simp [h, q, c_neB, SZ]
theorem in5 {ND : D} (h1 : 1 ≤ m) (hS : ∀ t ∈ S, t ∈ tlF m 0 [p, o]) (hp : Part S (rgI 0 m)) : evS cal (.sq (stm inn 4) .nil) (evL S0 m (rhs m [p, o]) ND P O c (rowD (S.map (·.1)))) = .nx (evL S0 m (rhs m [p, o]) ND P O c (rowD (S.map (·.1)))) := by
  unfold inn stm b_law
  simp only [dropM]
  have q : evE cal (evL S0 m (rhs m [p, o]) ND P O c (rowD (S.map (·.1)))) (.lc [("_law_index", 8), ("_law_start", 9)] (.t [8, 9]) (.b1 (.nm 7)) .nil (.blt .len (.cons (.sub (.nm 2) (.nm 8)) .nil))) = .ok (lstI (S.map fun t => ((t.2.length : Nat) : Int))) := by
    have := lc_all (cal := cal) (ρ := evL S0 m (rhs m [p, o]) ND P O c (rowD (S.map (·.1)))) (ow := [("_law_index", 8), ("_law_start", 9)]) (t := .t [8, 9]) (it := .b1 (.nm 7)) (c := .nil) (e := .blt .len (.cons (.sub (.nm 2) (.nm 8)) .nil)) (enc := fun t : Tl => tupI t.1) S (fun t => .int (t.2.length : Nat)) (by simp [evI, rowD]) (fun t ht => by
      obtain ⟨j, s, p', e1, e2, e3⟩ := tile_len (by omega) (hS t ht)
      have e4 := o_lenI (fil m p')
      rw [e3] at e4
      obtain ⟨R, eR⟩ : ∃ R, rhs m [p, o] = R := ⟨_, rfl⟩
      obtain ⟨T, eT⟩ : ∃ T, tupI (fil m p') = T := ⟨_, rfl⟩
      obtain ⟨W, eW⟩ : ∃ W, rowD (S.map (·.1)) = W := ⟨_, rfl⟩
      rw [eT] at e2 e4
      rw [eR] at e2
      rw [e1, eR, eW]
      have ea : tupI [j, s] = .tuple [.int j, .int s] := rfl
      rw [ea]
      simp [turnL, asgT, fgt, setE, e2, e4])
    rw [this]
    unfold lstI
    rw [List.map_map] <;> rfl
  have q2 := o_sumI (S.map fun t => ((t.2.length : Nat) : Int))
  rw [part_sum h1 hp] at q2
  have cc := c_neI m m
  rw [decide_eq_false (by simp)] at cc
  refine t_sq (s_ifF ?_ s_nil) s_nil
  show evE cal (evL S0 m (rhs m [p, o]) ND P O c (rowD (S.map (·.1)))) _ = _
  obtain ⟨LL, eLL⟩ : ∃ LL, lstI (S.map fun t => ((t.2.length : Nat) : Int)) = LL := ⟨_, rfl⟩
  rw [eLL] at q q2
  rw [e_cmp]
  simp [q, q2, cc]
end
theorem law_all (n : Nat) (ns : List Int) (hns : ns.length ≤ 63) : run fs (n + 40) j_law [scr ns] = .ok (.bool true) := by
  rw [run_law]
  obtain ⟨d, ed, d0, d1⟩ := v_drawn (n + 38) ns 1 10 hns (by omega) (by omega) (by omega) (by omega)
  obtain ⟨m, em⟩ : ∃ m : Int, 1 + d = m := ⟨_, rfl⟩
  have m1 : 1 ≤ m := by omega
  have m10 : m ≤ 10 := by omega
  have hm : 0 < m := by omega
  obtain ⟨p, e1, np⟩ := v_rhythm (n + 36) ns 50 m hns (by omega) (by omega) m1 (by omega)
  obtain ⟨o, e2, no⟩ := v_set (n + 37) ns 90 m hns (by omega) (by omega) m1 (by omega)
  have h1 := okR1 m1 (by omega) np
  have h2 := okR1 m1 (by omega) no
  have h := okR2 m1 (by omega) np no
  have hS : OkS m (fil m p) := .fil m1 (by omega) np
  obtain ⟨L, _, hL⟩ := v_fcs n hS
  have k1 := v_can_tile (n + 24) h1 (by omega)
  have k2 := v_can_tile (n + 24) h2 (by omega)
  have k3 := v_can_tile (n + 24) h (by omega)
  have n1 := v_count_tilings (n + 24) h1 (by omega)
  have n2 := v_count_tilings (n + 24) h (by omega)
  have ef := v_first_tiling (n + 24) h (by omega)
  have ew := v_needed (n + 24) h (by omega)
  have eh := v_has_canon (n := n + 12) hS hL
  obtain ⟨CC, eCC⟩ : ∃ CC : Int, (L.length : Int) * ((fil m p).length : Int) = CC := ⟨_, rfl⟩
  have ecc := v_count (n := n + 12) hS hL _ _ rfl rfl
  rw [eCC] at ecc
  have ep := v_period (n + 34) hS
  have emv := v_moved (n + 19) hns m1 m10 np no
  obtain ⟨u1, u2, u3⟩ := one_cnt hm np hL (n := 13) (len_rg0 (by omega))
  have u0 : (tls (tlF m 0 [p]) 13 (rgI 0 m)).length = cntT m [p] := rfl
  rw [u0] at u1 u2
  have u4 : cntT m [p] ≠ 0 ↔ L ≠ [] := by
    rw [← u3, ← u0, Ne, List.length_eq_zero_iff]
  have eCC' : ((L.length * (fil m p).length : Nat) : Int) = CC := by rw [← eCC, Int.natCast_mul]
  have w1 : ((cntT m [p] : Nat) : Int) ≤ CC := by omega
  have w2 : per m p = m → ((cntT m [p] : Nat) : Int) = CC := fun q => by
    have := u2 q
    omega
  have w3 := cnt_more m p o
  have x0 := wants0 m p o
  have x1 := wants1 m p o
  have nd : ∀ i : Int, i ∈ needT m [p, o] ↔ (0 ≤ i ∧ i < 2) ∧ wants m [p, o] i = true := fun i => by
    unfold needT
    rw [List.mem_filter, mem_rgI] <;> rfl
  have cb : (decide (cntT m [p] ≠ 0)) = decide (L ≠ []) := decide_eq_decide.mpr u4
  rw [show n + 38 + 1 = n + 39 from rfl] at ed
  rw [show n + 36 + 3 = n + 39 from rfl] at e1
  rw [show n + 37 + 2 = n + 39 from rfl] at e2
  rw [show n + 24 + 15 = n + 39 from rfl] at k1 k2 k3 n1 n2 ef ew
  rw [show n + 12 + 27 = n + 39 from rfl] at eh ecc
  rw [show n + 34 + 5 = n + 39 from rfl] at ep
  rw [show n + 19 + 20 = n + 39 from rfl] at emv
  have et : ∀ S : List Tl, S.Sublist (tlF m 0 [p, o]) → ∃ b : Bool, run fs (n + 39) j_is_tiling [.int m, rhs m [p, o], rowD (S.map (·.1))] = .ok (.bool b) ∧ (b = true ↔ Part S (rgI 0 m)) := fun S hs => v_tiling_sub (n + 34) h hs
  obtain ⟨cal, ecal⟩ : ∃ cal, run fs (n + 39) = cal := ⟨_, rfl⟩
  rw [ecal] at ed e1 e2 k1 k2 k3 n1 n2 ef ew eh ecc ep emv et ⊢
  rw [← cb] at eh
  rw [rhs1] at k1 k2 n1
  have sNE : ∀ a b : Bool, a = b → opCmp .NotEq (.bool a) (.bool b) = .ok false := fun a b q => by
    subst q
    cases a <;> rfl
  have lt : ∀ a b : Int, opCmp .Lt (.int a) (.int b) = .ok (decide (a < b)) := fun _ _ => rfl
  have gt : ∀ a b : Int, opCmp .Gt (.int a) (.int b) = .ok (decide (b < a)) := fun _ _ => rfl
  have isn : opCmp .Is .none .none = .ok true := rfl
  obtain ⟨P, eP⟩ : ∃ P, tupI (fil m p) = P := ⟨_, rfl⟩
  obtain ⟨O, eO⟩ : ∃ O, tupI (fil m o) = O := ⟨_, rfl⟩
  obtain ⟨R, eR⟩ : ∃ R, rhs m [p, o] = R := ⟨_, rfl⟩
  have eR' : PyData.list [P, O] = R := by rw [← eR, ← eP, ← eO] <;> rfl
  obtain ⟨c, ec⟩ : ∃ c : Int, ((cntT m [p, o] : Nat) : Int) = c := ⟨_, rfl⟩
  obtain ⟨c1, ec1⟩ : ∃ c1 : Int, ((cntT m [p] : Nat) : Int) = c1 := ⟨_, rfl⟩
  obtain ⟨S0, eS0⟩ : ∃ S0, scr ns = S0 := ⟨_, rfl⟩
  rw [eP] at e1 k1 n1 eh ecc ep
  rw [eO] at e2 k2
  rw [eR] at k3 n2 ef ew emv
  rw [ec] at n2 emv
  rw [ec1] at n1 w1 w2
  rw [eS0] at ed e1 e2 emv ⊢
  obtain ⟨TD, eTD⟩ : ∃ TD, (if cntT m [p, o] = 0 then PyData.none else rowD (fstT m [p, o])) = TD := ⟨_, rfl⟩
  obtain ⟨ND, eND⟩ : ∃ ND, (if cntT m [p, o] = 0 then PyData.none else lstI (needT m [p, o])) = ND := ⟨_, rfl⟩
  rw [eTD] at ef
  rw [eND] at ew
  have a1 : evS cal (stm b_law 0) [.py S0, .un, .un, .un, .un, .un, .un, .un, .un, .un, .un] = .nx [.py S0, .py (.int m), .un, .un, .un, .un, .un, .un, .un, .un, .un] := by
    unfold stm b_law
    simp only [dropM]
    exact s_asg (d := .int m) (by simp [ed, em]) rfl rfl
  have a2 : evS cal (stm b_law 1) [.py S0, .py (.int m), .un, .un, .un, .un, .un, .un, .un, .un, .un] = .nx [.py S0, .py (.int m), .un, .un, .py P, .py O, .un, .un, .un, .un, .un] := by
    unfold stm b_law
    simp only [dropM]
    exact s_par (x := P) (y := O) (by simp [e1]) (by simp [e2]) rfl
  have a3 : evS cal (stm b_law 2) [.py S0, .py (.int m), .un, .un, .py P, .py O, .un, .un, .un, .un, .un] = .nx [.py S0, .py (.int m), .py R, .un, .py P, .py O, .un, .un, .un, .un, .un] := by
    unfold stm b_law
    simp only [dropM]
    exact s_asg (d := R) (by simp [SZ, eR']) rfl rfl
  have a4 : evS cal (stm b_law 3) [.py S0, .py (.int m), .py R, .un, .py P, .py O, .un, .un, .un, .un, .un] = .nx [.py S0, .py (.int m), .py R, .un, .py P, .py O, .un, .un, .un, .un, .un] := by
    unfold stm b_law
    simp only [dropM]
    have q := sNE _ _ (rfl : decide (cntT m [p] ≠ 0) = decide (cntT m [p] ≠ 0))
    exact s_ifF (by
      obtain ⟨bb, ebb⟩ : ∃ bb : Bool, decide (cntT m [p] ≠ 0) = bb := ⟨_, rfl⟩
      rw [ebb] at q k1 eh
      simp [k1, eh, q, SZ]) s_nil
  have a5 : evS cal (stm b_law 4) [.py S0, .py (.int m), .py R, .un, .py P, .py O, .un, .un, .un, .un, .un] = .nx [.py S0, .py (.int m), .py R, .un, .py P, .py O, .un, .un, .un, .un, .un] := by
    unfold stm b_law
    simp only [dropM]
    have q := lt c c1
    rw [decide_eq_false (by omega)] at q
    exact s_ifF (by simp [n1, n2, q, SZ]) s_nil
  have a6 : evS cal (stm b_law 5) [.py S0, .py (.int m), .py R, .un, .py P, .py O, .un, .un, .un, .un, .un] = .nx [.py S0, .py (.int m), .py R, .un, .py P, .py O, .un, .un, .un, .un, .un] := by
    unfold stm b_law
    simp only [dropM]
    have q := c_eqI (per m p) m
    have q2 := c_neI c1 CC
    by_cases z : per m p = m
    · rw [decide_eq_true z] at q
      rw [decide_eq_false (by simp [w2 z])] at q2
      exact s_ifF (by simp [ep, n1, ecc, q, q2, SZ]) s_nil
    · rw [decide_eq_false z] at q
      exact s_ifF (by simp [ep, q]) s_nil
  have a7 : evS cal (stm b_law 6) [.py S0, .py (.int m), .py R, .un, .py P, .py O, .un, .un, .un, .un, .un] = .nx [.py S0, .py (.int m), .py R, .un, .py P, .py O, .un, .un, .un, .un, .un] := by
    unfold stm b_law
    simp only [dropM]
    have q := gt c1 CC
    rw [decide_eq_false (by omega)] at q
    exact s_ifF (by simp [n1, ecc, q, SZ]) s_nil
  have a8 : evS cal (stm b_law 7) [.py S0, .py (.int m), .py R, .un, .py P, .py O, .un, .un, .un, .un, .un] = .nx [.py S0, .py (.int m), .py R, .un, .py P, .py O, .py (.int c), .py TD, .un, .un, .un] := by
    unfold stm b_law
    simp only [dropM]
    exact s_asg (d := .tuple [.int c, TD]) (by simp [n2, ef, SZ]) rfl rfl
  have a9 : evS cal (stm b_law 8) [.py S0, .py (.int m), .py R, .un, .py P, .py O, .py (.int c), .py TD, .un, .un, .un] = .nx (evL S0 m R ND P O c TD) := by
    unfold stm b_law
    simp only [dropM]
    exact s_asg (d := ND) (by simp [ew]) rfl rfl
  have a13 : evS cal (.sq (stm b_law 12) .nil) (evL S0 m R ND P O c TD) = .ret (.bool true) := by
    unfold stm b_law
    simp only [dropM]
    exact t_ret (by simp [emv])
  have a10 : evS cal (stm b_law 9) (evL S0 m R ND P O c TD) = .nx (evL S0 m R ND P O c TD) ∧ evS cal (stm b_law 10) (evL S0 m R ND P O c TD) = .nx (evL S0 m R ND P O c TD) ∧ evS cal (stm b_law 11) (evL S0 m R ND P O c TD) = .nx (evL S0 m R ND P O c TD) := by
    have q0 := c_eqI c 0
    have q1 := gt c 0
    by_cases z : cntT m [p, o] = 0
    · rw [if_pos z] at eTD eND
      subst eTD eND
      rw [decide_eq_true (by omega)] at q0
      rw [decide_eq_false (by omega)] at q1
      rw [decide_eq_false (by simp [z])] at k3
      have t1 := sNE true true rfl
      have t2 := sNE false false rfl
      have t3 : opCmp .IsNot .none .none = .ok false := rfl
      refine ⟨?_, ?_, ?_⟩
      · unfold stm b_law
        simp only [dropM]
        exact s_ifF (by simp [q0, isn, t1, t2]) s_nil
      · unfold stm b_law
        simp only [dropM]
        exact s_ifF (by simp [k3, q1, t2]) s_nil
      · unfold stm b_law
        simp only [dropM]
        exact s_ifF (by simp [t3]) s_nil
    · rw [if_neg z] at eTD eND
      rw [decide_eq_false (by omega)] at q0
      rw [decide_eq_true (by omega)] at q1
      rw [decide_eq_true z] at k3
      have t1 := sNE true true rfl
      have t2 := sNE false false rfl
      obtain ⟨S, f1, f2, f3⟩ := fst_ok h (by omega) z
      rw [f1] at eTD
      obtain ⟨b, g1, g2⟩ := et S f2
      have gb : b = true := g2.mpr f3
      rw [gb, eTD, eR] at g1
      have hSm : ∀ t ∈ S, t ∈ tlF m 0 [p, o] := fun t ht => f2.subset ht
      have i1 := in1 (S0 := S0) (P := P) (O := O) (c := c) (ND := ND) g1
      have i2 := in2 (cal := cal) (S0 := S0) (P := P) (O := O) (c := c) (R := R) (N := needT m [p, o]) hSm fun i hi => wants_in h (by omega) f2 f3 ((nd i).mp hi).2
      have i3 := in3 (cal := cal) (S0 := S0) (P := P) (O := O) (c := c) (R := R) (TD := TD) (OT := O) (m := m) (N := needT m [p, o]) (by
        rw [k2]
        congr 2
        rw [Bool.eq_iff_iff]
        simp [nd, x0])
      have i4 := in4 (cal := cal) (S0 := S0) (P := P) (O := O) (c := c) (R := R) (TD := TD) (OT := O) (m := m) (N := needT m [p, o]) (by
        rw [k1]
        congr 2
        rw [Bool.eq_iff_iff]
        simp [nd, x1])
      have i5 := in5 (cal := cal) (S0 := S0) (P := P) (O := O) (c := c) (ND := ND) m1 hSm f3
      rw [eTD] at i2 i5
      rw [eR] at i5
      rw [eND] at i2 i3 i4
      have tn : ∃ r, TD = .tuple r := ⟨_, eTD.symm⟩
      have nn : ∃ r, ND = .list r := ⟨_, eND.symm⟩
      obtain ⟨tr, etr⟩ := tn
      obtain ⟨nr, enr⟩ := nn
      have t3 : opCmp .IsNot TD .none = .ok true := by rw [etr] <;> rfl
      have t4 : opCmp .Is TD .none = .ok false := by rw [etr] <;> rfl
      have t5 : opCmp .Is ND .none = .ok false := by rw [enr] <;> rfl
      refine ⟨?_, ?_, ?_⟩
      · unfold stm b_law
        simp only [dropM]
        exact s_ifF (by simp [q0, t4, t5, t2]) s_nil
      · unfold stm b_law
        simp only [dropM]
        exact s_ifF (by simp [k3, q1, t1]) s_nil
      · have fin := t_sq i1 (t_sq i2 (t_sq i3 (t_sq i4 i5)))
        refine s_ifT (by simp [t3]) ?_
        exact fin
  obtain ⟨b10, b11, b12⟩ := a10
  exact fin_ret (t_sq a1 (t_sq a2 (t_sq a3 (t_sq a4 (t_sq a5 (t_sq a6 (t_sq a7 (t_sq a8 (t_sq a9 (t_sq b10 (t_sq b11 (t_sq b12 a13))))))))))))
end K54

namespace K54
open PySem Mz
theorem law_true (ns : List Int) (h : ns.length ≤ 63) : run (tabs.map Tb.fn ++ vf) 200 j_law [scr ns] = .ok (.bool true) := by
  rw [← fs_eq]
  exact law_all 160 ns h
end K54

open PySem PySem.W PySem.Calls PyProof.Rows
theorem PySem.Challenge.cw_clapcanons_k54_whole_several_holds : PySem.Challenge.rw_clapcanons_k54_whole_several.Holds := by
  w_on; o_law
  refine HandSHeadRun.head_any (r := OpenLaw.row PySem.Challenge.rw_clapcanons_k54_whole_several) (q := view (OpenLaw.row PySem.Challenge.rw_clapcanons_k54_whole_several).prog [41]) (H := K54.hk) (ob := K54.ob) (M := 2000) (loose := K54.names) (d := HandSHeadRun.topDef (OpenLaw.row PySem.Challenge.rw_clapcanons_k54_whole_several).prog 41) (kwd := []) K54.ob_eq
    (by kernel_rfl) (fun s => by kernel_rfl) K54.hrun (by kernel_rfl) (by kernel_rfl) (by kernel_rfl) (by rfl) (by first | assumption | decide +kernel) (by decide +kernel) ⟨rfl, rfl, rfl, rfl, rfl, by decide +kernel⟩ ?hw ?hc
  case hw => w_witness2
  case hc => exact Mz.the_end (l := PySem.Challenge.rw_clapcanons_k54_whole_several) (g := K54.g) (tabs := K54.tabs) (vf := K54.vf) (x := "_law_script") (m := 63) (k := 199) (j := 28) (t := ⟨"law", K54.top 41, ["_law_script"], K54.f_law⟩) rfl (by decide) (by kernel_rfl) ⟨rfl, by decide, by decide⟩ (by kernel_rfl) rfl K54.oks K54.mfo rfl rfl K54.law_true
