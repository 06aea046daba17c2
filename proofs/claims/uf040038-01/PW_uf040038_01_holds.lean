import PyProof.Rows.All
import Wide.All
import Open.Line
import Wide.FinOn
import PySem.Challenge.RW_uf040038_01
set_option linter.unusedVariables false
set_option linter.unusedSimpArgs false
set_option linter.unusedSectionVars false
set_option maxRecDepth 100000
set_option maxHeartbeats 4000000
set_option Elab.async false
set_option genSizeOf false

namespace Mine
open PySem

/-! The abstract values, heap, small tongue and its interpreter. -/
inductive AV where
  | none
  | bool (b : Bool)
  | int (i : Int)
  | str (s : Str)
  | tup (vs : List AV)
  | ref (n : Nat)
  | scr
  | fn (k : Nat)
  | exc (c : Nat)

inductive AObj where
  | list (xs : List AV)
  | dict
abbrev AHeap := List AObj

/-- is the object at r still this list? -/
noncomputable def still (H : AHeap) (r : Nat) (xs : List AV) : Bool := match H[r]? with
  | some (.list ys) => @decide (ys = xs) (Classical.propDecidable _)
  | _ => false

inductive Res (α : Type) where
  | ok (a : α) (H : AHeap)
  | exc (c : Nat) (H : AHeap)
  | bad

/-- goes on behind an answer; a raise is passed on -/
noncomputable def Res.thn {α β : Type} (r : Res α) (f : α → AHeap → Res β) : Res β := match r with
  | .ok a H => f a H
  | .exc c H => .exc c H
  | .bad => .bad
/-- goes on behind an answer alone -/
noncomputable def Res.get {α β : Type} (r : Res α) (f : α → AHeap → Res β) : Res β := match r with
  | .ok a H => f a H
  | _ => .bad

abbrev AEnv := List (Option AV)
inductive SR where
  | next (ρ : AEnv) (H : AHeap)
  | ret (v : AV) (H : AHeap)
  | exc (c : Nat) (H : AHeap)
  | bad

set_option genInjectivity false
inductive Prim where
  | len | list | listRange | tuple | sorted | sortedSet | min2 | max2 | min1 | max1 | sum | all | int | str
  | isInt | isBool | isList | isTuple | isExc (c : Nat) | isValueError

mutual
inductive PE where
  | none | bool (b : Bool) | int (i : Int) | str (s : Str)
  | var (i : Nat)
  | gfn (k : Nat)
  | gint (k : Nat) (i : Int)
  | bin (op : Operator) (a b : PE)
  | neg (a : PE)
  | not (a : PE)
  | cmp (op : CmpOp) (a b : PE)
  | cmp2 (o1 o2 : CmpOp) (a b c : PE)
  | and (es : PEs) | or (es : PEs)
  | ite (c a b : PE)
  | call (k : Nat) (es : PEs)
  | callv (f : PE) (es : PEs)
  | prim (p : Prim) (es : PEs)
  | idx (a i : PE)
  | slice (a : PE) (lo hi : PEo)
  | rev (a : PE)
  | list (es : PEs) | tuple (es : PEs) | dict
  | comp1 (elt : PE) (it : It) (cond : PEo)
  | comp2 (elt : PE) (it : It)
  | append (a e : PE)
  | count (a e : PE)
  | index (a e : PE)
  | sset (a : PE)
inductive PEs where
  | nil | cons (e : PE) (es : PEs)
inductive PEo where
  | none | some (e : PE)
inductive It where
  | of (e : PE)
  | range1 (n : PE)
  | range2 (a b : PE)
  | zip (a b : PE)
end

mutual
inductive PS where
  | assign (i : Nat) (e : PE)
  | assigns (is : List Nat) (e : PE)
  | setIdx (a i e : PE)
  | swap (a i b j x y : PE)
  | ite (c : PE) (t e : PSs)
  | for1 (i : Nat) (it : It) (body : PSs)
  | for2 (i j : Nat) (it : It) (body : PSs)
  | whl (c : PE) (body : PSs)
  | ret (e : PE)
  | expr (e : PE)
  | raise (c : Nat) (msg : Str)
  | tryRet (e : PE) (c : Nat) (i : Option Nat) (h : PSs)
  | tryExpr (e : PE) (c : Nat) (i : Option Nat) (h : PSs)
inductive PSs where
  | nil | cons (s : PS) (ss : PSs)
end

structure FnI where
  np : Nat
  nv : Nat
  body : PSs

/-- the longest list that is made -/
noncomputable def lim : Nat := 2 ^ 20
/-- the greatest factor, the greatest divisor -/
noncomputable def big : Nat := 2 ^ 5000
noncomputable def small (i : Int) : Bool := decide (i.natAbs < 2 ^ 60)
noncomputable def mulOk (a b : Int) : Bool := small a || small b || (decide (a.natAbs < big) && decide (b.natAbs < big))

noncomputable def alloc (xs : List AV) (H : AHeap) : Res AV := if xs.length ≤ lim then .ok (.ref H.length) (H ++ [.list xs]) else .bad

noncomputable def tupOf (vs : List AV) (H : AHeap) : Res AV := if vs.length ≤ lim then .ok (.tup vs) H else .bad
noncomputable def repeated (xs : List AV) (n : Int) : List AV := (List.replicate n.toNat xs).flatten

noncomputable def binop (op : Operator) (x y : AV) (H : AHeap) : Res AV := match op with
  | .Add => (match x, y with
    | .int a, .int b => .ok (.int (a + b)) H
    | .ref r, .ref q => (match H[r]?, H[q]? with
      | some (.list xs), some (.list ys) => alloc (xs ++ ys) H
      | _, _ => .bad)
    | _, _ => .bad)
  | .Sub => (match x, y with | .int a, .int b => .ok (.int (a - b)) H | _, _ => .bad)
  | .Mult => (match x, y with
    | .int a, .int b => if mulOk a b then .ok (.int (a * b)) H else .bad
    | .ref r, .int n => (match H[r]? with
      | some (.list xs) => if small n ∧ n.toNat * xs.length ≤ lim then alloc (repeated xs n) H else .bad
      | _ => .bad)
    | _, _ => .bad)
  | .FloorDiv => (match x, y with | .int a, .int b => if b ≠ 0 ∧ b.natAbs < big then .ok (.int (a.fdiv b)) H else .bad | _, _ => .bad)
  | .Mod => (match x, y with | .int a, .int b => if b ≠ 0 then .ok (.int (a.fmod b)) H else .bad | _, _ => .bad)
  | .Pow => (match x, y with | .int a, .int b => if 0 ≤ b ∧ b ≤ 64 ∧ small a then .ok (.int (a ^ b.toNat)) H else .bad | _, _ => .bad)
  | _ => .bad

noncomputable def intsOf : List AV → Option (List Int)
  | [] => some []
  | .int i :: r => (intsOf r).map (i :: ·)
  | _ => none
noncomputable def boolsOf : List AV → Option (List Bool)
  | [] => some []
  | .bool b :: r => (boolsOf r).map (b :: ·)
  | _ => none
/-- what a value reads as, through the heap, to a depth -/
noncomputable def rd (H : AHeap) : Nat → AV → Option PyData
  | _, .none => some .none
  | _, .bool b => some (.bool b)
  | _, .int i => some (.int i)
  | _, .str s => if PyData.strOk s then some (.str s) else none
  | n + 1, .tup vs => (vs.mapM (rd H n)).map .tuple
  | n + 1, .ref r => (match H[r]? with
      | some (.list xs) => (xs.mapM (rd H n)).map .list
      | _ => none)
  | _, _ => none

noncomputable def eqOf (x y : AV) (H : AHeap) : Option Bool := match rd H 8 x, rd H 8 y with
  | some d, some e => some (PyData.eqv d e)
  | _, _ => none
noncomputable def isNoneK : AV → Option Bool
  | .none => some true
  | .int _ => some false
  | .bool _ => some false
  | .ref _ => some false
  | _ => none
noncomputable def inOf (x y : AV) (H : AHeap) : Option Bool := match x, y with
  | .int i, .ref r => (match H[r]? with
      | some (.list xs) => (intsOf xs).map fun is => decide (i ∈ is)
      | _ => none)
  | _, _ => none
noncomputable def cmpop (op : CmpOp) (x y : AV) (H : AHeap) : Option Bool := match op with
  | .Lt => (match x, y with | .int a, .int b => some (decide (a < b)) | _, _ => none)
  | .LtE => (match x, y with | .int a, .int b => some (decide (a ≤ b)) | _, _ => none)
  | .Gt => (match x, y with | .int a, .int b => some (decide (b < a)) | _, _ => none)
  | .GtE => (match x, y with | .int a, .int b => some (decide (b ≤ a)) | _, _ => none)
  | .Eq => (match x, y with | .int a, .int b => some (a == b) | x, y => eqOf x y H)
  | .NotEq => (match x, y with | .int a, .int b => some (!(a == b)) | x, y => (eqOf x y H).map (!·))
  | .In => inOf x y H
  | .NotIn => (inOf x y H).map (!·)
  | .Is => (match y with | .none => isNoneK x | _ => none)
  | .IsNot => (match y with | .none => (isNoneK x).map (!·) | _ => none)

noncomputable def insertI (x : Int) : List Int → List Int
  | [] => [x]
  | y :: r => if x ≤ y then x :: y :: r else y :: insertI x r
noncomputable def sortI : List Int → List Int
  | [] => []
  | x :: r => insertI x (sortI r)
noncomputable def dedupSorted : List Int → List Int
  | [] => []
  | x :: r => match dedupSorted r with
    | [] => [x]
    | y :: r' => if x = y then y :: r' else x :: y :: r'

/-- the items of a list or a tuple -/
noncomputable def items (v : AV) (H : AHeap) : Option (List AV) := match v with
  | .tup vs => some vs
  | .ref r => (match H[r]? with
      | some (.list xs) => some xs
      | _ => none)
  | _ => none

noncomputable def inR (i : Int) : Bool := decide (-1000 ≤ i ∧ i ≤ 1000)
noncomputable def rangeL (a b : Int) : List AV := (List.range (b - a).toNat).map fun (k : Nat) => AV.int (a + (k : Int))

/-- an index from the front or the back -/
noncomputable def at? (n : Nat) (i : Int) : Option Nat := if 0 ≤ i ∧ i < n then some i.toNat else if i < 0 ∧ -(n : Int) ≤ i then some (i + n).toNat else none
noncomputable def itemOf (sc : List Int) (v w : AV) (H : AHeap) : Res AV := match w with
  | .int k => (match v with
    | .scr => if 0 ≤ k ∧ k < sc.length then .ok (.int (sc.getD k.toNat 0)) H else .bad
    | v => (match items v H with
      | some xs => (match at? xs.length k with
        | some j => (match xs[j]? with | some x => .ok x H | none => .bad)
        | none => .bad)
      | none => .bad))
  | _ => .bad
/-- a cut's place -/
noncomputable def cutAt (n : Nat) (i : Int) : Nat := (max 0 (min (if i < 0 then i + n else i) n)).toNat
noncomputable def cut (xs : List AV) (lo hi : Option Int) : List AV :=
  let a := match lo with | some i => cutAt xs.length i | none => 0
  let b := match hi with | some i => cutAt xs.length i | none => xs.length
  (xs.take b).drop a

noncomputable def ofKind (o : Option Bool) (H : AHeap) : Res AV := match o with
  | some t => .ok (.bool t) H
  | none => .bad
noncomputable def isIntK : AV → Option Bool
  | .int _ => some true
  | .bool _ => some true
  | .none => some false
  | .str _ => some false
  | .tup _ => some false
  | .ref _ => some false
  | _ => none
noncomputable def isBoolK : AV → Option Bool
  | .int _ => some false
  | .bool _ => some true
  | .none => some false
  | .str _ => some false
  | .tup _ => some false
  | .ref _ => some false
  | _ => none
noncomputable def isTupleK : AV → Option Bool
  | .int _ => some false
  | .bool _ => some false
  | .none => some false
  | .str _ => some false
  | .tup _ => some true
  | .ref _ => some false
  | _ => none
noncomputable def isListK (v : AV) (H : AHeap) : Option Bool := match v with
  | .int _ => some false
  | .bool _ => some false
  | .none => some false
  | .str _ => some false
  | .tup _ => some false
  | .ref r => (match H[r]? with
    | some (.list _) => some true
    | some .dict => some false
    | none => none)
  | _ => none

/-- a pair of ints -/
noncomputable def pairI : AV → Option (Int × Int)
  | .tup vs => (match vs with
    | [x, y] => (match x with
      | .int i => (match y with
        | .int j => some (i, j)
        | _ => none)
      | _ => none)
    | _ => none)
  | _ => none
variable (strF : PyData → Option Str)

noncomputable def prim (sc : List Int) (p : Prim) (vs : List AV) (H : AHeap) : Res AV := match p with
  | .len => (match vs with
    | [.scr] => .ok (.int sc.length) H
    | [v] => (match items v H with | some xs => .ok (.int xs.length) H | none => .bad)
    | _ => .bad)
  | .list => (match vs with
    | [v] => (match items v H with | some xs => alloc xs H | none => .bad)
    | _ => .bad)
  | .listRange => (match vs with
    | [.int n] => if inR n then alloc (rangeL 0 n) H else .bad
    | _ => .bad)
  | .tuple => (match vs with
    | [v] => (match items v H with | some xs => .ok (.tup xs) H | none => .bad)
    | _ => .bad)
  | .sorted => (match vs with
    | [.ref r] => (match H[r]? with
      | some (.list xs) => if xs.length < 64 then (match intsOf xs with
          | some is => alloc ((sortI is).map .int) H
          | none => .bad) else .bad
      | _ => .bad)
    | _ => .bad)
  | .sortedSet => (match vs with
    | [.ref r] => (match H[r]? with
      | some (.list xs) => if xs.length < 64 then (match intsOf xs with
          | some is => alloc ((dedupSorted (sortI is)).map .int) H
          | none => .bad) else .bad
      | _ => .bad)
    | _ => .bad)
  | .min2 => (match vs with | [.int a, .int b] => .ok (.int (min a b)) H | _ => .bad)
  | .max2 => (match vs with | [.int a, .int b] => .ok (.int (max a b)) H | _ => .bad)
  | .min1 => (match vs with
    | [v] => (match pairI v with | some p => .ok (.int (min p.1 p.2)) H | none => .bad)
    | _ => .bad)
  | .max1 => (match vs with
    | [v] => (match pairI v with
      | some p => .ok (.int (max p.1 p.2)) H
      | none => (match v with
        | .ref r => (match H[r]? with
          | some (.list xs) => (match intsOf xs with
              | some (i :: is) => .ok (.int (is.foldl max i)) H
              | _ => .bad)
          | _ => .bad)
        | _ => .bad))
    | _ => .bad)
  | .sum => (match vs with
    | [.ref r] => (match H[r]? with
      | some (.list xs) => (match intsOf xs with
          | some is => .ok (.int is.sum) H
          | none => .bad)
      | _ => .bad)
    | _ => .bad)
  | .all => (match vs with
    | [.ref r] => (match H[r]? with
      | some (.list xs) => (match boolsOf xs with
          | some bs => .ok (.bool (bs.all id)) H
          | none => .bad)
      | _ => .bad)
    | _ => .bad)
  | .int => (match vs with | [.bool b] => .ok (.int (if b then 1 else 0)) H | _ => .bad)
  | .str => (match vs with
    | [v] => (match rd H 8 v with
      | some d => (match strF d with | some s => .ok (.str s) H | none => .bad)
      | none => .bad)
    | _ => .bad)
  | .isInt => (match vs with | [v] => ofKind (isIntK v) H | _ => .bad)
  | .isBool => (match vs with | [v] => ofKind (isBoolK v) H | _ => .bad)
  | .isList => (match vs with | [v] => ofKind (isListK v H) H | _ => .bad)
  | .isTuple => (match vs with | [v] => ofKind (isTupleK v) H | _ => .bad)
  | .isExc c => (match vs with | [.exc d] => .ok (.bool (decide (d = c) || decide (c = 0))) H | _ => .bad)
  | .isValueError => (match vs with | [.exc _] => .ok (.bool true) H | _ => .bad)

/-- the turns of a for over items; the lists walked over must stay -/
noncomputable def forL (ws : List (Nat × List AV)) (step : AV → AEnv → AHeap → SR) : List AV → AEnv → AHeap → SR
  | [], ρ, H => .next ρ H
  | v :: vs, ρ, H => match step v ρ H with
    | .next ρ' H' => if ws.all (fun w => still H' w.1 w.2) then forL ws step vs ρ' H' else .bad
    | r => r
noncomputable def consO (o : Option AV) (r : List AV) : List AV := match o with
  | some x => x :: r
  | none => r
noncomputable def compL (ws : List (Nat × List AV)) (step : AV → AHeap → Res (Option AV)) : List AV → AHeap → Res (List AV)
  | [], H => .ok [] H
  | v :: vs, H => (step v H).get fun o H' => if ws.all (fun w => still H' w.1 w.2) then (compL ws step vs H').get fun r H'' => .ok (consO o r) H'' else .bad
noncomputable def whileL (test : AEnv → AHeap → Res Bool) (body : AEnv → AHeap → SR) : Nat → AEnv → AHeap → SR
  | 0, _, _ => .bad
  | n + 1, ρ, H => match test ρ H with
    | .ok false H' => .next ρ H'
    | .ok true H' => (match body ρ H' with
      | .next ρ' H'' => whileL test body n ρ' H''
      | r => r)
    | _ => .bad

noncomputable def setAt (b : Nat) (v k x : AV) (H : AHeap) : Res Unit := match v, k with
  | .ref r, .int k => (match H[r]? with
    | some (.list xs) => if b ≤ r ∧ 0 ≤ k ∧ k < xs.length then .ok () (H.set r (.list (xs.set k.toNat x))) else .bad
    | _ => .bad)
  | _, _ => .bad
noncomputable def pairS (f : AV → AV → SR) (v : AV) : SR := match v with
  | .tup [x, y] => f x y
  | _ => .bad
noncomputable def pairR (f : AV → AV → Res (Option AV)) (v : AV) : Res (Option AV) := match v with
  | .tup [x, y] => f x y
  | _ => .bad
noncomputable def isL (v : AV) (H : AHeap) : Bool := match v with
  | .ref r => (match H[r]? with
    | some (.list _) => true
    | _ => false)
  | _ => false
noncomputable def appendTo (b : Nat) (v w : AV) (H : AHeap) : Res AV := match v with
  | .ref r => (match H[r]? with
    | some (.list xs) => if b ≤ r ∧ xs.length < lim then .ok .none (H.set r (.list (xs ++ [w]))) else .bad
    | _ => .bad)
  | _ => .bad
noncomputable def countOf (v w : AV) (H : AHeap) : Res AV := match v, w with
  | .ref r, .bool true => (match H[r]? with
    | some (.list xs) => (match boolsOf xs with
      | some bs => .ok (.int (bs.count true)) H
      | none => .bad)
    | _ => .bad)
  | _, _ => .bad
noncomputable def indexOf (v w : AV) (H : AHeap) : Res AV := match w with
  | .int i => (match v with
    | .ref r => (match H[r]? with
      | some (.list xs) => (match intsOf xs with
        | some is => if PyData.layable0 (.list (is.map .int)) then (match is.findIdx? (· == i) with
          | some k => .ok (.int k) H
          | none => .bad) else .bad
        | none => .bad)
      | _ => .bad)
    | _ => .bad)
  | _ => .bad

noncomputable def zipL : List AV → List AV → List AV
  | x :: xs, y :: ys => .tup [x, y] :: zipL xs ys
  | _, _ => []

section
variable (cf : Nat → List AV → AHeap → Res AV) (sc : List Int) (b : Nat)

mutual
noncomputable def denE : PE → AEnv → AHeap → Res AV
  | .none, _, H => .ok .none H
  | .bool v, _, H => .ok (.bool v) H
  | .int i, _, H => .ok (.int i) H
  | .str s, _, H => .ok (.str s) H
  | .var i, ρ, H => (match ρ[i]? with | some (some v) => .ok v H | _ => .bad)
  | .gfn k, _, H => .ok (.fn k) H
  | .gint _ i, _, H => .ok (.int i) H
  | .bin op x y, ρ, H => (denE x ρ H).get fun v H => (denE y ρ H).get fun w H => binop op v w H
  | .neg x, ρ, H => (denE x ρ H).get fun v H => (match v with | .int i => .ok (.int (-i)) H | _ => .bad)
  | .not x, ρ, H => (denE x ρ H).get fun v H => (match v with | .bool t => .ok (.bool (!t)) H | _ => .bad)
  | .cmp op x y, ρ, H => (denE x ρ H).get fun v H => (denE y ρ H).get fun w H => (match cmpop op v w H with | some r => .ok (.bool r) H | none => .bad)
  | .cmp2 o1 o2 x y z, ρ, H => (denE x ρ H).get fun v H => (denE y ρ H).get fun w H => (match cmpop o1 v w H with
      | some true => (denE z ρ H).get fun u H => (match cmpop o2 w u H with | some r => .ok (.bool r) H | none => .bad)
      | some false => .ok (.bool false) H
      | none => .bad)
  | .and es, ρ, H => denAnd es ρ H
  | .or es, ρ, H => denOr es ρ H
  | .ite c x y, ρ, H => (denT c ρ H).get fun t H => if t then denE x ρ H else denE y ρ H
  | .call k es, ρ, H => (denEs es ρ H).get fun vs H => cf k vs H
  | .callv f es, ρ, H => (denE f ρ H).get fun v H => (denEs es ρ H).get fun vs H => (match v with | .fn k => cf k vs H | _ => .bad)
  | .prim p es, ρ, H => (denEs es ρ H).get fun vs H => prim strF sc p vs H
  | .idx a i, ρ, H => (denE a ρ H).get fun v H => (denE i ρ H).get fun w H => itemOf sc v w H
  | .slice a lo hi, ρ, H => (denE a ρ H).get fun v H => (denO lo ρ H).get fun l H => (denO hi ρ H).get fun h H => (match v with
      | .ref r => (match H[r]? with
        | some (.list xs) => alloc (cut xs l h) H
        | _ => .bad)
      | _ => .bad)
  | .rev a, ρ, H => (denE a ρ H).get fun v H => (match v with
      | .ref r => (match H[r]? with
        | some (.list xs) => alloc xs.reverse H
        | _ => .bad)
      | _ => .bad)
  | .list es, ρ, H => (denEs es ρ H).thn fun vs H => alloc vs H
  | .tuple es, ρ, H => (denEs es ρ H).get fun vs H => tupOf vs H
  | .dict, _, H => .ok (.ref H.length) (H ++ [.dict])
  | .comp1 e it c, ρ, H => (denI it ρ H).get fun p H => (compL p.2 (fun v H => (denC c (some v :: ρ) H).get fun t H => if t then (denE e (some v :: ρ) H).get fun x H => .ok (some x) H else .ok none H) p.1 H).get fun vs H => alloc vs H
  | .comp2 e it, ρ, H => (denI it ρ H).get fun p H => (compL p.2 (fun v H => pairR (fun x y => (denE e (some x :: some y :: ρ) H).get fun x H => .ok (some x) H) v) p.1 H).get fun vs H => alloc vs H
  | .append a e, ρ, H => (denE a ρ H).get fun v H => if isL v H then (denE e ρ H).get fun w H => appendTo b v w H else .bad
  | .count a e, ρ, H => (denE a ρ H).get fun v H => if isL v H then (denE e ρ H).get fun w H => countOf v w H else .bad
  | .index a e, ρ, H => (denE a ρ H).get fun v H => if isL v H then (denE e ρ H).get fun w H => indexOf v w H else .bad
  | .sset a, ρ, H => (denE a ρ H).get fun v H => prim strF sc .sortedSet [v] H
noncomputable def denT : PE → AEnv → AHeap → Res Bool
  | .not x, ρ, H => (denT x ρ H).get fun v H => .ok (!v) H
  | .cmp op x y, ρ, H => (denE x ρ H).get fun v H => (denE y ρ H).get fun w H => (match cmpop op v w H with | some r => .ok r H | none => .bad)
  | .cmp2 o1 o2 x y z, ρ, H => (denE x ρ H).get fun v H => (denE y ρ H).get fun w H => (match cmpop o1 v w H with
      | some true => (denE z ρ H).get fun u H => (match cmpop o2 w u H with | some r => .ok r H | none => .bad)
      | some false => .ok false H
      | none => .bad)
  | .and es, ρ, H => denAndT es ρ H
  | .or es, ρ, H => denOrT es ρ H
  | .var i, ρ, H => (match ρ[i]? with | some (some (.bool v)) => .ok v H | _ => .bad)
  | .call k es, ρ, H => (denEs es ρ H).get fun vs H => (cf k vs H).get fun v H => (match v with | .bool t => .ok t H | _ => .bad)
  | .prim p es, ρ, H => (denEs es ρ H).get fun vs H => (prim strF sc p vs H).get fun v H => (match v with | .bool t => .ok t H | _ => .bad)
  | _, _, _ => .bad
noncomputable def denAnd : PEs → AEnv → AHeap → Res AV
  | .nil, _, _ => .bad
  | .cons e .nil, ρ, H => denE e ρ H
  | .cons e es, ρ, H => (denE e ρ H).get fun v H => (match v with
      | .bool false => .ok (.bool false) H
      | .bool true => denAnd es ρ H
      | _ => .bad)
noncomputable def denOr : PEs → AEnv → AHeap → Res AV
  | .nil, _, _ => .bad
  | .cons e .nil, ρ, H => denE e ρ H
  | .cons e es, ρ, H => (denE e ρ H).get fun v H => (match v with
      | .bool true => .ok (.bool true) H
      | .bool false => denOr es ρ H
      | _ => .bad)
noncomputable def denAndT : PEs → AEnv → AHeap → Res Bool
  | .nil, _, H => .ok true H
  | .cons e es, ρ, H => (denT e ρ H).get fun v H => if v then denAndT es ρ H else .ok false H
noncomputable def denOrT : PEs → AEnv → AHeap → Res Bool
  | .nil, _, H => .ok false H
  | .cons e es, ρ, H => (denT e ρ H).get fun v H => if v then .ok true H else denOrT es ρ H
noncomputable def denEs : PEs → AEnv → AHeap → Res (List AV)
  | .nil, _, H => .ok [] H
  | .cons e es, ρ, H => (denE e ρ H).thn fun v H => (denEs es ρ H).thn fun vs H => .ok (v :: vs) H
noncomputable def denO : PEo → AEnv → AHeap → Res (Option Int)
  | .none, _, H => .ok none H
  | .some e, ρ, H => (denE e ρ H).get fun v H => (match v with | .int i => .ok (some i) H | _ => .bad)
noncomputable def denC : PEo → AEnv → AHeap → Res Bool
  | .none, _, H => .ok true H
  | .some e, ρ, H => denT e ρ H
noncomputable def denI : It → AEnv → AHeap → Res (List AV × List (Nat × List AV))
  | .of e, ρ, H => (denE e ρ H).get fun v H => (match v with
      | .tup vs => .ok (vs, []) H
      | .ref r => (match H[r]? with | some (.list xs) => .ok (xs, [(r, xs)]) H | _ => .bad)
      | _ => .bad)
  | .range1 n, ρ, H => (denE n ρ H).get fun v H => (match v with | .int k => if inR k then .ok (rangeL 0 k, []) H else .bad | _ => .bad)
  | .range2 x y, ρ, H => (denE x ρ H).get fun v H => (denE y ρ H).get fun w H => (match v, w with | .int j, .int k => if inR j ∧ inR k then .ok (rangeL j k, []) H else .bad | _, _ => .bad)
  | .zip x y, ρ, H => (denE x ρ H).get fun v H => (denE y ρ H).get fun w H => (match v, w with
      | .ref r, .ref q => (match H[r]?, H[q]? with
        | some (.list xs), some (.list ys) => .ok (zipL xs ys, [(r, xs), (q, ys)]) H
        | _, _ => .bad)
      | _, _ => .bad)
end

noncomputable def setVars : List Nat → List AV → AEnv → Option AEnv
  | [], [], ρ => some ρ
  | i :: is, v :: vs, ρ => setVars is vs (ρ.set i (some v))
  | _, _, _ => none

mutual
noncomputable def denS : PS → AEnv → AHeap → SR
  | .assign i e, ρ, H => (match denE strF cf sc b e ρ H with | .ok v H => .next (ρ.set i (some v)) H | _ => .bad)
  | .assigns is e, ρ, H => (match denE strF cf sc b e ρ H with
      | .ok v H => (match v with
        | .tup vs => (match setVars is vs ρ with | some ρ' => .next ρ' H | none => .bad)
        | _ => .bad)
      | _ => .bad)
  | .setIdx a i e, ρ, H => (match (denE strF cf sc b e ρ H).get fun x H => (denE strF cf sc b a ρ H).get fun v H => (denE strF cf sc b i ρ H).get fun k H => setAt b v k x H with
      | .ok _ H => .next ρ H
      | _ => .bad)
  | .swap a i c j x y, ρ, H => (match (denE strF cf sc b x ρ H).get fun p H => (denE strF cf sc b y ρ H).get fun q H =>
        (denE strF cf sc b a ρ H).get fun v H => (denE strF cf sc b i ρ H).get fun k H => (setAt b v k p H).get fun _ H =>
        (denE strF cf sc b c ρ H).get fun v H => (denE strF cf sc b j ρ H).get fun k H => setAt b v k q H with
      | .ok _ H => .next ρ H
      | _ => .bad)
  | .ite c t e, ρ, H => (match denT strF cf sc b c ρ H with
      | .ok true H => denSs t ρ H
      | .ok false H => denSs e ρ H
      | _ => .bad)
  | .for1 i it body, ρ, H => (match denI strF cf sc b it ρ H with
      | .ok p H => forL p.2 (fun v ρ H => denSs body (ρ.set i (some v)) H) p.1 ρ H
      | _ => .bad)
  | .for2 i j it body, ρ, H => (match denI strF cf sc b it ρ H with
      | .ok p H => forL p.2 (fun v ρ H => pairS (fun x y => denSs body ((ρ.set i (some x)).set j (some y)) H) v) p.1 ρ H
      | _ => .bad)
  | .whl c body, ρ, H => whileL (denT strF cf sc b c) (denSs body) 100 ρ H
  | .ret e, ρ, H => (match denE strF cf sc b e ρ H with | .ok v H => .ret v H | .exc c H => .exc c H | .bad => .bad)
  | .expr e, ρ, H => (match denE strF cf sc b e ρ H with | .ok _ H => .next ρ H | .exc c H => .exc c H | .bad => .bad)
  | .raise c _, _, H => .exc c H
  | .tryRet e c i h, ρ, H => (match denE strF cf sc b e ρ H with
      | .ok v H => .ret v H
      | .exc d H => if d = c ∨ c = 0 then (match i with
        | some j => denSs h (ρ.set j (some (.exc d))) H
        | none => denSs h ρ H) else .exc d H
      | .bad => .bad)
  | .tryExpr e c i h, ρ, H => (match denE strF cf sc b e ρ H with
      | .ok _ H => .next ρ H
      | .exc d H => if d = c ∨ c = 0 then (match i with
        | some j => denSs h (ρ.set j (some (.exc d))) H
        | none => denSs h ρ H) else .exc d H
      | .bad => .bad)
noncomputable def denSs : PSs → AEnv → AHeap → SR
  | .nil, ρ, H => .next ρ H
  | .cons s ss, ρ, H => (match denS s ρ H with
      | .next ρ H => denSs ss ρ H
      | r => r)
end
end

noncomputable def callF (P : Nat → Option FnI) (sc : List Int) : Nat → Nat → List AV → AHeap → Res AV
  | 0, _, _, _ => .bad
  | n + 1, k, args, H => match P k with
    | none => .bad
    | some f => if args.length = f.np then (match denSs strF (callF P sc n) sc H.length f.body (args.map some ++ List.replicate (f.nv - f.np) none) H with
      | .next _ H' => .ok .none H'
      | .ret v H' => .ok v H'
      | .exc c H' => .exc c H'
      | .bad => .bad) else .bad
end Mine

namespace Mine
open PySem

section
variable {strF : PyData → Option Str} {cf : Nat → List AV → AHeap → Res AV} {sc : List Int} {b : Nat} {ρ : AEnv} {H : AHeap} {x y z : PE} {es : PEs}
theorem dE_none : denE strF cf sc b .none ρ H = .ok .none H := rfl
theorem dE_bool {v : Bool} : denE strF cf sc b (.bool v) ρ H = .ok (.bool v) H := rfl
theorem dE_int {i : Int} : denE strF cf sc b (.int i) ρ H = .ok (.int i) H := rfl
theorem dE_var {i : Nat} : denE strF cf sc b (.var i) ρ H = (match ρ[i]? with | some (some v) => .ok v H | _ => .bad) := rfl
theorem dE_gint {k : Nat} {i : Int} : denE strF cf sc b (.gint k i) ρ H = .ok (.int i) H := rfl
theorem dE_bin {op : Operator} : denE strF cf sc b (.bin op x y) ρ H = (denE strF cf sc b x ρ H).get fun v H => (denE strF cf sc b y ρ H).get fun w H => binop op v w H := rfl
theorem dE_neg : denE strF cf sc b (.neg x) ρ H = (denE strF cf sc b x ρ H).get fun v H => (match v with | .int i => .ok (.int (-i)) H | _ => .bad) := rfl
theorem dE_not : denE strF cf sc b (.not x) ρ H = (denE strF cf sc b x ρ H).get fun v H => (match v with | .bool t => .ok (.bool (!t)) H | _ => .bad) := rfl
theorem dE_cmp {op : CmpOp} : denE strF cf sc b (.cmp op x y) ρ H = (denE strF cf sc b x ρ H).get fun v H => (denE strF cf sc b y ρ H).get fun w H => (match cmpop op v w H with | some r => .ok (.bool r) H | none => .bad) := rfl
theorem dE_cmp2 {o1 o2 : CmpOp} : denE strF cf sc b (.cmp2 o1 o2 x y z) ρ H = (denE strF cf sc b x ρ H).get fun v H => (denE strF cf sc b y ρ H).get fun w H => (match cmpop o1 v w H with
      | some true => (denE strF cf sc b z ρ H).get fun u H => (match cmpop o2 w u H with | some r => .ok (.bool r) H | none => .bad)
      | some false => .ok (.bool false) H
      | none => .bad) := rfl
theorem dE_and : denE strF cf sc b (.and es) ρ H = denAnd strF cf sc b es ρ H := rfl
theorem dE_or : denE strF cf sc b (.or es) ρ H = denOr strF cf sc b es ρ H := rfl
theorem dE_ite : denE strF cf sc b (.ite x y z) ρ H = (denT strF cf sc b x ρ H).get fun t H => if t then denE strF cf sc b y ρ H else denE strF cf sc b z ρ H := rfl
theorem dE_call {k : Nat} : denE strF cf sc b (.call k es) ρ H = (denEs strF cf sc b es ρ H).get fun vs H => cf k vs H := rfl
theorem dE_callv : denE strF cf sc b (.callv x es) ρ H = (denE strF cf sc b x ρ H).get fun v H => (denEs strF cf sc b es ρ H).get fun vs H => (match v with | .fn k => cf k vs H | _ => .bad) := rfl
theorem dE_prim {p : Prim} : denE strF cf sc b (.prim p es) ρ H = (denEs strF cf sc b es ρ H).get fun vs H => prim strF sc p vs H := rfl
theorem dE_idx : denE strF cf sc b (.idx x y) ρ H = (denE strF cf sc b x ρ H).get fun v H => (denE strF cf sc b y ρ H).get fun w H => itemOf sc v w H := rfl
theorem dE_slice {lo hi : PEo} : denE strF cf sc b (.slice x lo hi) ρ H = (denE strF cf sc b x ρ H).get fun v H => (denO strF cf sc b lo ρ H).get fun l H => (denO strF cf sc b hi ρ H).get fun h H => (match v with
      | .ref r => (match H[r]? with
        | some (.list xs) => alloc (cut xs l h) H
        | _ => .bad)
      | _ => .bad) := rfl
theorem dE_rev : denE strF cf sc b (.rev x) ρ H = (denE strF cf sc b x ρ H).get fun v H => (match v with
      | .ref r => (match H[r]? with
        | some (.list xs) => alloc xs.reverse H
        | _ => .bad)
      | _ => .bad) := rfl
theorem dE_list : denE strF cf sc b (.list es) ρ H = (denEs strF cf sc b es ρ H).thn fun vs H => alloc vs H := rfl
theorem dE_tuple : denE strF cf sc b (.tuple es) ρ H = (denEs strF cf sc b es ρ H).get fun vs H => tupOf vs H := rfl
theorem dE_comp1 {it : It} {c : PEo} : denE strF cf sc b (.comp1 x it c) ρ H = (denI strF cf sc b it ρ H).get fun p H => (compL p.2 (fun v H => (denC strF cf sc b c (some v :: ρ) H).get fun t H => if t then (denE strF cf sc b x (some v :: ρ) H).get fun x H => .ok (some x) H else .ok none H) p.1 H).get fun vs H => alloc vs H := rfl
theorem dE_comp2 {it : It} : denE strF cf sc b (.comp2 x it) ρ H = (denI strF cf sc b it ρ H).get fun p H => (compL p.2 (fun v H => pairR (fun u w => (denE strF cf sc b x (some u :: some w :: ρ) H).get fun x H => .ok (some x) H) v) p.1 H).get fun vs H => alloc vs H := rfl
theorem dE_append : denE strF cf sc b (.append x y) ρ H = (denE strF cf sc b x ρ H).get fun v H => if isL v H then (denE strF cf sc b y ρ H).get fun w H => appendTo b v w H else .bad := rfl
theorem dE_sset : denE strF cf sc b (.sset x) ρ H = (denE strF cf sc b x ρ H).get fun v H => prim strF sc .sortedSet [v] H := rfl
theorem dT_not : denT strF cf sc b (.not x) ρ H = (denT strF cf sc b x ρ H).get fun v H => .ok (!v) H := rfl
theorem dT_cmp {op : CmpOp} : denT strF cf sc b (.cmp op x y) ρ H = (denE strF cf sc b x ρ H).get fun v H => (denE strF cf sc b y ρ H).get fun w H => (match cmpop op v w H with | some r => .ok r H | none => .bad) := rfl
theorem dT_cmp2 {o1 o2 : CmpOp} : denT strF cf sc b (.cmp2 o1 o2 x y z) ρ H = (denE strF cf sc b x ρ H).get fun v H => (denE strF cf sc b y ρ H).get fun w H => (match cmpop o1 v w H with
      | some true => (denE strF cf sc b z ρ H).get fun u H => (match cmpop o2 w u H with | some r => .ok r H | none => .bad)
      | some false => .ok false H
      | none => .bad) := rfl
theorem dT_and : denT strF cf sc b (.and es) ρ H = denAndT strF cf sc b es ρ H := rfl
theorem dT_or : denT strF cf sc b (.or es) ρ H = denOrT strF cf sc b es ρ H := rfl
theorem dT_var {i : Nat} : denT strF cf sc b (.var i) ρ H = (match ρ[i]? with | some (some (.bool v)) => .ok v H | _ => .bad) := rfl
theorem dT_call {k : Nat} : denT strF cf sc b (.call k es) ρ H = (denEs strF cf sc b es ρ H).get fun vs H => (cf k vs H).get fun v H => (match v with | .bool t => .ok t H | _ => .bad) := rfl
theorem dT_prim {p : Prim} : denT strF cf sc b (.prim p es) ρ H = (denEs strF cf sc b es ρ H).get fun vs H => (prim strF sc p vs H).get fun v H => (match v with | .bool t => .ok t H | _ => .bad) := rfl
theorem dA_cons : denAnd strF cf sc b (.cons x (.cons y es)) ρ H = (denE strF cf sc b x ρ H).get fun v H => (match v with
      | .bool false => .ok (.bool false) H
      | .bool true => denAnd strF cf sc b (.cons y es) ρ H
      | _ => .bad) := rfl
theorem dAT_cons : denAndT strF cf sc b (.cons x es) ρ H = (denT strF cf sc b x ρ H).get fun v H => if v then denAndT strF cf sc b es ρ H else .ok false H := rfl
theorem dOT_cons : denOrT strF cf sc b (.cons x es) ρ H = (denT strF cf sc b x ρ H).get fun v H => if v then .ok true H else denOrT strF cf sc b es ρ H := rfl
theorem dEs_nil : denEs strF cf sc b .nil ρ H = .ok [] H := rfl
theorem dEs_cons : denEs strF cf sc b (.cons x es) ρ H = (denE strF cf sc b x ρ H).thn fun v H => (denEs strF cf sc b es ρ H).thn fun vs H => .ok (v :: vs) H := rfl
theorem dO_some : denO strF cf sc b (.some x) ρ H = (denE strF cf sc b x ρ H).get fun v H => (match v with | .int i => .ok (some i) H | _ => .bad) := rfl
theorem dI_of : denI strF cf sc b (.of x) ρ H = (denE strF cf sc b x ρ H).get fun v H => (match v with
      | .tup vs => .ok (vs, []) H
      | .ref r => (match H[r]? with | some (.list xs) => .ok (xs, [(r, xs)]) H | _ => .bad)
      | _ => .bad) := rfl
theorem dI_range1 : denI strF cf sc b (.range1 x) ρ H = (denE strF cf sc b x ρ H).get fun v H => (match v with | .int k => if inR k then .ok (rangeL 0 k, []) H else .bad | _ => .bad) := rfl
end
section
variable {i j : Int} {H : AHeap} {r q : Nat}
theorem b_add : binop .Add (.int i) (.int j) H = .ok (.int (i + j)) H := rfl
theorem b_sub : binop .Sub (.int i) (.int j) H = .ok (.int (i - j)) H := rfl
theorem b_mul : binop .Mult (.int i) (.int j) H = if mulOk i j then .ok (.int (i * j)) H else .bad := rfl
theorem b_div : binop .FloorDiv (.int i) (.int j) H = if j ≠ 0 ∧ j.natAbs < big then .ok (.int (i.fdiv j)) H else .bad := rfl
theorem b_mod : binop .Mod (.int i) (.int j) H = if j ≠ 0 then .ok (.int (i.fmod j)) H else .bad := rfl
theorem b_pow : binop .Pow (.int i) (.int j) H = if 0 ≤ j ∧ j ≤ 64 ∧ small i then .ok (.int (i ^ j.toNat)) H else .bad := rfl
theorem b_addL : binop .Add (.ref r) (.ref q) H = (match H[r]?, H[q]? with
      | some (.list xs), some (.list ys) => alloc (xs ++ ys) H
      | _, _ => .bad) := rfl
theorem b_mulL : binop .Mult (.ref r) (.int i) H = (match H[r]? with
      | some (.list xs) => if small i ∧ i.toNat * xs.length ≤ lim then alloc (repeated xs i) H else .bad
      | _ => .bad) := rfl
theorem c_lt : cmpop .Lt (.int i) (.int j) H = some (decide (i < j)) := rfl
theorem c_le : cmpop .LtE (.int i) (.int j) H = some (decide (i ≤ j)) := rfl
theorem c_gt : cmpop .Gt (.int i) (.int j) H = some (decide (j < i)) := rfl
theorem c_ge : cmpop .GtE (.int i) (.int j) H = some (decide (j ≤ i)) := rfl
theorem c_eq : cmpop .Eq (.int i) (.int j) H = some (i == j) := rfl
theorem c_ne : cmpop .NotEq (.int i) (.int j) H = some (!(i == j)) := rfl
theorem c_eqR {v : AV} : cmpop .Eq (.ref r) v H = eqOf (.ref r) v H := rfl
theorem c_neR {v : AV} : cmpop .NotEq (.ref r) v H = (eqOf (.ref r) v H).map (!·) := rfl
theorem c_neB {c : Bool} {v : AV} : cmpop .NotEq (.bool c) v H = (eqOf (.bool c) v H).map (!·) := rfl
theorem c_in {v w : AV} : cmpop .In v w H = inOf v w H := rfl
theorem c_notin {v w : AV} : cmpop .NotIn v w H = (inOf v w H).map (!·) := rfl
theorem c_is {v : AV} : cmpop .Is v .none H = isNoneK v := rfl
theorem c_isnot {v : AV} : cmpop .IsNot v .none H = (isNoneK v).map (!·) := rfl
end
section
variable {strF : PyData → Option Str} {sc : List Int} {H : AHeap} {r : Nat} {vs : List AV} {i j : Int} {v : AV}
theorem p_lenS : prim strF sc .len [.scr] H = .ok (.int sc.length) H := rfl
theorem p_lenR : prim strF sc .len [.ref r] H = (match items (.ref r) H with | some xs => .ok (.int xs.length) H | none => .bad) := rfl
theorem p_lenT : prim strF sc .len [.tup vs] H = .ok (.int vs.length) H := rfl
theorem p_list : prim strF sc .list [v] H = (match items v H with | some xs => alloc xs H | none => .bad) := rfl
theorem p_lrange : prim strF sc .listRange [.int i] H = if inR i then alloc (rangeL 0 i) H else .bad := rfl
theorem p_sorted : prim strF sc .sorted [.ref r] H = (match H[r]? with
      | some (.list xs) => if xs.length < 64 then (match intsOf xs with
          | some is => alloc ((sortI is).map .int) H
          | none => .bad) else .bad
      | _ => .bad) := rfl
theorem p_min2 : prim strF sc .min2 [.int i, .int j] H = .ok (.int (min i j)) H := rfl
theorem p_max2 : prim strF sc .max2 [.int i, .int j] H = .ok (.int (max i j)) H := rfl
theorem p_min1 : prim strF sc .min1 [.tup [.int i, .int j]] H = .ok (.int (min i j)) H := rfl
theorem p_max1 : prim strF sc .max1 [.tup [.int i, .int j]] H = .ok (.int (max i j)) H := rfl
theorem p_all : prim strF sc .all [.ref r] H = (match H[r]? with
      | some (.list xs) => (match boolsOf xs with
          | some bs => .ok (.bool (bs.all id)) H
          | none => .bad)
      | _ => .bad) := rfl
theorem p_isInt : prim strF sc .isInt [v] H = ofKind (isIntK v) H := rfl
theorem p_isBool : prim strF sc .isBool [v] H = ofKind (isBoolK v) H := rfl
theorem p_isList : prim strF sc .isList [v] H = ofKind (isListK v H) H := rfl
theorem p_isTuple : prim strF sc .isTuple [v] H = ofKind (isTupleK v) H := rfl
theorem k_list : isListK (.ref r) H = (match H[r]? with
    | some (.list _) => some true
    | some .dict => some false
    | none => none) := rfl
theorem i_ref : items (.ref r) H = (match H[r]? with
      | some (.list xs) => some xs
      | _ => none) := rfl
end
theorem rangeL_cons {a c : Int} (h : a < c) : rangeL a c = .int a :: rangeL (a + 1) c := by
  unfold rangeL
  rw [show (c - a).toNat = (c - (a + 1)).toNat + 1 by (first | lia | omega), List.range_succ_eq_map]
  simp only [List.map_cons, List.map_map, List.cons.injEq]
  refine ⟨by simp, List.map_congr_left fun k _ => ?_⟩
  simp only [Function.comp]
  congr 1
  (first | lia | omega)
theorem cutAt_nat {n c : Nat} (h : c ≤ n) : cutAt n (c : Int) = c := by
  unfold cutAt
  rw [if_neg (by (first | lia | omega)), Int.min_eq_left (by (first | lia | omega)), Int.max_eq_right (by (first | lia | omega))]; rfl
end Mine

namespace Mine

/-! Sums and determinants. -/
abbrev Mat := Nat → Nat → Int
noncomputable def sumR : Nat → (Nat → Int) → Int
  | 0, _ => 0
  | n + 1, f => sumR n f + f n

noncomputable def sgn (i : Nat) : Int := if i % 2 = 0 then 1 else -1
noncomputable def skip (i a : Nat) : Nat := if a < i then a else a + 1
noncomputable def det : Nat → Mat → Int
  | 0, _ => 1
  | n + 1, M => sumR (n + 1) fun i => sgn i * M i 0 * det n (fun a b => M (skip i a) (b + 1))

end Mine

namespace Mine

noncomputable def sel (k i a : Nat) : Nat := if a < k then a else i
/-- the minor of the first k rows and i, the first k columns and j -/
noncomputable def E (M : Mat) (k i j : Nat) : Int := det (k + 1) fun a b => M (sel k i a) (sel k j b)
end Mine

namespace Mine
open PySem

/-! What the interpreter answers, by what is wanted of it. -/
noncomputable def Res.sat {α : Type} (r : Res α) (K : α → AHeap → Prop) : Prop := match r with
  | .ok a H => K a H
  | _ => False
noncomputable def SR.sat (r : SR) (N : AEnv → AHeap → Prop) (R : AV → AHeap → Prop) : Prop := match r with
  | .next ρ H => N ρ H
  | .ret v H => R v H
  | _ => False

theorem Res.sat_ok {α : Type} {a : α} {H : AHeap} {K : α → AHeap → Prop} : (Res.ok a H).sat K = K a H := rfl
theorem Res.sat_get {α β : Type} {r : Res α} {f : α → AHeap → Res β} {K : β → AHeap → Prop} : (r.get f).sat K = r.sat fun a H => (f a H).sat K := by cases r <;> rfl
theorem Res.sat_mono {α : Type} {r : Res α} {K K' : α → AHeap → Prop} (h : r.sat K) (q : ∀ a H, K a H → K' a H) : r.sat K' := by
  cases r with
  | ok a H => exact q a H h
  | exc c H => exact h
  | bad => exact h
inductive SatEx {α : Type} (r : Res α) (K : α → AHeap → Prop) : Prop
  | mk (a : α) (H : AHeap) (e : r = .ok a H) (k : K a H) : SatEx r K
theorem Res.sat_ex {α : Type} {r : Res α} {K : α → AHeap → Prop} (h : r.sat K) : SatEx r K := by
  cases r with
  | ok a H => exact ⟨a, H, rfl, h⟩
  | exc c H => exact h.elim
  | bad => exact h.elim
theorem SR.sat_mono {r : SR} {N N' : AEnv → AHeap → Prop} {R R' : AV → AHeap → Prop} (h : r.sat N R) (q : ∀ a H, N a H → N' a H) (q' : ∀ a H, R a H → R' a H) : r.sat N' R' := by
  cases r with
  | next ρ H => exact q _ _ h
  | ret v H => exact q' _ _ h
  | exc c H => exact h
  | bad => exact h

section
variable {strF : PyData → Option Str} {cf : Nat → List AV → AHeap → Res AV} {sc : List Int} {b : Nat} {ρ : AEnv} {H : AHeap} {N : AEnv → AHeap → Prop} {R : AV → AHeap → Prop}

theorem sat_nil : (denSs strF cf sc b .nil ρ H).sat N R = N ρ H := rfl
theorem sat_cons {s : PS} {ss : PSs} : (denSs strF cf sc b (.cons s ss) ρ H).sat N R = (denS strF cf sc b s ρ H).sat (fun ρ H => (denSs strF cf sc b ss ρ H).sat N R) R := by
  show SR.sat (match denS strF cf sc b s ρ H with | .next ρ H => denSs strF cf sc b ss ρ H | r => r) N R = _
  cases denS strF cf sc b s ρ H <;> rfl
theorem sat_assign {i : Nat} {e : PE} : (denS strF cf sc b (.assign i e) ρ H).sat N R = (denE strF cf sc b e ρ H).sat fun v H => N (ρ.set i (some v)) H := by
  show SR.sat (match denE strF cf sc b e ρ H with | .ok v H => .next (ρ.set i (some v)) H | _ => .bad) N R = _
  cases denE strF cf sc b e ρ H <;> rfl
theorem sat_assigns {is : List Nat} {e : PE} : (denS strF cf sc b (.assigns is e) ρ H).sat N R = (denE strF cf sc b e ρ H).sat fun v H => ∃ vs ρ', v = .tup vs ∧ setVars is vs ρ = some ρ' ∧ N ρ' H := by
  show SR.sat (match denE strF cf sc b e ρ H with
      | .ok v H => (match v with
        | .tup vs => (match setVars is vs ρ with | some ρ' => .next ρ' H | none => .bad)
        | _ => .bad)
      | _ => .bad) N R = _
  cases denE strF cf sc b e ρ H with
  | ok v H =>
    cases v with
    | tup vs =>
      simp only [Res.sat]
      cases e' : setVars is vs ρ with
      | none => simp [SR.sat, e']
      | some ρ' => simp [SR.sat, e']
    | _ => simp [SR.sat, Res.sat]
  | exc c H => rfl
  | bad => rfl
theorem sat_ite {c : PE} {t e : PSs} : (denS strF cf sc b (.ite c t e) ρ H).sat N R = (denT strF cf sc b c ρ H).sat fun v H => if v then (denSs strF cf sc b t ρ H).sat N R else (denSs strF cf sc b e ρ H).sat N R := by
  show SR.sat (match denT strF cf sc b c ρ H with
      | .ok true H => denSs strF cf sc b t ρ H
      | .ok false H => denSs strF cf sc b e ρ H
      | _ => .bad) N R = _
  cases denT strF cf sc b c ρ H with
  | ok v H => cases v <;> rfl
  | exc c H => rfl
  | bad => rfl
theorem sat_for1 {i : Nat} {it : It} {body : PSs} : (denS strF cf sc b (.for1 i it body) ρ H).sat N R = (denI strF cf sc b it ρ H).sat fun p H => (forL p.2 (fun v ρ H => denSs strF cf sc b body (ρ.set i (some v)) H) p.1 ρ H).sat N R := by
  show SR.sat (match denI strF cf sc b it ρ H with
      | .ok p H => forL p.2 (fun v ρ H => denSs strF cf sc b body (ρ.set i (some v)) H) p.1 ρ H
      | _ => .bad) N R = _
  cases denI strF cf sc b it ρ H <;> rfl
theorem sat_for2 {i j : Nat} {it : It} {body : PSs} : (denS strF cf sc b (.for2 i j it body) ρ H).sat N R = (denI strF cf sc b it ρ H).sat fun p H => (forL p.2 (fun v ρ H => pairS (fun x y => denSs strF cf sc b body ((ρ.set i (some x)).set j (some y)) H) v) p.1 ρ H).sat N R := by
  show SR.sat (match denI strF cf sc b it ρ H with
      | .ok p H => forL p.2 (fun v ρ H => pairS (fun x y => denSs strF cf sc b body ((ρ.set i (some x)).set j (some y)) H) v) p.1 ρ H
      | _ => .bad) N R = _
  cases denI strF cf sc b it ρ H <;> rfl
theorem sat_ret {e : PE} : (denS strF cf sc b (.ret e) ρ H).sat N R = (denE strF cf sc b e ρ H).sat R := by
  show SR.sat (match denE strF cf sc b e ρ H with | .ok v H => .ret v H | .exc c H => .exc c H | .bad => .bad) N R = _
  cases denE strF cf sc b e ρ H <;> rfl
theorem sat_expr {e : PE} : (denS strF cf sc b (.expr e) ρ H).sat N R = (denE strF cf sc b e ρ H).sat fun _ H => N ρ H := by
  show SR.sat (match denE strF cf sc b e ρ H with | .ok _ H => .next ρ H | .exc c H => .exc c H | .bad => .bad) N R = _
  cases denE strF cf sc b e ρ H <;> rfl

/-- a def's call -/
theorem sat_call {P : Nat → Option FnI} {n k : Nat} {f : FnI} {args : List AV} {K : AV → AHeap → Prop} (hk : P k = some f) (hl : args.length = f.np) :
    (callF strF P sc (n + 1) k args H).sat K = (denSs strF (callF strF P sc n) sc H.length f.body (args.map some ++ List.replicate (f.nv - f.np) none) H).sat (fun _ H => K .none H) K := by
  rw [callF, hk]
  simp only [hl, if_true]
  cases denSs strF (callF strF P sc n) sc H.length f.body (args.map some ++ List.replicate (f.nv - f.np) none) H <;> rfl

/-- a for over ints -/
theorem forL_range {step : AV → AEnv → AHeap → SR} (I : Int → AEnv → AHeap → Prop) {x y : Int} (hxy : x ≤ y) (h0 : I x ρ H)
    (hs : ∀ i ρ H, x ≤ i → i < y → I i ρ H → (step (.int i) ρ H).sat (I (i + 1)) R) (hN : ∀ ρ H, I y ρ H → N ρ H) : (forL [] step (rangeL x y) ρ H).sat N R := by
  obtain ⟨d, hd⟩ : ∃ d : Nat, y = x + d := ⟨(y - x).toNat, by (first | lia | omega)⟩
  induction d generalizing x ρ H with
  | zero =>
    have : rangeL x y = [] := by unfold rangeL; rw [show (y - x).toNat = 0 by (first | lia | omega)]; rfl
    rw [this]
    show N ρ H
    exact hN _ _ (by rw [show y = x by (first | lia | omega)]; exact h0)
  | succ d ih =>
    have : rangeL x y = .int x :: rangeL (x + 1) y := rangeL_cons (by (first | lia | omega))
    rw [this]
    unfold forL
    have h1 := hs x ρ H (by (first | lia | omega)) (by (first | lia | omega)) h0
    cases e : step (.int x) ρ H with
    | next ρ' H' =>
      rw [e] at h1
      simp only [List.all_nil, if_true]
      exact ih (by (first | lia | omega)) h1 (fun i ρ H hi hy q => hs i ρ H (by (first | lia | omega)) hy q) (by (first | lia | omega))
    | ret v H' => rw [e] at h1; exact h1
    | exc c H' => rw [e] at h1; exact h1
    | bad => rw [e] at h1; exact h1
end
end Mine

namespace Mine
open PySem

noncomputable def fn_5 : FnI := ⟨2, 2, .cons (.ite (.cmp .Lt (.var 1) (.prim .len (.cons (.var 0) .nil))) (.cons (.ret (.idx (.var 0) (.var 1))) .nil) .nil) (.cons (.ret (.int 0)) .nil)⟩
noncomputable def fn_6 : FnI := ⟨2, 2, .cons (.ret (.bin .Mod (.bin .Add (.bin .Mult (.call 5 (.cons (.var 0) (.cons (.var 1) .nil))) (.int 48271)) (.bin .Mult (.bin .Mult (.int 7919) (.var 1)) (.var 1))) (.int 1000003))) .nil⟩
noncomputable def fn_19 : FnI := ⟨2, 3, .cons (.for1 2 (.range2 (.var 1) (.prim .len (.cons (.var 0) .nil))) (.cons (.ite (.cmp .NotEq (.idx (.idx (.var 0) (.var 2)) (.var 1)) (.int 0)) (.cons (.ret (.var 2)) .nil) .nil) .nil)) (.cons (.ret .none) .nil)⟩

section
variable {strF : PyData → Option Str} {sc : List Int} {P : Nat → Option FnI} {H : AHeap} {n : Nat}

noncomputable def cellAt (sc : List Int) (k : Nat) : Int := sc.getD k 0
noncomputable def mix (sc : List Int) (k : Nat) : Int := (cellAt sc k * 48271 + 7919 * k * k).fmod 1000003
theorem cell_spec (h5 : P 5 = some fn_5) (k : Nat) : callF strF P sc (n + 1) 5 [.scr, .int k] H = .ok (.int (cellAt sc k)) H := by
  have : (callF strF P sc (n + 1) 5 [.scr, .int k] H).sat fun v H' => v = .int (cellAt sc k) ∧ H' = H := by
    rw [sat_call h5 rfl]
    simp only [fn_5, sat_cons, sat_ite, sat_ret, sat_nil, dE_none, dE_bool, dE_int, dE_var, dE_gint, dE_bin, dE_neg, dE_not, dE_cmp, dE_cmp2, dE_and, dE_or, dE_ite, dE_call, dE_callv, dE_prim, dE_idx, dE_slice, dE_rev, dE_list, dE_tuple, dE_comp1, dE_comp2, dE_append, dEs_nil, dEs_cons, dT_not, dT_cmp, dT_cmp2, dT_and, dT_or, dT_var, dT_call, dT_prim, Res.sat_get, Res.sat_ok, List.map, List.cons_append, List.nil_append, List.getElem?_cons_zero, List.getElem?_cons_succ, Res.get, Res.thn, p_lenS, p_lenR, p_lenT, p_list, p_lrange, p_sorted, p_min2, p_max2, p_min1, p_max1, p_all, p_isInt, p_isBool, p_isList, p_isTuple, c_lt, c_le, c_gt, c_ge, c_eq, c_ne, c_eqR, c_neR, c_neB, c_in, c_notin, c_is, c_isnot, itemOf]
    by_cases h : k < sc.length
    · have : decide ((k : Int) < (sc.length : Int)) = true := by simpa using h
      simp [this, Res.sat, h, cellAt]
    · have : decide ((k : Int) < (sc.length : Int)) = false := by simpa using h
      have hn : sc[k]? = none := List.getElem?_eq_none (by (first | lia | omega))
      simp [h, hn, Res.sat, cellAt]
  obtain ⟨v, H', e, rfl, rfl⟩ := Res.sat_ex this
  exact e
theorem small_lit {i : Int} (h : i.natAbs < 2 ^ 60) : small i = true := by unfold small; simpa using h
theorem mix_spec (h5 : P 5 = some fn_5) (h6 : P 6 = some fn_6) {k : Nat} (hk : k < 1000) : callF strF P sc (n + 2) 6 [.scr, .int k] H = .ok (.int (mix sc k)) H := by
  have : (callF strF P sc (n + 2) 6 [.scr, .int k] H).sat fun v H' => v = .int (mix sc k) ∧ H' = H := by
    rw [sat_call h6 rfl]
    have m1 : mulOk (cellAt sc k) 48271 = true := by unfold mulOk; rw [small_lit (i := 48271) (by decide)]; simp
    have m2 : mulOk 7919 k = true := by unfold mulOk; rw [small_lit (i := 7919) (by decide)]; simp
    have m3 : mulOk (7919 * (k : Int)) k = true := by unfold mulOk; rw [small_lit (i := (k : Int)) (by (first | lia | omega))]; simp
    simp only [fn_6, sat_cons, sat_ret, sat_nil, dE_none, dE_bool, dE_int, dE_var, dE_gint, dE_bin, dE_neg, dE_not, dE_cmp, dE_cmp2, dE_and, dE_or, dE_ite, dE_call, dE_callv, dE_prim, dE_idx, dE_slice, dE_rev, dE_list, dE_tuple, dE_comp1, dE_comp2, dE_append, dEs_nil, dEs_cons, Res.sat_get, Res.sat_ok, List.map, List.cons_append, List.nil_append, List.getElem?_cons_zero, List.getElem?_cons_succ, Res.get, Res.thn, b_add, b_sub, b_mul, b_div, b_mod, b_pow, b_addL, b_mulL, cell_spec h5, m1, m2, m3, if_true]
    simp [Res.sat, mix]
  obtain ⟨v, H', e, rfl, rfl⟩ := Res.sat_ex this
  exact e
end

/-! tables -/
noncomputable def rowL (n : Nat) (f : Nat → Int) : List AV := (List.range n).map fun j => .int (f j)
theorem rowL_length {n : Nat} {f : Nat → Int} : (rowL n f).length = n := by unfold rowL; simp
theorem rowL_get {n : Nat} {f : Nat → Int} {j : Nat} (h : j < n) : (rowL n f)[j]? = some (.int (f j)) := by
  unfold rowL; rw [List.getElem?_map, List.getElem?_range h]; rfl
/-- a table of ints in the heap -/
structure TblR (H : AHeap) (t : Nat) (qs : List Nat) (n : Nat) (A : Mat) : Prop where
  top : H[t]? = some (.list (qs.map .ref))
  len : qs.length = n
  row : ∀ {i q : Nat}, qs[i]? = some q → H[q]? = some (.list (rowL n (A i)))

section
variable {sc : List Int} {H : AHeap} {t n : Nat} {qs : List Nat} {A : Mat}
theorem item_ref {r : Nat} {xs : List AV} {x : AV} {k : Nat} (h : H[r]? = some (.list xs)) (hx : xs[k]? = some x) : itemOf sc (.ref r) (.int k) H = .ok x H := by
  have hk : k < xs.length := (List.getElem?_eq_some_iff.mp hx).1
  unfold itemOf items at?
  simp only [h]
  rw [if_pos ⟨by (first | lia | omega), by (first | lia | omega)⟩]
  simp [hx]
inductive AtR (sc : List Int) (H : AHeap) (t : Nat) (qs : List Nat) (n : Nat) (A : Mat) (i : Nat) : Prop
  | mk (q : Nat) (e : qs[i]? = some q) (g : itemOf sc (.ref t) (.int i) H = .ok (.ref q) H) (r : H[q]? = some (.list (rowL n (A i)))) : AtR sc H t qs n A i
end

section
variable {strF : PyData → Option Str} {sc : List Int} {P : Nat → Option FnI} {H : AHeap} {n m : Nat} {t at' : Nat} {qs : List Nat} {A : Mat}
end
end Mine

namespace Mine
open PySem

/-- a table that may be written -/
structure TblW (H0 H : AHeap) (t : Nat) (qs : List Nat) (n : Nat) (A : Mat) : Prop where
  rd : TblR H t qs n A
  pre : H0 <+: H
  ht : H0.length ≤ t
  inj : ∀ {i j q : Nat}, qs[i]? = some q → qs[j]? = some q → i = j
  tq : ∀ {i : Nat}, qs[i]? ≠ some t
  ge : ∀ {i q : Nat}, qs[i]? = some q → H0.length ≤ q

theorem prefix_set {H0 H : AHeap} {r : Nat} {o : AObj} (p : H0 <+: H) (h : H0.length ≤ r) : H0 <+: H.set r o := by
  obtain ⟨x, rfl⟩ := p
  rw [List.set_append_right _ _ h]
  exact List.prefix_append ..

section
variable {H0 H : AHeap} {t n : Nat} {qs : List Nat} {A : Mat}
end

/-- the frame of worth_of -/
structure Wf (ρ : AEnv) (t : Nat) (sg last : Int) (k : Nat) : Prop where
  len : ρ.length = 9
  v0 : ρ[0]? = some (some (.ref t))
  v1 : ρ[1]? = some (some (.int sg))
  v2 : ρ[2]? = some (some (.int last))
  v3 : ρ[3]? = some (some (.int k))
section
variable {strF : PyData → Option Str} {cf : Nat → List AV → AHeap → Res AV} {sc : List Int} {H0 H : AHeap} {t n k : Nat} {qs : List Nat} {A M : Mat} {sg last : Int} {ρ : AEnv} {N : AEnv → AHeap → Prop} {R : AV → AHeap → Prop}

/-- how far the table has come -/
noncomputable def mixM (M A : Mat) (k i p : Nat) : Mat := fun a b => if k < a ∧ k < b ∧ (a < i ∨ (a = i ∧ b < p)) then E M (k + 1) a b else A a b

end
end Mine

namespace Mine
open PySem

theorem still_of {H : AHeap} {r : Nat} {xs : List AV} (h : H[r]? = some (.list xs)) : still H r xs = true := by
  unfold still
  rw [h]
  simp
theorem get_pre {H H' : AHeap} {r : Nat} {o : AObj} (p : H <+: H') (h : H[r]? = some o) : H'[r]? = some o := by
  obtain ⟨x, rfl⟩ := p
  rw [List.getElem?_append_left (List.getElem?_eq_some_iff.mp h).1]; exact h

section
variable {strF : PyData → Option Str} {cf : Nat → List AV → AHeap → Res AV} {sc : List Int} {b : Nat} {H : AHeap} {t n : Nat} {qs : List Nat} {A : Mat} {ρ : AEnv}

end

noncomputable def fn_20 : FnI := ⟨1, 9, .cons (.assign 0 (.comp1 (.prim .list (.cons (.var 0) .nil)) (.of (.var 0)) .none)) (.cons (.assign 1 (.int 1)) (.cons (.assign 2 (.int 1)) (.cons (.for1 3 (.range1 (.prim .len (.cons (.var 0) .nil))) (.cons (.assign 4 (.call 19 (.cons (.var 0) (.cons (.var 3) .nil)))) (.cons (.ite (.cmp .Is (.var 4) .none) (.cons (.ret (.int 0)) .nil) .nil) (.cons (.ite (.cmp .NotEq (.var 4) (.var 3)) (.cons (.assign 5 (.idx (.var 0) (.var 3))) (.cons (.setIdx (.var 0) (.var 3) (.idx (.var 0) (.var 4))) (.cons (.setIdx (.var 0) (.var 4) (.var 5)) (.cons (.assign 1 (.neg (.var 1))) .nil)))) .nil) (.cons (.for1 6 (.range2 (.bin .Add (.var 3) (.int 1)) (.prim .len (.cons (.var 0) .nil))) (.cons (.for1 7 (.range2 (.bin .Add (.var 3) (.int 1)) (.prim .len (.cons (.var 0) .nil))) (.cons (.assign 8 (.bin .Sub (.bin .Mult (.idx (.idx (.var 0) (.var 6)) (.var 7)) (.idx (.idx (.var 0) (.var 3)) (.var 3))) (.bin .Mult (.idx (.idx (.var 0) (.var 6)) (.var 3)) (.idx (.idx (.var 0) (.var 3)) (.var 7))))) (.cons (.setIdx (.idx (.var 0) (.var 6)) (.var 7) (.bin .FloorDiv (.var 8) (.var 2))) .nil))) .nil)) (.cons (.assign 2 (.idx (.idx (.var 0) (.var 3)) (.var 3))) .nil)))))) (.cons (.ret (.bin .Mult (.var 1) (.var 2))) .nil))))⟩
/-- what holds ahead of turn k -/
structure Winv (M0 : Mat) (H0 : AHeap) (t n k : Nat) (sg last : Int) (M A : Mat) (qs : List Nat) (H : AHeap) : Prop where
  T : TblW H0 H t qs n A
  hA : ∀ i j, k ≤ i → i < n → k ≤ j → j < n → A i j = E M k i j
  hB : ∀ a b, a < n → b < n → (M a b).natAbs ≤ 2 ^ 60
  hq : det k M = last
  hq0 : last ≠ 0
  hs : sg = 1 ∨ sg = -1
  hd : sg * det n M = det n M0
  hl : last.natAbs < big

section
variable {strF : PyData → Option Str} {sc : List Int} {P : Nat → Option FnI} {H0 H : AHeap} {t n m k : Nat} {qs : List Nat} {A M M0 : Mat} {sg last : Int} {ρ : AEnv} {N : AEnv → AHeap → Prop} {R : AV → AHeap → Prop}

end
end Mine

namespace Mine
open PySem

theorem last_get (H : AHeap) (o : AObj) : (H ++ [o])[H.length]? = some o := by simp
theorem pre_app (H X : AHeap) : H <+: H ++ X := List.prefix_append ..

/-- a table that grows: i rows stand -/
structure Grow (H0 H : AHeap) (t : Nat) (qs : List Nat) (n i : Nat) (A : Mat) : Prop where
  top : H[t]? = some (.list (qs.map .ref))
  len : qs.length = i
  row : ∀ {j q : Nat}, qs[j]? = some q → H[q]? = some (.list (rowL n (A j)))
  pre : H0 <+: H
  ht : H0.length ≤ t
  inj : ∀ {i j q : Nat}, qs[i]? = some q → qs[j]? = some q → i = j
  tq : ∀ {i : Nat}, qs[i]? ≠ some t
  ge : ∀ {i q : Nat}, qs[i]? = some q → H0.length ≤ q
section
variable {strF : PyData → Option Str} {sc : List Int} {P : Nat → Option FnI} {H : AHeap} {n m : Nat} {ρ : AEnv}

theorem rangeL_nat (n : Nat) : rangeL 0 n = (List.range n).map fun (k : Nat) => AV.int (k : Int) := by
  unfold rangeL
  simp

end
end Mine

namespace Mine
open PySem

section
variable {strF : PyData → Option Str} {sc : List Int} {P : Nat → Option FnI} {H H0 : AHeap} {n m : Nat} {ρ : AEnv}

end
end Mine

namespace Mine
open PySem

/-! reading tables -/
/-! triangular tables -/
end Mine

namespace Mine
open PySem

/-- the frame of law 05 -/
structure Lf (ρ : AEnv) (t n : Nat) (due : Int) : Prop where
  len : ρ.length = 12
  v0 : ρ[0]? = some (some .scr)
  v1 : ρ[1]? = some (some (.int n))
  v2 : ρ[2]? = some (some (.ref t))
  v3 : ρ[3]? = some (some (.int due))
noncomputable def B05 (k : Nat) : Nat := 600000 * 5 ^ k
structure Linv (H : AHeap) (t n : Nat) (due : Int) (k : Nat) (A : Mat) (qs : List Nat) : Prop where
  T : TblW [] H t qs n A
  d : det n A = due
  B : ∀ a b, a < n → b < n → (A a b).natAbs ≤ B05 k

section
variable {strF : PyData → Option Str} {sc : List Int} {P : Nat → Option FnI} {H : AHeap} {n m : Nat} {ρ : AEnv} {N : AEnv → AHeap → Prop} {R : AV → AHeap → Prop} {t : Nat} {due : Int} {A : Mat} {qs : List Nat}

inductive ModR (c : Int) (n : Nat) : Prop
  | mk (k : Nat) (e : c.fmod n = k) (h : k < n) : ModR c n
theorem fmod_nat {c : Int} {n : Nat} (hn : 0 < n) : ModR c n := by
  have h1 : 0 ≤ c.fmod n := Int.fmod_nonneg_of_pos _ (by (first | lia | omega))
  have h2 : c.fmod n < n := Int.fmod_lt_of_pos _ (by (first | lia | omega))
  exact ⟨(c.fmod n).toNat, by (first | lia | omega), by (first | lia | omega)⟩
theorem big_lit {i : Int} (h : i.natAbs < 1000000) : i.natAbs < big := Nat.lt_of_lt_of_le h (by decide)

end
end Mine

namespace Mine
open PySem

section
variable {strF : PyData → Option Str} {sc : List Int} {P : Nat → Option FnI} {H : AHeap} {n m : Nat} {ρ : AEnv}

end
end Mine

namespace Mine
open PySem

theorem inR_nat {n : Nat} (h : n ≤ 1000) : inR (n : Int) = true := by unfold inR; simp; (first | lia | omega)
theorem lim_nat {n : Nat} (h : n ≤ 1000) : n ≤ lim := Nat.le_trans h (by decide)

section
variable {strF : PyData → Option Str} {sc : List Int} {P : Nat → Option FnI} {H H0 : AHeap} {n m : Nat} {ρ : AEnv} {cf : Nat → List AV → AHeap → Res AV}

end
end Mine

namespace Mine
open PySem

section
variable {strF : PyData → Option Str} {sc : List Int} {P : Nat → Option FnI} {H H0 : AHeap} {n m : Nat} {ρ : AEnv} {cf : Nat → List AV → AHeap → Res AV}

end
end Mine

namespace Mine

/-! expansion along any row, cofactors -/
/-! ties -/
noncomputable def isP (i p : Nat) : Int := if i = p then 1 else 0
noncomputable def lapE (e : Nat × Nat) (i j : Nat) : Int := (isP i e.1 - isP i e.2) * (isP j e.1 - isP j e.2)
noncomputable def lap : List (Nat × Nat) → Mat
  | [], _, _ => 0
  | e :: es, i, j => lapE e i j + lap es i j
noncomputable def okT (n : Nat) (E : List (Nat × Nat)) : Prop := ∀ e ∈ E, e.1 < n ∧ e.2 < n
noncomputable def tau (n : Nat) (E : List (Nat × Nat)) : Int := det (n - 1) fun a b => lap E (a + 1) (b + 1)
/-- two places are one -/
noncomputable def join (lo hi p : Nat) : Nat := if p = hi then lo else if p < hi then p else p - 1
noncomputable def joinE (lo hi : Nat) (e : Nat × Nat) : Nat × Nat := (join lo hi e.1, join lo hi e.2)
/-! tallies are not below nought; they are nought just where the net does not hang together -/
inductive Conn (E : List (Nat × Nat)) : Nat → Nat → Prop
  | refl (p : Nat) : Conn E p p
  | tie {e : Nat × Nat} : e ∈ E → Conn E e.1 e.2
  | symm {p q : Nat} : Conn E p q → Conn E q p
  | trans {p q r : Nat} : Conn E p q → Conn E q r → Conn E p r
theorem Conn.mono {E F : List (Nat × Nat)} {p q : Nat} (c : Conn E p q) (h : ∀ e ∈ E, Conn F e.1 e.2) : Conn F p q := by
  induction c with
  | refl p => exact .refl p
  | tie m => exact h _ m
  | symm _ ih => exact ih.symm
  | trans _ _ i1 i2 => exact i1.trans i2
noncomputable def AllC (n : Nat) (E : List (Nat × Nat)) : Prop := ∀ p q, p < n → q < n → Conn E p q
theorem conn_nil {p q : Nat} (c : Conn [] p q) : p = q := by
  induction c with
  | refl p => rfl
  | tie m => cases m
  | symm _ ih => exact ih.symm
  | trans _ _ i1 i2 => exact i1.trans i2

end Mine

namespace Mine

/-! renumbering, order, turning -/
structure Ren (n : Nat) (σ : Nat → Nat) : Prop where
  lt : ∀ x, x < n → σ x < n
  inj : ∀ x y, x < n → y < n → σ x = σ y → x = y
/-! two nets that meet at one place -/
noncomputable def ends (f p x : Nat) : Nat := if x = 0 then p else f + (x - 1)
end Mine

namespace Mine
open PySem

/-! ties in the heap -/
noncomputable def tieV (e : Nat × Nat) : AV := .tup [.int e.1, .int e.2]
noncomputable def tieD (e : Nat × Nat) : PyData := .tuple [.int e.1, .int e.2]
noncomputable abbrev TL (H : AHeap) (r : Nat) (E : List (Nat × Nat)) : Prop := H[r]? = some (.list (E.map tieV))

theorem mapM_ties {H : AHeap} {d : Nat} : ∀ (E : List (Nat × Nat)), (E.map tieV).mapM (rd H (d + 1)) = some (E.map tieD)
  | [] => rfl
  | x :: E => by
    rw [List.map_cons, List.mapM_cons, mapM_ties E]
    cases d <;> rfl
theorem rd_ties {H : AHeap} {r d : Nat} {E : List (Nat × Nat)} (h : TL H r E) : rd H (d + 2) (.ref r) = some (.list (E.map tieD)) := by
  unfold rd
  simp only [show H[r]? = some (.list (E.map tieV)) from h, mapM_ties]; rfl
theorem eqvAll_ties : ∀ (E : List (Nat × Nat)), PyData.eqvAll (E.map tieD) (E.map tieD) = true
  | [] => rfl
  | x :: E => by
    simp only [List.map_cons, PyData.eqvAll, eqvAll_ties E, tieD]
    simp [PyData.eqv, PyData.eqvAll]
theorem eqv_ties (E : List (Nat × Nat)) : PyData.eqv (.list (E.map tieD)) (.list (E.map tieD)) = true := by unfold PyData.eqv; exact eqvAll_ties E
theorem eqOf_ties {H : AHeap} {r q : Nat} {E : List (Nat × Nat)} (h : TL H r E) (h' : TL H q E) : eqOf (.ref r) (.ref q) H = some true := by
  unfold eqOf
  rw [rd_ties (d := 6) h, rd_ties (d := 6) h']
  simp only [eqv_ties]
theorem eqOf_nil {H : AHeap} {r : Nat} {E : List (Nat × Nat)} (h : TL H r E) : eqOf (.ref r) (.ref H.length) (H ++ [.list []]) = some (decide (E = [])) := by
  have h2 : TL (H ++ [.list []]) H.length [] := last_get _ _
  unfold eqOf
  rw [rd_ties (d := 6) (get_pre (pre_app _ _) h), rd_ties (d := 6) h2]
  cases E with
  | nil => rfl
  | cons e E => rfl

section
variable {strF : PyData → Option Str} {sc : List Int} {P : Nat → Option FnI} {H H0 : AHeap} {n m : Nat} {ρ : AEnv} {cf : Nat → List AV → AHeap → Res AV} {N : AEnv → AHeap → Prop} {R : AV → AHeap → Prop}

theorem ties_get {E : List (Nat × Nat)} {k : Nat} {v : AV} (h : (E.map tieV)[k]? = some v) : ∃ e, E[k]? = some e ∧ v = tieV e := by
  rw [List.getElem?_map] at h
  cases q : E[k]? with
  | none => rw [q] at h; cases h
  | some e => rw [q] at h; cases h; exact ⟨e, rfl, rfl⟩

/-- a for over a list -/
theorem forL_list {step : AV → AEnv → AHeap → SR} {r : Nat} {ws : List AV} (I : Nat → AEnv → AHeap → Prop) (h0 : I 0 ρ H)
    (hs : ∀ k v ρ H, ws[k]? = some v → I k ρ H → (step v ρ H).sat (fun ρ H => I (k + 1) ρ H ∧ H[r]? = some (.list ws)) R) (hN : ∀ ρ H, I ws.length ρ H → N ρ H) : (forL [(r, ws)] step ws ρ H).sat N R := by
  have : ∀ (us pre : List AV) (ρ : AEnv) (H : AHeap), pre ++ us = ws → I pre.length ρ H → (forL [(r, ws)] step us ρ H).sat N R := by
    intro us
    induction us with
    | nil =>
      intro pre ρ H e hI
      rw [List.append_nil] at e; subst e
      exact hN _ _ hI
    | cons v us ih =>
      intro pre ρ H e hI
      have h1 := hs pre.length v ρ H (by rw [← e]; simp) hI
      unfold forL
      cases e1 : step v ρ H with
      | next ρ' H' =>
        rw [e1] at h1
        have h2 : H'[r]? = some (.list ws) := h1.2
        simp only [List.all_cons, List.all_nil, Bool.and_true, still_of h2, if_true]
        exact ih (pre ++ [v]) ρ' H' (by rw [← e]; simp) (by rw [List.length_append]; exact h1.1)
      | ret w H' => rw [e1] at h1; exact h1
      | exc c H' => rw [e1] at h1; exact h1
      | bad => rw [e1] at h1; exact h1
  exact this ws [] ρ H rfl h0

/-- a comprehension over ties that makes ties -/
theorem compL_ties {r : Nat} {ws : List AV} {step : AV → AHeap → Res (Option AV)} (hr : H[r]? = some (.list ws)) (f : Nat × Nat → Nat × Nat) : ∀ (E : List (Nat × Nat)), (∀ e ∈ E, step (tieV e) H = .ok (some (tieV (f e))) H) →
    compL [(r, ws)] step (E.map tieV) H = .ok ((E.map f).map tieV) H
  | [], _ => rfl
  | e :: E, h => by
    rw [List.map_cons, compL, h e List.mem_cons_self]
    simp only [Res.get, List.all_cons, List.all_nil, Bool.and_true, still_of hr, if_true, compL_ties hr f E fun e he => h e (List.mem_cons_of_mem _ he), consO, List.map_cons]

theorem append_tie {r : Nat} {E : List (Nat × Nat)} {e : Nat × Nat} (h : TL H r E) (hge : H0.length ≤ r) (hl : E.length < lim) : appendTo H0.length (.ref r) (tieV e) H = .ok .none (H.set r (.list ((E ++ [e]).map tieV))) := by
  unfold appendTo
  simp only [show H[r]? = some (.list (E.map tieV)) from h]
  rw [if_pos ⟨hge, by simpa using hl⟩]
  simp
theorem set_top {r : Nat} {o : AObj} (h : ∃ p, H[r]? = some p) : (H.set r o)[r]? = some o := by
  obtain ⟨p, h⟩ := h
  exact List.getElem?_set_self (List.getElem?_eq_some_iff.mp h).1

noncomputable def fn_7 : FnI := ⟨2, 6, .cons (.assign 2 (.list .nil)) (.cons (.for1 3 (.range1 (.bin .Sub (.var 1) (.int 1))) (.cons (.assign 4 (.call 6 (.cons (.var 0) (.cons (.bin .Add (.int 4) (.var 3)) .nil)))) (.cons (.assign 5 (.tuple (.cons (.bin .Mod (.var 4) (.bin .Add (.var 3) (.int 1))) (.cons (.bin .Add (.var 3) (.int 1)) .nil)))) (.cons (.expr (.append (.var 2) (.idx (.list (.cons (.var 5) (.cons (.tuple (.cons (.idx (.var 5) (.int 1)) (.cons (.idx (.var 5) (.int 0)) .nil))) .nil))) (.bin .Mod (.bin .FloorDiv (.var 4) (.int 7)) (.int 2))))) .nil)))) (.cons (.ret (.var 2)) .nil))⟩

theorem item_tup0 {x y : AV} : itemOf sc (.tup [x, y]) (.int 0) H = .ok x H := rfl
theorem item_tup1 {x y : AV} : itemOf sc (.tup [x, y]) (.int 1) H = .ok y H := rfl
theorem tup2 {x y : AV} : tupOf [x, y] H = .ok (.tup [x, y]) H := by unfold tupOf; rw [if_pos]; exact lim_nat (by simp)
theorem isL_of {r : Nat} {xs : List AV} (h : H[r]? = some (.list xs)) : isL (.ref r) H = true := by unfold isL; simp only [h]

end
end Mine

namespace Mine
open PySem

noncomputable def fn_8 : FnI := ⟨3, 12, .cons (.assign 3 (.call 6 (.cons (.var 0) (.cons (.int 0) .nil)))) (.cons (.assign 4 (.bin .Add (.int 1) (.bin .Mod (.var 3) (.var 1)))) (.cons (.assign 5 (.list .nil)) (.cons (.ite (.cmp .Gt (.bin .Mod (.bin .FloorDiv (.var 3) (.int 7)) (.int 5)) (.int 0)) (.cons (.assign 5 (.call 7 (.cons (.var 0) (.cons (.var 4) .nil)))) .nil) .nil) (.cons (.for1 6 (.range1 (.bin .Mod (.call 6 (.cons (.var 0) (.cons (.int 1) .nil))) (.bin .Add (.bin .Sub (.var 2) (.prim .len (.cons (.var 5) .nil))) (.int 1)))) (.cons (.assign 7 (.call 6 (.cons (.var 0) (.cons (.bin .Add (.int 11) (.var 6)) .nil)))) (.cons (.assign 8 (.bin .Mod (.var 7) (.var 4))) (.cons (.assign 9 (.tuple (.cons (.var 8) (.cons (.bin .Mod (.bin .Add (.var 8) (.bin .Mod (.bin .FloorDiv (.var 7) (.int 7)) (.var 4))) (.var 4)) .nil)))) (.cons (.ite (.and (.cons (.cmp .Eq (.bin .Mod (.bin .FloorDiv (.var 7) (.int 49)) (.int 6)) (.int 5)) (.cons (.cmp .NotEq (.var 5) (.list .nil)) .nil))) (.cons (.assign 9 (.idx (.var 5) (.bin .Mod (.bin .FloorDiv (.var 7) (.int 300)) (.prim .len (.cons (.var 5) .nil))))) .nil) .nil) (.cons (.expr (.append (.var 5) (.var 9))) .nil)))))) (.cons (.assign 10 (.bin .Mod (.bin .FloorDiv (.var 3) (.int 35)) (.var 4))) (.cons (.assign 5 (.comp2 (.tuple (.cons (.bin .Mod (.bin .Add (.var 0) (.var 12)) (.var 6)) (.cons (.bin .Mod (.bin .Add (.var 1) (.var 12)) (.var 6)) .nil))) (.of (.var 5)))) (.cons (.assign 11 (.bin .Mod (.call 6 (.cons (.var 0) (.cons (.int 2) .nil))) (.bin .Add (.prim .len (.cons (.var 5) .nil)) (.int 1)))) (.cons (.ret (.tuple (.cons (.var 4) (.cons (.bin .Add (.slice (.var 5) (.some (.var 11)) .none) (.slice (.var 5) .none (.some (.var 11)))) .nil)))) .nil))))))))⟩

noncomputable def netTail : PSs := .cons (.assign 10 (.bin .Mod (.bin .FloorDiv (.var 3) (.int 35)) (.var 4))) (.cons (.assign 5 (.comp2 (.tuple (.cons (.bin .Mod (.bin .Add (.var 0) (.var 12)) (.var 6)) (.cons (.bin .Mod (.bin .Add (.var 1) (.var 12)) (.var 6)) .nil))) (.of (.var 5)))) (.cons (.assign 11 (.bin .Mod (.call 6 (.cons (.var 0) (.cons (.int 2) .nil))) (.bin .Add (.prim .len (.cons (.var 5) .nil)) (.int 1)))) (.cons (.ret (.tuple (.cons (.var 4) (.cons (.bin .Add (.slice (.var 5) (.some (.var 11)) .none) (.slice (.var 5) .none (.some (.var 11)))) .nil)))) .nil)))
noncomputable def netBody : PSs := .cons (.assign 7 (.call 6 (.cons (.var 0) (.cons (.bin .Add (.int 11) (.var 6)) .nil)))) (.cons (.assign 8 (.bin .Mod (.var 7) (.var 4))) (.cons (.assign 9 (.tuple (.cons (.var 8) (.cons (.bin .Mod (.bin .Add (.var 8) (.bin .Mod (.bin .FloorDiv (.var 7) (.int 7)) (.var 4))) (.var 4)) .nil)))) (.cons (.ite (.and (.cons (.cmp .Eq (.bin .Mod (.bin .FloorDiv (.var 7) (.int 49)) (.int 6)) (.int 5)) (.cons (.cmp .NotEq (.var 5) (.list .nil)) .nil))) (.cons (.assign 9 (.idx (.var 5) (.bin .Mod (.bin .FloorDiv (.var 7) (.int 300)) (.prim .len (.cons (.var 5) .nil))))) .nil) .nil) (.cons (.expr (.append (.var 5) (.var 9))) .nil))))
noncomputable def netLoop : PSs := .cons (.for1 6 (.range1 (.bin .Mod (.call 6 (.cons (.var 0) (.cons (.int 1) .nil))) (.bin .Add (.bin .Sub (.var 2) (.prim .len (.cons (.var 5) .nil))) (.int 1)))) netBody) netTail
/-- what _law_net answers -/
inductive NetR (H : AHeap) (most room : Nat) (v : AV) (H' : AHeap) : Prop
  | mk (n r : Nat) (E : List (Nat × Nat)) (e : v = .tup [.int n, .ref r]) (t : TL H' r E) (p : H <+: H') (g : H.length ≤ r) (l : E.length ≤ room) (ok : okT n E) (h1 : 1 ≤ n) (h2 : n ≤ most) : NetR H most room v H'

section
variable {strF : PyData → Option Str} {sc : List Int} {P : Nat → Option FnI} {H H0 : AHeap} {n m : Nat} {ρ : AEnv} {cf : Nat → List AV → AHeap → Res AV} {N : AEnv → AHeap → Prop} {R : AV → AHeap → Prop}

theorem cut_lo {xs : List AV} {c : Nat} (hc : c ≤ xs.length) : cut xs (some (c : Int)) none = xs.drop c := by
  unfold cut
  simp only [cutAt_nat hc, List.take_length]
theorem cut_hi {xs : List AV} {c : Nat} (hc : c ≤ xs.length) : cut xs none (some (c : Int)) = xs.take c := by
  unfold cut
  simp only [cutAt_nat hc, List.drop_zero]

end
end Mine

namespace Mine
open PySem

noncomputable def fn_0 : FnI := ⟨3, 3, .cons (.ret (.and (.cons (.prim .isInt (.cons (.var 0) .nil)) (.cons (.not (.prim .isBool (.cons (.var 0) .nil))) (.cons (.cmp2 .LtE .LtE (.var 1) (.var 0) (.var 2)) .nil))))) .nil⟩
noncomputable def fn_1 : FnI := ⟨2, 3, .cons (.ite (.not (.call 0 (.cons (.var 0) (.cons (.int 1) (.cons (.gint 0 7) .nil))))) (.cons (.raise 1 "one to seven places") .nil) .nil) (.cons (.ite (.or (.cons (.not (.prim .isList (.cons (.var 1) .nil))) (.cons (.cmp .Gt (.prim .len (.cons (.var 1) .nil)) (.gint 1 16)) .nil))) (.cons (.raise 1 "a list of none to sixteen ties") .nil) .nil) (.cons (.for1 2 (.of (.var 1)) (.cons (.ite (.or (.cons (.not (.prim .isTuple (.cons (.var 2) .nil))) (.cons (.cmp .NotEq (.prim .len (.cons (.var 2) .nil)) (.int 2)) .nil))) (.cons (.raise 1 "a tie is a tuple of two places") .nil) .nil) (.cons (.ite (.or (.cons (.not (.call 0 (.cons (.idx (.var 2) (.int 0)) (.cons (.int 0) (.cons (.bin .Sub (.var 0) (.int 1)) .nil))))) (.cons (.not (.call 0 (.cons (.idx (.var 2) (.int 1)) (.cons (.int 0) (.cons (.bin .Sub (.var 0) (.int 1)) .nil))))) .nil))) (.cons (.raise 1 "no such place") .nil) .nil) .nil))) .nil))⟩
noncomputable def fn_21 : FnI := ⟨2, 5, .cons (.assign 2 (.comp1 (.comp1 (.int 0) (.range1 (.var 1)) .none) (.range1 (.var 0)) .none)) (.cons (.for2 3 4 (.of (.var 1)) (.cons (.ite (.cmp .NotEq (.var 3) (.var 4)) (.cons (.setIdx (.idx (.var 2) (.var 3)) (.var 3) (.bin .Add (.idx (.idx (.var 2) (.var 3)) (.var 3)) (.int 1))) (.cons (.setIdx (.idx (.var 2) (.var 4)) (.var 4) (.bin .Add (.idx (.idx (.var 2) (.var 4)) (.var 4)) (.int 1))) (.cons (.setIdx (.idx (.var 2) (.var 3)) (.var 4) (.bin .Sub (.idx (.idx (.var 2) (.var 3)) (.var 4)) (.int 1))) (.cons (.setIdx (.idx (.var 2) (.var 4)) (.var 3) (.bin .Sub (.idx (.idx (.var 2) (.var 4)) (.var 3)) (.int 1))) .nil)))) .nil) .nil)) (.cons (.ret (.var 2)) .nil))⟩
noncomputable def fn_23 : FnI := ⟨2, 2, .cons (.ret (.call 20 (.cons (.comp1 (.slice (.var 0) (.some (.int 1)) .none) (.of (.slice (.call 21 (.cons (.var 0) (.cons (.var 1) .nil))) (.some (.int 1)) .none)) .none) .nil))) .nil⟩
noncomputable def fn_24 : FnI := ⟨2, 2, .cons (.expr (.call 1 (.cons (.var 0) (.cons (.var 1) .nil)))) (.cons (.ret (.call 23 (.cons (.var 0) (.cons (.var 1) .nil)))) .nil)⟩
section
variable {strF : PyData → Option Str} {sc : List Int} {P : Nat → Option FnI} {H H0 : AHeap} {n m : Nat} {ρ : AEnv} {cf : Nat → List AV → AHeap → Res AV} {N : AEnv → AHeap → Prop} {R : AV → AHeap → Prop}

/-- one more at a place of a table -/
inductive CellR (sc : List Int) (H0 H : AHeap) (b t : Nat) (qs : List Nat) (n i j : Nat) (A : Mat) (d : Int) : Prop
  | mk (q : Nat) (H' : AHeap) (A' : Mat) (a : itemOf sc (.ref t) (.int i) H = .ok (.ref q) H) (b' : itemOf sc (.ref q) (.int j) H = .ok (.int (A i j)) H) (c : setAt b (.ref q) (.int j) (.int (A i j + d)) H = .ok () H') (T : TblW H0 H' t qs n A') (k : ∀ x y, A' x y = A x y + if x = i ∧ y = j then d else 0) : CellR sc H0 H b t qs n i j A d
end
end Mine

namespace Mine
open PySem

noncomputable def natV (p : Nat) : AV := .int p
theorem intsOf_nats : ∀ (F : List Nat), intsOf (F.map natV) = some (F.map fun (p : Nat) => (p : Int))
  | [] => rfl
  | x :: F => by
    show (intsOf (F.map natV)).map _ = _
    rw [intsOf_nats F]; rfl
theorem mem_nats {F : List Nat} {p : Nat} : ((p : Int) ∈ F.map fun (p : Nat) => (p : Int)) ↔ p ∈ F := by
  constructor
  · intro h
    obtain ⟨x, hx, e⟩ := List.mem_map.mp h
    rw [show p = x by (first | lia | omega)]; exact hx
  · intro h; exact List.mem_map.mpr ⟨p, h, rfl⟩
theorem inOf_nats {H : AHeap} {r p : Nat} {F : List Nat} (h : H[r]? = some (.list (F.map natV))) : inOf (.int p) (.ref r) H = some (decide (p ∈ F)) := by
  unfold inOf
  simp only [h, intsOf_nats, Option.map_some, mem_nats]
theorem insertI_length (x : Int) : ∀ l, (insertI x l).length = l.length + 1
  | [] => rfl
  | y :: r => by unfold insertI; split <;> simp [insertI_length x r]
theorem sortI_length : ∀ l, (sortI l).length = l.length
  | [] => rfl
  | x :: r => by unfold sortI; rw [insertI_length, sortI_length r]; rfl

/-- the end of a list of places that differ -/
theorem nodup_len {n : Nat} : ∀ {F : List Nat}, F.Nodup → (∀ p ∈ F, p < n) → F.length ≤ n := by
  induction n with
  | zero => intro F _ h; cases F with
    | nil => exact Nat.le_refl _
    | cons x F => exact absurd (h x List.mem_cons_self) (by (first | lia | omega))
  | succ n ih =>
    intro F hd h
    have h1 := ih (F := F.filter (· ≠ n)) (hd.filter _) fun p hp => by
      have := List.mem_filter.mp hp
      have h2 := h p this.1
      have h3 : p ≠ n := by simpa using this.2
      (first | lia | omega)
    have h2 : F.length ≤ (F.filter (· ≠ n)).length + 1 := by
      clear ih h h1
      induction F with
      | nil => simp
      | cons x F ih =>
        have hd' := List.nodup_cons.mp hd
        by_cases hx : x = n
        · subst hx
          have : F.filter (· ≠ x) = F := List.filter_eq_self.mpr fun p hp => by
            have : p ≠ x := fun e => hd'.1 (e ▸ hp)
            simpa using this
          rw [List.filter_cons_of_neg (by simp), this]; simp
        · have := ih hd'.2
          simp [hx] at this ⊢
          (first | lia | omega)
    (first | lia | omega)
section
variable {strF : PyData → Option Str} {sc : List Int} {P : Nat → Option FnI} {H H0 : AHeap} {n m : Nat} {ρ : AEnv} {cf : Nat → List AV → AHeap → Res AV} {N : AEnv → AHeap → Prop} {R : AV → AHeap → Prop}

/-- a while that ends -/
theorem whileL_rule {test : AEnv → AHeap → Res Bool} {body : AEnv → AHeap → SR} (I : Nat → AEnv → AHeap → Prop) (K : Nat)
    (hs : ∀ k ρ H, k ≤ K → I k ρ H → ∃ t H', test ρ H = .ok t H' ∧ (t = false → N ρ H') ∧ (t = true → k < K ∧ (body ρ H').sat (I (k + 1)) R)) :
    ∀ (f k : Nat) (ρ : AEnv) (H : AHeap), K < f + k → k ≤ K → I k ρ H → (whileL test body f ρ H).sat N R := by
  intro f
  induction f with
  | zero => intro k ρ H h1 h2; (first | lia | omega)
  | succ f ih =>
    intro k ρ H h1 h2 hI
    obtain ⟨t, H', e, hf, ht⟩ := hs k ρ H h2 hI
    unfold whileL
    rw [e]
    cases t with
    | false => exact hf rfl
    | true =>
      obtain ⟨hk, hb⟩ := ht rfl
      simp only
      cases e2 : body ρ H' with
      | next ρ' H'' => rw [e2] at hb; exact ih (k + 1) ρ' H'' (by (first | lia | omega)) (by (first | lia | omega)) hb
      | ret v H'' => rw [e2] at hb; exact hb
      | exc c H'' => rw [e2] at hb; exact hb
      | bad => rw [e2] at hb; exact hb
theorem sat_whl {c : PE} {body : PSs} {b : Nat} : (denS strF cf sc b (.whl c body) ρ H).sat N R = (whileL (denT strF cf sc b c) (denSs strF cf sc b body) 100 ρ H).sat N R := rfl

theorem append_nat {r p : Nat} {F : List Nat} (h : H[r]? = some (.list (F.map natV))) (hge : H0.length ≤ r) (hl : F.length < lim) : appendTo H0.length (.ref r) (.int p) H = .ok .none (H.set r (.list ((F ++ [p]).map natV))) := by
  unfold appendTo
  simp only [h]
  rw [if_pos ⟨hge, by simpa using hl⟩]
  simp [natV]

noncomputable def fn_10 : FnI := ⟨3, 7, .cons (.assign 3 (.list (.cons (.var 2) .nil))) (.cons (.assign 4 (.int 0)) (.cons (.whl (.cmp .Lt (.var 4) (.prim .len (.cons (.var 3) .nil))) (.cons (.for2 5 6 (.of (.var 1)) (.cons (.ite (.and (.cons (.cmp .Eq (.var 5) (.idx (.var 3) (.var 4))) (.cons (.cmp .NotIn (.var 6) (.var 3)) .nil))) (.cons (.expr (.append (.var 3) (.var 6))) .nil) .nil) (.cons (.ite (.and (.cons (.cmp .Eq (.var 6) (.idx (.var 3) (.var 4))) (.cons (.cmp .NotIn (.var 5) (.var 3)) .nil))) (.cons (.expr (.append (.var 3) (.var 5))) .nil) .nil) .nil))) (.cons (.assign 4 (.bin .Add (.var 4) (.int 1))) .nil))) (.cons (.ret (.prim .sorted (.cons (.var 3) .nil))) .nil)))⟩

/-- the places reached so far -/
structure Rch (E : List (Nat × Nat)) (n s : Nat) (F : List Nat) : Prop where
  nd : F.Nodup
  lt : ∀ p ∈ F, p < n ∧ Conn E s p
  st : s ∈ F
theorem Rch.add {E : List (Nat × Nat)} {n s x y : Nat} {F : List Nat} (h : Rch E n s F) (hx : x ∈ F) (c : Conn E x y) (hy : y < n) (hn : y ∉ F) : Rch E n s (F ++ [y]) :=
  ⟨by
    rw [List.nodup_append]
    refine ⟨h.nd, by simp, fun a ha b hb => ?_⟩
    simp at hb; subst hb
    exact fun e => hn (e ▸ ha), fun p hp => by
    rcases List.mem_append.mp hp with hp | hp
    · exact h.lt p hp
    · simp at hp; subst hp; exact ⟨hy, (h.lt x hx).2.trans c⟩, List.mem_append_left _ h.st⟩

theorem pre_get {F F' : List Nat} {k x : Nat} (p : F <+: F') (h : F[k]? = some x) : F'[k]? = some x := by
  obtain ⟨y, rfl⟩ := p
  rw [List.getElem?_append_left (List.getElem?_eq_some_iff.mp h).1]; exact h

end
end Mine

namespace Mine
open PySem

/-! The interpreter, step by step: one rule for each kind of code. -/
section
variable {strF : PyData → Option Str} {cf : Nat → List AV → AHeap → Res AV} {sc : List Int} {b : Nat} {ρ : AEnv} {H H1 H2 H3 H4 : AHeap} {x y z : PE} {es : PEs} {v w u : AV} {vs : List AV} {r t : Bool}
theorem v_none : denE strF cf sc b .none ρ H = .ok .none H := rfl
theorem v_int {i : Int} : denE strF cf sc b (.int i) ρ H = .ok (.int i) H := rfl
theorem v_gint {k : Nat} {i : Int} : denE strF cf sc b (.gint k i) ρ H = .ok (.int i) H := rfl
theorem v_var {i : Nat} (h : ρ[i]? = some (some v)) : denE strF cf sc b (.var i) ρ H = .ok v H := by
  show (match ρ[i]? with | some (some v) => Res.ok v H | _ => .bad) = _
  rw [h]
theorem v_bin {op : Operator} (h1 : denE strF cf sc b x ρ H = .ok v H1) (h2 : denE strF cf sc b y ρ H1 = .ok w H2) (h3 : binop op v w H2 = .ok u H3) : denE strF cf sc b (.bin op x y) ρ H = .ok u H3 := by
  show (denE strF cf sc b x ρ H).get _ = _
  rw [h1]; show (denE strF cf sc b y ρ H1).get _ = _
  rw [h2]; exact h3
theorem v_not (h1 : denE strF cf sc b x ρ H = .ok (.bool t) H1) : denE strF cf sc b (.not x) ρ H = .ok (.bool (!t)) H1 := by
  show (denE strF cf sc b x ρ H).get _ = _
  rw [h1]; rfl
theorem v_notT (h1 : denE strF cf sc b x ρ H = .ok (.bool false) H1) : denE strF cf sc b (.not x) ρ H = .ok (.bool true) H1 := v_not h1
theorem v_notF (h1 : denE strF cf sc b x ρ H = .ok (.bool true) H1) : denE strF cf sc b (.not x) ρ H = .ok (.bool false) H1 := v_not h1
theorem v_cmp {op : CmpOp} (h1 : denE strF cf sc b x ρ H = .ok v H1) (h2 : denE strF cf sc b y ρ H1 = .ok w H2) (h3 : cmpop op v w H2 = some r) : denE strF cf sc b (.cmp op x y) ρ H = .ok (.bool r) H2 := by
  show (denE strF cf sc b x ρ H).get _ = _
  rw [h1]; show (denE strF cf sc b y ρ H1).get _ = _
  rw [h2]; show (match cmpop op v w H2 with | some r => Res.ok (AV.bool r) H2 | none => .bad) = _
  rw [h3]
theorem v_cmp2 {o1 o2 : CmpOp} (h1 : denE strF cf sc b x ρ H = .ok v H1) (h2 : denE strF cf sc b y ρ H1 = .ok w H2) (h3 : cmpop o1 v w H2 = some true) (h4 : denE strF cf sc b z ρ H2 = .ok u H3) (h5 : cmpop o2 w u H3 = some r) :
    denE strF cf sc b (.cmp2 o1 o2 x y z) ρ H = .ok (.bool r) H3 := by
  rw [dE_cmp2, h1]; show (denE strF cf sc b y ρ H1).get _ = _
  rw [h2]; simp only [Res.get, h3, h4, h5]
theorem v_cmp2f {o1 o2 : CmpOp} (h1 : denE strF cf sc b x ρ H = .ok v H1) (h2 : denE strF cf sc b y ρ H1 = .ok w H2) (h3 : cmpop o1 v w H2 = some false) : denE strF cf sc b (.cmp2 o1 o2 x y z) ρ H = .ok (.bool false) H2 := by
  rw [dE_cmp2, h1]; show (denE strF cf sc b y ρ H1).get _ = _
  rw [h2]; simp only [Res.get, h3]
theorem v_and (h : denAnd strF cf sc b es ρ H = .ok v H1) : denE strF cf sc b (.and es) ρ H = .ok v H1 := h
theorem a_one (h : denE strF cf sc b x ρ H = .ok v H1) : denAnd strF cf sc b (.cons x .nil) ρ H = .ok v H1 := h
theorem a_true (h : denE strF cf sc b x ρ H = .ok (.bool true) H1) (h2 : denAnd strF cf sc b (.cons y es) ρ H1 = .ok v H2) : denAnd strF cf sc b (.cons x (.cons y es)) ρ H = .ok v H2 := by
  rw [dA_cons, h]; exact h2
theorem a_false (h : denE strF cf sc b x ρ H = .ok (.bool false) H1) : denAnd strF cf sc b (.cons x (.cons y es)) ρ H = .ok (.bool false) H1 := by
  rw [dA_cons, h]; rfl
theorem v_iteT (h1 : denT strF cf sc b x ρ H = .ok true H1) (h2 : denE strF cf sc b y ρ H1 = .ok v H2) : denE strF cf sc b (.ite x y z) ρ H = .ok v H2 := by
  rw [dE_ite, h1]; exact h2
theorem v_iteF (h1 : denT strF cf sc b x ρ H = .ok false H1) (h2 : denE strF cf sc b z ρ H1 = .ok v H2) : denE strF cf sc b (.ite x y z) ρ H = .ok v H2 := by
  rw [dE_ite, h1]; exact h2
theorem v_call {k : Nat} (h1 : denEs strF cf sc b es ρ H = .ok vs H1) (h2 : cf k vs H1 = .ok v H2) : denE strF cf sc b (.call k es) ρ H = .ok v H2 := by
  rw [dE_call, h1]; exact h2
theorem v_prim {p : Prim} (h1 : denEs strF cf sc b es ρ H = .ok vs H1) (h2 : prim strF sc p vs H1 = .ok v H2) : denE strF cf sc b (.prim p es) ρ H = .ok v H2 := by
  rw [dE_prim, h1]; exact h2
theorem v_sset (h1 : denE strF cf sc b x ρ H = .ok v H1) (h2 : prim strF sc .sortedSet [v] H1 = .ok w H2) : denE strF cf sc b (.sset x) ρ H = .ok w H2 := by
  rw [dE_sset, h1]; exact h2
theorem v_idx (h1 : denE strF cf sc b x ρ H = .ok v H1) (h2 : denE strF cf sc b y ρ H1 = .ok w H2) (h3 : itemOf sc v w H2 = .ok u H3) : denE strF cf sc b (.idx x y) ρ H = .ok u H3 := by
  rw [dE_idx, h1]; show (denE strF cf sc b y ρ H1).get _ = _
  rw [h2]; exact h3
theorem o_none : denO strF cf sc b .none ρ H = .ok none H := rfl
theorem o_some {i : Int} (h1 : denE strF cf sc b x ρ H = .ok (.int i) H1) : denO strF cf sc b (.some x) ρ H = .ok (some i) H1 := by
  rw [dO_some, h1]; rfl
theorem v_slice {lo hi : PEo} {l h : Option Int} {q : Nat} {xs : List AV} (h1 : denE strF cf sc b x ρ H = .ok (.ref q) H1) (h2 : denO strF cf sc b lo ρ H1 = .ok l H2) (h3 : denO strF cf sc b hi ρ H2 = .ok h H3) (h4 : H3[q]? = some (.list xs)) (h5 : alloc (cut xs l h) H3 = .ok v H4) :
    denE strF cf sc b (.slice x lo hi) ρ H = .ok v H4 := by
  rw [dE_slice, h1]; show (denO strF cf sc b lo ρ H1).get _ = _
  rw [h2]; show (denO strF cf sc b hi ρ H2).get _ = _
  rw [h3]; simp only [Res.get, h4, h5]
theorem v_list (h1 : denEs strF cf sc b es ρ H = .ok vs H1) (h2 : alloc vs H1 = .ok v H2) : denE strF cf sc b (.list es) ρ H = .ok v H2 := by
  rw [dE_list, h1]; exact h2
theorem v_tuple (h1 : denEs strF cf sc b es ρ H = .ok vs H1) (h2 : tupOf vs H1 = .ok v H2) : denE strF cf sc b (.tuple es) ρ H = .ok v H2 := by
  rw [dE_tuple, h1]; exact h2
theorem v_comp1 {it : It} {c : PEo} {p : List AV × List (Nat × List AV)} (h1 : denI strF cf sc b it ρ H = .ok p H1)
    (h2 : compL p.2 (fun v H => (denC strF cf sc b c (some v :: ρ) H).get fun t H => if t then (denE strF cf sc b x (some v :: ρ) H).get fun x H => .ok (some x) H else .ok none H) p.1 H1 = .ok vs H2) (h3 : alloc vs H2 = .ok v H3) :
    denE strF cf sc b (.comp1 x it c) ρ H = .ok v H3 := by
  rw [dE_comp1, h1]; show Res.get (compL p.2 _ p.1 H1) _ = _
  rw [h2]; exact h3
theorem v_comp2 {it : It} {p : List AV × List (Nat × List AV)} (h1 : denI strF cf sc b it ρ H = .ok p H1)
    (h2 : compL p.2 (fun v H => pairR (fun u w => (denE strF cf sc b x (some u :: some w :: ρ) H).get fun x H => .ok (some x) H) v) p.1 H1 = .ok vs H2) (h3 : alloc vs H2 = .ok v H3) :
    denE strF cf sc b (.comp2 x it) ρ H = .ok v H3 := by
  rw [dE_comp2, h1]; show Res.get (compL p.2 _ p.1 H1) _ = _
  rw [h2]; exact h3
/-- one turn of a comprehension -/
theorem k_none1 (h : denE strF cf sc b x (some u :: ρ) H = .ok v H1) : ((denC strF cf sc b .none (some u :: ρ) H).get fun t H => if t then (denE strF cf sc b x (some u :: ρ) H).get fun x H => .ok (some x) H else .ok none H) = .ok (some v) H1 := by
  show (denE strF cf sc b x (some u :: ρ) H).get _ = _
  rw [h]; rfl
theorem k_true (h1 : denT strF cf sc b y (some u :: ρ) H = .ok true H1) (h : denE strF cf sc b x (some u :: ρ) H1 = .ok v H2) : ((denC strF cf sc b (.some y) (some u :: ρ) H).get fun t H => if t then (denE strF cf sc b x (some u :: ρ) H).get fun x H => .ok (some x) H else .ok none H) = .ok (some v) H2 := by
  show (denT strF cf sc b y (some u :: ρ) H).get _ = _
  rw [h1]; show (denE strF cf sc b x (some u :: ρ) H1).get _ = _
  rw [h]; rfl
theorem k_false (h1 : denT strF cf sc b y (some u :: ρ) H = .ok false H1) : ((denC strF cf sc b (.some y) (some u :: ρ) H).get fun t H => if t then (denE strF cf sc b x (some u :: ρ) H).get fun x H => .ok (some x) H else .ok none H) = .ok none H1 := by
  show (denT strF cf sc b y (some u :: ρ) H).get _ = _
  rw [h1]; rfl
theorem k_pair (h : denE strF cf sc b x (some v :: some w :: ρ) H = .ok u H1) : pairR (fun u w => (denE strF cf sc b x (some u :: some w :: ρ) H).get fun x H => .ok (some x) H) (.tup [v, w]) = .ok (some u) H1 := by
  show (denE strF cf sc b x (some v :: some w :: ρ) H).get _ = _
  rw [h]; rfl
theorem v_append (h1 : denE strF cf sc b x ρ H = .ok v H1) (h2 : isL v H1 = true) (h3 : denE strF cf sc b y ρ H1 = .ok w H2) (h4 : appendTo b v w H2 = .ok u H3) : denE strF cf sc b (.append x y) ρ H = .ok u H3 := by
  rw [dE_append, h1]; show (if isL v H1 = true then _ else _) = _
  rw [if_pos h2, h3]; exact h4
theorem vs_nil : denEs strF cf sc b .nil ρ H = .ok [] H := rfl
theorem vs_cons (h1 : denE strF cf sc b x ρ H = .ok v H1) (h2 : denEs strF cf sc b es ρ H1 = .ok vs H2) : denEs strF cf sc b (.cons x es) ρ H = .ok (v :: vs) H2 := by
  rw [dEs_cons, h1]; show (denEs strF cf sc b es ρ H1).thn _ = _
  rw [h2]; rfl
theorem t_not (h1 : denT strF cf sc b x ρ H = .ok t H1) : denT strF cf sc b (.not x) ρ H = .ok (!t) H1 := by
  rw [dT_not, h1]; rfl
theorem t_notF (h1 : denT strF cf sc b x ρ H = .ok true H1) : denT strF cf sc b (.not x) ρ H = .ok false H1 := t_not h1
theorem t_cmp {op : CmpOp} (h1 : denE strF cf sc b x ρ H = .ok v H1) (h2 : denE strF cf sc b y ρ H1 = .ok w H2) (h3 : cmpop op v w H2 = some r) : denT strF cf sc b (.cmp op x y) ρ H = .ok r H2 := by
  rw [dT_cmp, h1]; show (denE strF cf sc b y ρ H1).get _ = _
  rw [h2]; simp only [Res.get, h3]
theorem t_and (h : denAndT strF cf sc b es ρ H = .ok r H1) : denT strF cf sc b (.and es) ρ H = .ok r H1 := h
theorem t_or (h : denOrT strF cf sc b es ρ H = .ok r H1) : denT strF cf sc b (.or es) ρ H = .ok r H1 := h
theorem at_nil : denAndT strF cf sc b .nil ρ H = .ok true H := rfl
theorem at_true (h : denT strF cf sc b x ρ H = .ok true H1) (h2 : denAndT strF cf sc b es ρ H1 = .ok r H2) : denAndT strF cf sc b (.cons x es) ρ H = .ok r H2 := by
  rw [dAT_cons, h]; exact h2
theorem at_false (h : denT strF cf sc b x ρ H = .ok false H1) : denAndT strF cf sc b (.cons x es) ρ H = .ok false H1 := by
  rw [dAT_cons, h]; rfl
theorem ot_nil : denOrT strF cf sc b .nil ρ H = .ok false H := rfl
theorem ot_false (h : denT strF cf sc b x ρ H = .ok false H1) (h2 : denOrT strF cf sc b es ρ H1 = .ok r H2) : denOrT strF cf sc b (.cons x es) ρ H = .ok r H2 := by
  rw [dOT_cons, h]; exact h2
theorem t_call {k : Nat} (h1 : denEs strF cf sc b es ρ H = .ok vs H1) (h2 : cf k vs H1 = .ok (.bool t) H2) : denT strF cf sc b (.call k es) ρ H = .ok t H2 := by
  rw [dT_call, h1]; show (cf k vs H1).get _ = _
  rw [h2]; rfl
theorem t_prim {p : Prim} (h1 : denEs strF cf sc b es ρ H = .ok vs H1) (h2 : prim strF sc p vs H1 = .ok (.bool t) H2) : denT strF cf sc b (.prim p es) ρ H = .ok t H2 := by
  rw [dT_prim, h1]; show (prim strF sc p vs H1).get _ = _
  rw [h2]; rfl
theorem i_ofR {q : Nat} (h1 : denE strF cf sc b x ρ H = .ok (.ref q) H1) (h2 : H1[q]? = some (.list vs)) : denI strF cf sc b (.of x) ρ H = .ok (vs, [(q, vs)]) H1 := by
  rw [dI_of, h1]; simp only [Res.get, h2]
theorem i_range1 {k : Int} (h1 : denE strF cf sc b x ρ H = .ok (.int k) H1) (h2 : inR k = true) : denI strF cf sc b (.range1 x) ρ H = .ok (rangeL 0 k, []) H1 := by
  rw [dI_range1, h1]; simp only [Res.get, h2, if_true]
variable {N : AEnv → AHeap → Prop} {R : AV → AHeap → Prop} {ss tt ee : PSs}
theorem s_nil (h : N ρ H) : (denSs strF cf sc b .nil ρ H).sat N R := h
theorem s_assign {i : Nat} (h : denE strF cf sc b x ρ H = .ok v H1) (k : (denSs strF cf sc b ss (ρ.set i (some v)) H1).sat N R) : (denSs strF cf sc b (.cons (.assign i x) ss) ρ H).sat N R := by
  rw [sat_cons, sat_assign, h]; exact k
theorem s_assigns {is : List Nat} {ρ' : AEnv} (h : denE strF cf sc b x ρ H = .ok (.tup vs) H1) (h2 : setVars is vs ρ = some ρ') (k : (denSs strF cf sc b ss ρ' H1).sat N R) : (denSs strF cf sc b (.cons (.assigns is x) ss) ρ H).sat N R := by
  rw [sat_cons, sat_assigns, h]; exact ⟨vs, ρ', rfl, h2, k⟩
theorem s_iteT (h : denT strF cf sc b x ρ H = .ok true H1) (k : (denSs strF cf sc b tt ρ H1).sat (fun ρ H => (denSs strF cf sc b ss ρ H).sat N R) R) : (denSs strF cf sc b (.cons (.ite x tt ee) ss) ρ H).sat N R := by
  rw [sat_cons, sat_ite, h]; exact k
theorem s_iteF (h : denT strF cf sc b x ρ H = .ok false H1) (k : (denSs strF cf sc b ee ρ H1).sat (fun ρ H => (denSs strF cf sc b ss ρ H).sat N R) R) : (denSs strF cf sc b (.cons (.ite x tt ee) ss) ρ H).sat N R := by
  rw [sat_cons, sat_ite, h]; exact k
/-- an if without else that is not taken -/
theorem s_skip (h : denT strF cf sc b x ρ H = .ok false H1) (k : (denSs strF cf sc b ss ρ H1).sat N R) : (denSs strF cf sc b (.cons (.ite x tt .nil) ss) ρ H).sat N R := s_iteF h k
theorem s_ret (h : denE strF cf sc b x ρ H = .ok v H1) (k : R v H1) : (denSs strF cf sc b (.cons (.ret x) ss) ρ H).sat N R := by
  rw [sat_cons, sat_ret, h]; exact k
theorem s_expr (h : denE strF cf sc b x ρ H = .ok v H1) (k : (denSs strF cf sc b ss ρ H1).sat N R) : (denSs strF cf sc b (.cons (.expr x) ss) ρ H).sat N R := by
  rw [sat_cons, sat_expr, h]; exact k
theorem s_for1 {i : Nat} {it : It} {p : List AV × List (Nat × List AV)} (h : denI strF cf sc b it ρ H = .ok p H1) (k : (forL p.2 (fun v ρ H => denSs strF cf sc b tt (ρ.set i (some v)) H) p.1 ρ H1).sat (fun ρ H => (denSs strF cf sc b ss ρ H).sat N R) R) :
    (denSs strF cf sc b (.cons (.for1 i it tt) ss) ρ H).sat N R := by
  rw [sat_cons, sat_for1, h]; exact k
theorem s_for2 {i j : Nat} {it : It} {p : List AV × List (Nat × List AV)} (h : denI strF cf sc b it ρ H = .ok p H1) (k : (forL p.2 (fun v ρ H => pairS (fun x y => denSs strF cf sc b tt ((ρ.set i (some x)).set j (some y)) H) v) p.1 ρ H1).sat (fun ρ H => (denSs strF cf sc b ss ρ H).sat N R) R) :
    (denSs strF cf sc b (.cons (.for2 i j it tt) ss) ρ H).sat N R := by
  rw [sat_cons, sat_for2, h]; exact k
/-- a call, by its body -/
theorem s_call {P : Nat → Option FnI} {n k np nv : Nat} {body : PSs} {args : List AV} {K : AV → AHeap → Prop} (hk : P k = some ⟨np, nv, body⟩) (hl : args.length = np) (h : (denSs strF (callF strF P sc n) sc H.length body (args.map some ++ List.replicate (nv - np) none) H).sat (fun _ H => K .none H) K) :
    (callF strF P sc (n + 1) k args H).sat K := by
  rw [sat_call hk hl]; exact h
theorem sat_eq {α : Type} {r : Res α} {a : α} {H : AHeap} (h : r.sat fun v H' => v = a ∧ H' = H) : r = .ok a H := by
  obtain ⟨_, _, e, h1, h2⟩ := Res.sat_ex h
  rw [e, h1, h2]
end
end Mine

namespace Mine

/-! all hangings, in the order of lists -/
noncomputable def up (S : List Nat) : List Nat := S.map (· + 1)
noncomputable def up0 (S : List Nat) : List Nat := 0 :: up S
noncomputable def ctr (e : Nat × Nat) (E : List (Nat × Nat)) : List (Nat × Nat) := E.map (joinE (min e.1 e.2) (max e.1 e.2))
noncomputable def hang : Nat → Nat → List (Nat × Nat) → List (List Nat)
  | 0, n, _ => if n = 0 then [[]] else []
  | k + 1, n, E => if n = 0 then [[]] else match E with
    | [] => []
    | e :: E' => (if e.1 = e.2 then [] else (hang k (n - 1) (ctr e E')).map up0) ++ (hang k n E').map up
/-! connected, when a tie is drawn together -/
/-! the rising lists of k numbers below m -/
noncomputable def combos : Nat → Nat → List (List Nat)
  | 0, k => if k = 0 then [[]] else []
  | m + 1, k => if k = 0 then [[]] else (combos m (k - 1)).map up0 ++ (combos m k).map up
/-- rising, below m -/
structure Ris (m k : Nat) (S : List Nat) : Prop where
  len : S.length = k
  lt : ∀ i ∈ S, i < m
  pw : S.Pairwise (· < ·)
noncomputable def pick (E : List (Nat × Nat)) (S : List Nat) : List (Nat × Nat) := S.map fun i => E.getD i (0, 0)
/-! how many have a tie -/
end Mine

namespace Mine
open PySem

section
variable {i j : Int} {H : AHeap}
theorem eqT (h : i = j) : cmpop .Eq (.int i) (.int j) H = some true := by rw [c_eq, beq_iff_eq.mpr h]
theorem eqF (h : i ≠ j) : cmpop .Eq (.int i) (.int j) H = some false := by rw [c_eq, beq_eq_false_iff_ne.mpr h]
theorem neF (h : i = j) : cmpop .NotEq (.int i) (.int j) H = some false := by rw [c_ne, beq_iff_eq.mpr h]; rfl
theorem gtT (h : j < i) : cmpop .Gt (.int i) (.int j) H = some true := by rw [c_gt, decide_eq_true h]
theorem gtF (h : ¬ j < i) : cmpop .Gt (.int i) (.int j) H = some false := by rw [c_gt, decide_eq_false h]
end

theorem lim1000 {n : Nat} (h : n ≤ 1000) : n ≤ lim := Nat.le_trans h (by decide)
theorem allocK {xs : List AV} {H : AHeap} (h : xs.length ≤ 1000) : alloc xs H = .ok (.ref H.length) (H ++ [.list xs]) := if_pos (lim1000 h)
inductive TieR (H : AHeap) (E : List (Nat × Nat)) (v : AV) (H' : AHeap) : Prop
  | mk (r : Nat) (hv : v = .ref r) (hT : TL H' r E) (hp : H <+: H') (hge : H.length ≤ r) : TieR H E v H'
inductive DrawR (H : AHeap) (n : Nat) (E : List (Nat × Nat)) (v : AV) (H' : AHeap) : Prop
  | mk (r : Nat) (hv : v = .tup [.int n, .ref r]) (hT : TL H' r E) (hp : H <+: H') (hge : H.length ≤ r) : DrawR H n E v H'

noncomputable def fn_14 : FnI := ⟨2, 2, .cons (.ret (.bin .Add (.slice (.var 0) .none (.some (.var 1))) (.slice (.var 0) (.some (.bin .Add (.var 1) (.int 1))) .none))) .nil⟩
noncomputable def fn_16 : FnI := ⟨3, 3, .cons (.ite (.cmp .Eq (.var 0) (.var 2)) (.cons (.ret (.var 1)) .nil) .nil) (.cons (.ite (.cmp .Gt (.var 0) (.var 2)) (.cons (.ret (.bin .Sub (.var 0) (.int 1))) .nil) .nil) (.cons (.ret (.var 0)) .nil))⟩
noncomputable def fn_17 : FnI := ⟨3, 6, .cons (.assign 3 (.prim .min1 (.cons (.idx (.var 1) (.var 2)) .nil))) (.cons (.assign 4 (.prim .max1 (.cons (.idx (.var 1) (.var 2)) .nil))) (.cons (.assign 5 (.call 14 (.cons (.var 1) (.cons (.var 2) .nil)))) (.cons (.ret (.tuple (.cons (.bin .Sub (.var 0) (.int 1)) (.cons (.comp2 (.tuple (.cons (.call 16 (.cons (.var 0) (.cons (.var 5) (.cons (.var 6) .nil)))) (.cons (.call 16 (.cons (.var 1) (.cons (.var 5) (.cons (.var 6) .nil)))) .nil))) (.of (.var 5))) .nil)))) .nil)))⟩

section
variable {strF : PyData → Option Str} {sc : List Int} {P : Nat → Option FnI} {H H0 : AHeap} {n m : Nat} {ρ : AEnv} {cf : Nat → List AV → AHeap → Res AV} {N : AEnv → AHeap → Prop} {R : AV → AHeap → Prop}

theorem sliceHi {r i : Nat} {E : List (Nat × Nat)} (hl : E.length ≤ 1000) (hi : i ≤ E.length) : alloc (cut (E.map tieV) none (some (i : Int))) H = .ok (.ref H.length) (H ++ [.list ((E.take i).map tieV)]) := by
  rw [cut_hi (by rw [List.length_map]; exact hi), List.map_take, allocK]
  rw [List.length_take, List.length_map]; (first | lia | omega)
theorem sliceLo {r i : Nat} {E : List (Nat × Nat)} (hl : E.length ≤ 1000) (hi : i ≤ E.length) : alloc (cut (E.map tieV) (some (i : Int)) none) H = .ok (.ref H.length) (H ++ [.list ((E.drop i).map tieV)]) := by
  rw [cut_lo (by rw [List.length_map]; exact hi), List.map_drop, allocK]
  rw [List.length_drop, List.length_map]; (first | lia | omega)
theorem addT {r q : Nat} {E F : List (Nat × Nat)} (hr : TL H r E) (hq : TL H q F) (hl : E.length + F.length ≤ 1000) : binop .Add (.ref r) (.ref q) H = .ok (.ref H.length) (H ++ [.list ((E ++ F).map tieV)]) := by
  rw [b_addL, hr, hq, List.map_append]
  exact allocK (by rw [List.length_append, List.length_map, List.length_map]; exact hl)

theorem item_tie {r i : Nat} {E : List (Nat × Nat)} {e : Nat × Nat} (hT : TL H r E) (he : E[i]? = some e) : itemOf sc (.ref r) (.int i) H = .ok (tieV e) H := item_ref hT (by rw [List.getElem?_map, he]; rfl)

end
end Mine

namespace Mine
open PySem

/-! the law's nets, anew -/
section
variable {strF : PyData → Option Str} {sc : List Int} {P : Nat → Option FnI} {H H0 H1 H2 H3 : AHeap} {n m b : Nat} {ρ : AEnv} {cf : Nat → List AV → AHeap → Res AV} {N : AEnv → AHeap → Prop} {R : AV → AHeap → Prop} {x y : PE} {ss : PSs}

theorem modB {c : Int} {n k : Nat} (e : c.fmod n = k) (h : 0 < n) : binop .Mod (.int c) (.int (n : Int)) H = .ok (.int k) H := by
  rw [b_mod, if_pos (by (first | lia | omega)), e]
theorem divB {c d : Int} (h0 : d ≠ 0) (h : d.natAbs < 1000000) : binop .FloorDiv (.int c) (.int d) H = .ok (.int (c.fdiv d)) H := by
  rw [b_div, if_pos ⟨h0, big_lit h⟩]
/-- a for over 0 .. -/
theorem forN {step : AV → AEnv → AHeap → SR} (I : Nat → AEnv → AHeap → Prop) {k : Nat} (h0 : I 0 ρ H) (hs : ∀ i ρ H, i < k → I i ρ H → (step (.int i) ρ H).sat (I (i + 1)) R) (hN : ∀ ρ H, I k ρ H → N ρ H) : (forL [] step (rangeL 0 k) ρ H).sat N R := by
  refine forL_range (fun i ρ H => I i.toNat ρ H) (by (first | lia | omega)) h0 (fun i ρ H h1 h2 h => ?_) fun ρ H h => hN ρ H (by simpa using h)
  obtain ⟨j, rfl⟩ : ∃ j : Nat, i = j := ⟨i.toNat, by (first | lia | omega)⟩
  have := hs j ρ H (by (first | lia | omega)) (by simpa using h)
  refine SR.sat_mono this (fun ρ H h => ?_) fun _ _ h => h
  show I ((j : Int) + 1).toNat ρ H
  rw [show ((j : Int) + 1).toNat = j + 1 by (first | lia | omega)]; exact h
theorem inR_N {k : Nat} (h : k ≤ 1000) : inR (k : Int) = true := inR_nat h
theorem mixed {k : Nat} (h5 : P 5 = some fn_5) (h6 : P 6 = some fn_6) (hk : k < 1000) : callF strF P sc (m + 2) 6 [.scr, .int k] H = .ok (.int (mix sc k)) H := mix_spec h5 h6 hk

inductive TrI (H0 : AHeap) (n k : Nat) (ρ : AEnv) (H : AHeap) : Prop
  | mk (E : List (Nat × Nat)) (x3 x4 x5 : Option AV) (hρ : ρ = [some .scr, some (.int n), some (.ref H0.length), x3, x4, x5]) (hp : H0 <+: H) (hT : TL H H0.length E) (hl : E.length = k) (hok : okT n E) : TrI H0 n k ρ H
theorem okT_snoc {E : List (Nat × Nat)} {e : Nat × Nat} (h : okT n E) (h1 : e.1 < n) (h2 : e.2 < n) : okT n (E ++ [e]) := fun f hf => by
  rcases List.mem_append.mp hf with hf | hf
  · exact h f hf
  · cases List.mem_singleton.mp hf; exact ⟨h1, h2⟩
inductive TreeR (H : AHeap) (n : Nat) (v : AV) (H' : AHeap) : Prop
  | mk (r : Nat) (E : List (Nat × Nat)) (hv : v = .ref r) (hT : TL H' r E) (hp : H <+: H') (hge : H.length ≤ r) (hl : E.length = n) (hok : okT (n + 1) E) : TreeR H n v H'
/-- what _law_tree answers -/
theorem tree_new (h5 : P 5 = some fn_5) (h6 : P 6 = some fn_6) (h7 : P 7 = some fn_7) (hn : n ≤ 7) : (callF strF P sc (m + 3) 7 [.scr, .int (n + 1 : Nat)] H).sat (TreeR H n) := by
  have e1 : binop .Sub (.int (n + 1 : Nat)) (.int 1) (H ++ [.list []]) = .ok (.int n) (H ++ [.list []]) := by rw [b_sub, show ((n + 1 : Nat) : Int) - 1 = (n : Int) by (first | lia | omega)]
  refine s_call h7 rfl (s_assign (v_list vs_nil (allocK (by simp))) (s_for1 (i_range1 (v_bin (v_var rfl) v_int e1) (inR_N (by (first | lia | omega)))) (forN (TrI H (n + 1)) ⟨[], _, _, _, rfl, pre_app _ _, last_get _ _, rfl, fun e he => by cases he⟩ ?_ ?_)))
  · rintro k ρ H1 hk ⟨E, x3, x4, x5, rfl, hp, hT, hl, hok⟩
    have e4 : binop .Add (.int 4) (.int k) H1 = .ok (.int (4 + k : Nat)) H1 := b_add
    have ek : binop .Add (.int k) (.int 1) H1 = .ok (.int (k + 1 : Nat)) H1 := b_add
    obtain ⟨a, ea, ha⟩ := fmod_nat (c := mix sc (4 + k)) (n := k + 1) (by (first | lia | omega))
    obtain ⟨c, ec, hc⟩ := fmod_nat (c := (mix sc (4 + k)).fdiv 7) (n := 2) (by decide)
    have hpa := pre_app H1 [.list [AV.tup [.int a, .int (k + 1 : Nat)], AV.tup [.int (k + 1 : Nat), .int a]]]
    obtain ⟨e, he, ho1, ho2⟩ : ∃ e : Nat × Nat, itemOf sc (.ref H1.length) (.int c) (H1 ++ [.list [AV.tup [.int a, .int (k + 1 : Nat)], AV.tup [.int (k + 1 : Nat), .int a]]]) = .ok (tieV e) (H1 ++ [.list [AV.tup [.int a, .int (k + 1 : Nat)], AV.tup [.int (k + 1 : Nat), .int a]]]) ∧ e.1 < n + 1 ∧ e.2 < n + 1 := by
      rcases (show c = 0 ∨ c = 1 by (first | lia | omega)) with rfl | rfl
      · exact ⟨(a, k + 1), item_ref (last_get _ _) rfl, by show a < n + 1; (first | lia | omega), by show k + 1 < n + 1; (first | lia | omega)⟩
      · exact ⟨(k + 1, a), item_ref (last_get _ _) rfl, by show k + 1 < n + 1; (first | lia | omega), by show a < n + 1; (first | lia | omega)⟩
    have hT2 := get_pre hpa hT
    exact s_assign (v_call (vs_cons (v_var rfl) (vs_cons (v_bin v_int (v_var rfl) e4) vs_nil)) (mixed h5 h6 (by (first | lia | omega))))
      (s_assign (v_tuple (vs_cons (v_bin (v_var rfl) (v_bin (v_var rfl) v_int ek) (modB ea (by (first | lia | omega)))) (vs_cons (v_bin (v_var rfl) v_int ek) vs_nil)) tup2)
      (s_expr (v_append (v_var rfl) (isL_of hT) (v_idx (v_list (vs_cons (v_var rfl) (vs_cons (v_tuple (vs_cons (v_idx (v_var rfl) v_int item_tup1) (vs_cons (v_idx (v_var rfl) v_int item_tup0) vs_nil)) tup2) vs_nil)) (allocK (by simp))) (v_bin (v_bin (v_var rfl) v_int (divB (by decide) (by decide))) v_int (modB (n := 2) ec (by decide))) he)
        (append_tie hT2 (Nat.le_refl _) (Nat.lt_of_lt_of_le (show E.length < 100 by (first | lia | omega)) (by decide))))
      (s_nil ⟨E ++ [e], _, _, _, rfl, prefix_set (hp.trans hpa) (Nat.le_refl _), set_top ⟨_, hT2⟩, by rw [List.length_append, hl]; rfl, okT_snoc hok ho1 ho2⟩)))
  · rintro ρ H1 ⟨E, x3, x4, x5, rfl, hp, hT, hl, hok⟩
    exact s_ret (v_var rfl) ⟨_, E, rfl, hT, hp, Nat.le_refl _, hl, hok⟩

theorem sliceHi' {i : Nat} {E : List (Nat × Nat)} (hl : E.length ≤ 100) (hi : i ≤ E.length) : alloc (cut (E.map tieV) none (some (i : Int))) H = .ok (.ref H.length) (H ++ [.list ((E.take i).map tieV)]) := sliceHi (r := 0) (by (first | lia | omega)) hi
theorem sliceLo' {i : Nat} {E : List (Nat × Nat)} (hl : E.length ≤ 100) (hi : i ≤ E.length) : alloc (cut (E.map tieV) (some (i : Int)) none) H = .ok (.ref H.length) (H ++ [.list ((E.drop i).map tieV)]) := sliceLo (r := 0) (by (first | lia | omega)) hi
theorem modAdd {a d : Nat} (h : 0 < n) : binop .Mod (.int ((a : Int) + (d : Int))) (.int n) H = .ok (.int ((a + d) % n : Nat)) H := modB (by rw [Int.fmod_eq_emod_of_nonneg _ (by (first | lia | omega))]; simp) h

/-- the end of _law_net: places turned, ties told from another one on -/
theorem netTail_new {r most room : Nat} {first : Int} {E : List (Nat × Nat)} {x6 x7 x8 x9 x10 x11 : Option AV} (h5 : P 5 = some fn_5) (h6 : P 6 = some fn_6) (h1 : 1 ≤ n) (hn : n ≤ most) (p : H0 <+: H) (hT : TL H r E) (hl : E.length ≤ room) (hr : room ≤ 16) (hok : okT n E) :
    (denSs strF (callF strF P sc (m + 2)) sc H0.length netTail [some .scr, some (.int most), some (.int room), some (.int first), some (.int n), some (.ref r), x6, x7, x8, x9, x10, x11] H).sat N (NetR H0 most room) := by
  obtain ⟨d, ed, hd⟩ := fmod_nat (c := first.fdiv 35) (n := n) (by (first | lia | omega))
  obtain ⟨a, ea, ha⟩ := fmod_nat (c := mix sc 2) (n := E.length + 1) (by (first | lia | omega))
  have hE1 : (E.map fun e => ((e.1 + d) % n, (e.2 + d) % n)).length = E.length := List.length_map ..
  have hok1 : okT n (E.map fun e => ((e.1 + d) % n, (e.2 + d) % n)) := fun e he => by
    obtain ⟨x, _, rfl⟩ := List.mem_map.mp he
    exact ⟨Nat.mod_lt _ h1, Nat.mod_lt _ h1⟩
  refine s_assign (v_bin (v_bin (v_var rfl) v_int (divB (by decide) (by decide))) (v_var rfl) (modB ed h1)) (s_assign (v_comp2 (i_ofR (v_var rfl) hT) (compL_ties hT (fun e => ((e.1 + d) % n, (e.2 + d) % n)) E fun e he => ?_) (allocK (by rw [List.length_map, hE1]; (first | lia | omega)))) ?_)
  · exact k_pair (v_tuple (vs_cons (v_bin (v_bin (v_var rfl) (v_var rfl) b_add) (v_var rfl) (modAdd h1)) (vs_cons (v_bin (v_bin (v_var rfl) (v_var rfl) b_add) (v_var rfl) (modAdd h1)) vs_nil)) tup2)
  generalize (E.map fun e => ((e.1 + d) % n, (e.2 + d) % n)) = E1 at hE1 hok1
  have p1 := pre_app H [.list (E1.map tieV)]
  have hT1 : TL (H ++ [.list (E1.map tieV)]) H.length E1 := last_get _ _
  generalize H ++ [.list (E1.map tieV)] = H1 at p1 hT1
  have el : binop .Add (.int E1.length) (.int 1) H1 = .ok (.int (E.length + 1 : Nat)) H1 := by rw [b_add, hE1]; rfl
  have p2 := pre_app H1 [.list ((E1.drop a).map tieV)]
  have p3 := pre_app (H1 ++ [.list ((E1.drop a).map tieV)]) [.list ((E1.take a).map tieV)]
  have hlx : (E1.drop a).length + (E1.take a).length = E.length := by rw [List.length_drop, List.length_take]; (first | lia | omega)
  refine s_assign (v_bin (v_call (vs_cons (v_var rfl) (vs_cons v_int vs_nil)) (mixed (k := 2) h5 h6 (by decide))) (v_bin (v_prim (vs_cons (v_var rfl) vs_nil) (by rw [p_lenR, i_ref, hT1]; exact congrArg (fun k : Nat => Res.ok (AV.int k) H1) (List.length_map ..))) v_int el) (modB ea (by (first | lia | omega))))
    (s_ret (v_tuple (vs_cons (v_var rfl) (vs_cons (v_bin (v_slice (v_var rfl) (o_some (v_var rfl)) o_none hT1 (sliceLo' (by (first | lia | omega)) (by (first | lia | omega)))) (v_slice (v_var rfl) o_none (o_some (v_var rfl)) (get_pre p2 hT1) (sliceHi' (by (first | lia | omega)) (by (first | lia | omega)))) (addT (get_pre p3 (last_get _ _)) (last_get _ _) (by (first | lia | omega)))) vs_nil)) tup2)
    ⟨n, _, E1.drop a ++ E1.take a, rfl, last_get _ _, ((p.trans p1).trans (p2.trans p3)).trans (pre_app _ _), ((p.trans p1).trans (p2.trans p3)).length_le, by rw [List.length_append]; (first | lia | omega), fun e he => ?_, h1, hn⟩)
  rcases List.mem_append.mp he with he | he
  · exact hok1 e (List.mem_of_mem_drop he)
  · exact hok1 e (List.mem_of_mem_take he)

inductive NlI (H0 : AHeap) (most room : Nat) (first : Int) (n r l : Nat) (k : Nat) (ρ : AEnv) (H : AHeap) : Prop
  | mk (E : List (Nat × Nat)) (x6 x7 x8 x9 x10 x11 : Option AV) (hρ : ρ = [some .scr, some (.int most), some (.int room), some (.int first), some (.int n), some (.ref r), x6, x7, x8, x9, x10, x11]) (hp : H0 <+: H) (hT : TL H r E) (hl : E.length = l + k) (hok : okT n E) : NlI H0 most room first n r l k ρ H
/-- a tie is put to the others -/
theorem netPut {r most room k l : Nat} {first : Int} {E : List (Nat × Nat)} {e : Nat × Nat} {x6 x7 x8 x10 x11 : Option AV} (hge : H0.length ≤ r) (p : H0 <+: H) (hT : TL H r E) (hl : E.length = l + k) (hlk : l + k < 100) (hok : okT n E) (h1 : e.1 < n) (h2 : e.2 < n) :
    (denSs strF cf sc H0.length (.cons (.expr (.append (.var 5) (.var 9))) .nil) [some .scr, some (.int most), some (.int room), some (.int first), some (.int n), some (.ref r), x6, x7, x8, some (tieV e), x10, x11] H).sat (NlI H0 most room first n r l (k + 1)) R :=
  s_expr (v_append (v_var rfl) (isL_of hT) (v_var rfl) (append_tie hT hge (Nat.lt_of_lt_of_le (show E.length < 100 by (first | lia | omega)) (by decide)))) (s_nil ⟨E ++ [e], _, _, _, _, _, _, rfl, prefix_set p hge, set_top ⟨_, hT⟩, by rw [List.length_append, hl]; rfl, okT_snoc hok h1 h2⟩)

theorem netLoop_new {r most room : Nat} {first : Int} {E : List (Nat × Nat)} {x6 x7 x8 x9 x10 x11 : Option AV} (h5 : P 5 = some fn_5) (h6 : P 6 = some fn_6) (h1 : 1 ≤ n) (hn : n ≤ most) (hroom : room ≤ 16) (hge : H0.length ≤ r) (p : H0 <+: H) (hT : TL H r E) (hl : E.length ≤ room) (hok : okT n E) :
    (denSs strF (callF strF P sc (m + 2)) sc H0.length netLoop [some .scr, some (.int most), some (.int room), some (.int first), some (.int n), some (.ref r), x6, x7, x8, x9, x10, x11] H).sat N (NetR H0 most room) := by
  obtain ⟨k, ek, hk⟩ := fmod_nat (c := mix sc 1) (n := room - E.length + 1) (by (first | lia | omega))
  have lenT : ∀ {H : AHeap} {r : Nat} {E : List (Nat × Nat)}, TL H r E → prim strF sc .len [.ref r] H = .ok (.int E.length) H := fun {H r E} h => by rw [p_lenR, i_ref, h]; exact congrArg (fun k : Nat => Res.ok (AV.int k) H) (List.length_map ..)
  have e1 : binop .Sub (.int room) (.int E.length) H = .ok (.int (room - E.length : Nat)) H := by rw [b_sub, show (room : Int) - (E.length : Int) = ((room - E.length : Nat) : Int) by (first | lia | omega)]
  have e2 : binop .Add (.int (room - E.length : Nat)) (.int 1) H = .ok (.int (room - E.length + 1 : Nat)) H := b_add
  refine s_for1 (i_range1 (v_bin (v_call (vs_cons (v_var rfl) (vs_cons v_int vs_nil)) (mixed (k := 1) h5 h6 (by decide))) (v_bin (v_bin (v_var rfl) (v_prim (vs_cons (v_var rfl) vs_nil) (lenT hT)) e1) v_int e2) (modB ek (by (first | lia | omega)))) (inR_N (by (first | lia | omega))))
    (forN (NlI H0 most room first n r E.length) ⟨E, _, _, _, _, _, _, rfl, p, hT, rfl, hok⟩ ?_ ?_)
  · rintro i ρ H1 hi ⟨E1, x6, x7, x8, x9, x10, x11, rfl, p1, hT1, hl1, hok1⟩
    have e11 : binop .Add (.int 11) (.int i) H1 = .ok (.int (11 + i : Nat)) H1 := b_add
    obtain ⟨one, eone, hone⟩ := fmod_nat (c := mix sc (11 + i)) (n := n) (by (first | lia | omega))
    obtain ⟨d, ed, hd⟩ := fmod_nat (c := (mix sc (11 + i)).fdiv 7) (n := n) (by (first | lia | omega))
    refine s_assign (v_call (vs_cons (v_var rfl) (vs_cons (v_bin v_int (v_var rfl) e11) vs_nil)) (mixed h5 h6 (by (first | lia | omega)))) (s_assign (v_bin (v_var rfl) (v_var rfl) (modB eone h1))
      (s_assign (v_tuple (vs_cons (v_var rfl) (vs_cons (v_bin (v_bin (v_var rfl) (v_bin (v_bin (v_var rfl) v_int (divB (by decide) (by decide))) (v_var rfl) (modB ed h1)) b_add) (v_var rfl) (modAdd h1)) vs_nil)) tup2) ?_))
    have hlt : (one + d) % n < n := Nat.mod_lt _ h1
    obtain ⟨c, ec, hc⟩ := fmod_nat (c := (mix sc (11 + i)).fdiv 49) (n := 6) (by decide)
    have ec' : binop .Mod (.int ((mix sc (11 + i)).fdiv 49)) (.int 6) H1 = .ok (.int c) H1 := modB (n := 6) ec (by decide)
    by_cases h5' : c = 5
    · have hc5 : cmpop .Eq (.int c) (.int 5) H1 = some true := eqT (by rw [h5']; rfl)
      have p2 := pre_app H1 [.list []]
      have hT2 : TL (H1 ++ [.list []]) r E1 := get_pre p2 hT1
      have hne := c_neR (r := r) (v := .ref H1.length) (H := H1 ++ [.list []])
      rw [eqOf_nil hT1] at hne
      by_cases hE : E1 = []
      · rw [decide_eq_true hE] at hne
        exact s_skip (t_and (at_true (t_cmp (v_bin (v_bin (v_var rfl) v_int (divB (by decide) (by decide))) v_int ec') v_int hc5) (at_false (t_cmp (v_var rfl) (v_list vs_nil (allocK (by simp))) hne)))) (netPut (e := (one, (one + d) % n)) hge (p1.trans p2) hT2 hl1 (by (first | lia | omega)) hok1 hone hlt)
      · rw [decide_eq_false hE] at hne
        have hpos : 0 < E1.length := List.length_pos_iff.mpr hE
        obtain ⟨j, ej, hj⟩ := fmod_nat (c := (mix sc (11 + i)).fdiv 300) hpos
        have he := List.getElem?_eq_getElem hj
        have ho := hok1 _ (List.getElem_mem hj)
        exact s_iteT (t_and (at_true (t_cmp (v_bin (v_bin (v_var rfl) v_int (divB (by decide) (by decide))) v_int ec') v_int hc5) (at_true (t_cmp (v_var rfl) (v_list vs_nil (allocK (by simp))) hne) at_nil)))
          (s_assign (v_idx (v_var rfl) (v_bin (v_bin (v_var rfl) v_int (divB (by decide) (by decide))) (v_prim (vs_cons (v_var rfl) vs_nil) (lenT hT2)) (modB ej hpos)) (item_tie hT2 he)) (s_nil (netPut hge (p1.trans p2) hT2 hl1 (by (first | lia | omega)) hok1 ho.1 ho.2)))
    · exact s_skip (t_and (at_false (t_cmp (v_bin (v_bin (v_var rfl) v_int (divB (by decide) (by decide))) v_int ec') v_int (eqF (by (first | lia | omega)))))) (netPut (e := (one, (one + d) % n)) hge p1 hT1 hl1 (by (first | lia | omega)) hok1 hone hlt)
  · rintro ρ H1 ⟨E1, x6, x7, x8, x9, x10, x11, rfl, p1, hT1, hl1, hok1⟩
    exact netTail_new h5 h6 h1 hn p1 hT1 (by (first | lia | omega)) hroom hok1

/-- what _law_net answers -/
theorem net_new {most room : Nat} (h5 : P 5 = some fn_5) (h6 : P 6 = some fn_6) (h7 : P 7 = some fn_7) (h8 : P 8 = some fn_8) (hm : 1 ≤ most) (hm7 : most ≤ 7) (hr : most ≤ room + 1) (hr16 : room ≤ 16) :
    (callF strF P sc (m + 4) 8 [.scr, .int most, .int room] H).sat (NetR H most room) := by
  obtain ⟨n, en, hn⟩ := fmod_nat (c := mix sc 0) hm
  have e1 : binop .Add (.int 1) (.int n) H = .ok (.int (n + 1 : Nat)) H := by rw [b_add, show (1 : Int) + (n : Int) = ((n + 1 : Nat) : Int) by (first | lia | omega)]
  refine s_call (body := fn_8.body) h8 rfl (s_assign (v_call (vs_cons (v_var rfl) (vs_cons v_int vs_nil)) (mixed (k := 0) h5 h6 (by decide))) (s_assign (v_bin v_int (v_bin (v_var rfl) (v_var rfl) (modB en hm)) e1) (s_assign (v_list vs_nil (allocK (by simp))) ?_)))
  have hT0 : TL (H ++ [.list []]) H.length [] := last_get _ _
  have p0 := pre_app H [.list []]
  have ec : binop .Mod (.int ((mix sc 0).fdiv 7)) (.int 5) (H ++ [.list []]) = .ok (.int (((mix sc 0).fdiv 7).fmod 5)) (H ++ [.list []]) := by rw [b_mod, if_pos (by decide)]
  by_cases h : 0 < ((mix sc 0).fdiv 7).fmod 5
  · obtain ⟨v, H2, e2, r, E, rfl, hT, hp, hg, hl, hok⟩ := Res.sat_ex (tree_new (strF := strF) (sc := sc) (m := m) (H := H ++ [.list []]) h5 h6 h7 (show n ≤ 7 by (first | lia | omega)))
    exact s_iteT (t_cmp (v_bin (v_bin (v_var rfl) v_int (divB (by decide) (by decide))) v_int ec) v_int (gtT h)) (s_assign (v_call (vs_cons (v_var rfl) (vs_cons (v_var rfl) vs_nil)) e2) (s_nil (netLoop_new (m := m + 1) h5 h6 (by (first | lia | omega)) hn hr16 (Nat.le_trans p0.length_le hg) (p0.trans hp) hT (by (first | lia | omega)) hok)))
  · exact s_skip (t_cmp (v_bin (v_bin (v_var rfl) v_int (divB (by decide) (by decide))) v_int ec) v_int (gtF h)) (netLoop_new (m := m + 1) (E := []) h5 h6 (by (first | lia | omega)) hn hr16 (Nat.le_refl _) p0 hT0 (Nat.zero_le _) fun e he => by cases he)
end
end Mine

namespace Mine
open PySem

/-! worth_of, anew -/
section
variable {M A : Mat} {k i p a c n : Nat}
end

section
variable {strF : PyData → Option Str} {sc : List Int} {P : Nat → Option FnI} {H H0 H1 H2 H3 H4 : AHeap} {n m b k t : Nat} {ρ : AEnv} {cf : Nat → List AV → AHeap → Res AV} {N : AEnv → AHeap → Prop} {R : AV → AHeap → Prop} {x y z : PE} {v w u : AV} {ss : PSs} {qs : List Nat} {A M M0 : Mat} {sg last : Int}

inductive FirstR (A : Mat) (k n : Nat) (v : AV) : Prop
  | none (hv : v = .none) (h : ∀ i, k ≤ i → i < n → A i k = 0) : FirstR A k n v
  | some (c : Nat) (hv : v = .int c) (h1 : k ≤ c) (h2 : c < n) (h3 : A c k ≠ 0) : FirstR A k n v
inductive FiI (H0 : AHeap) (A : Mat) (t k : Nat) (i : Nat) (ρ : AEnv) (H : AHeap) : Prop
  | mk (x2 : Option AV) (hρ : ρ = [some (.ref t), some (.int k), x2]) (hH : H = H0) (h : ∀ j, k ≤ j → j < i → A j k = 0) : FiI H0 A t k i ρ H
inductive PlI (H0 : AHeap) (t n k i : Nat) (qs : List Nat) (M A : Mat) (sg last : Int) (x4 x5 : Option AV) (p : Nat) (ρ : AEnv) (H : AHeap) : Prop
  | mk (x7 x8 : Option AV) (hρ : ρ = [some (.ref t), some (.int sg), some (.int last), some (.int k), x4, x5, some (.int i), x7, x8]) (T : TblW H0 H t qs n (mixM M A k i p)) : PlI H0 t n k i qs M A sg last x4 x5 p ρ H
inductive RoI (H0 : AHeap) (t n k : Nat) (qs : List Nat) (M A : Mat) (sg last : Int) (x4 x5 : Option AV) (i : Nat) (ρ : AEnv) (H : AHeap) : Prop
  | mk (x6 x7 x8 : Option AV) (hρ : ρ = [some (.ref t), some (.int sg), some (.int last), some (.int k), x4, x5, x6, x7, x8]) (T : TblW H0 H t qs n (mixM M A k i 0)) : RoI H0 t n k qs M A sg last x4 x5 i ρ H
inductive TnI (M0 : Mat) (H0 : AHeap) (t n k : Nat) (ρ : AEnv) (H : AHeap) : Prop
  | mk (sg last : Int) (M A : Mat) (qs : List Nat) (x3 x4 x5 x6 x7 x8 : Option AV) (hρ : ρ = [some (.ref t), some (.int sg), some (.int last), x3, x4, x5, x6, x7, x8]) (I : Winv M0 H0 t n k sg last M A qs H) : TnI M0 H0 t n k ρ H
inductive CpS (H : AHeap) (xs : List AV) (o : Option AV) (H' : AHeap) : Prop
  | mk (q : Nat) (ho : o = some (.ref q)) (hq : H'[q]? = some (.list xs)) (hp : H <+: H') (hge : H.length ≤ q) : CpS H xs o H'
/-- rows made one by one -/
inductive RowsR (H0 : AHeap) (n : Nat) (fs : List (Nat → Int)) (out : List AV) (H' : AHeap) : Prop
  | mk (qs : List Nat) (ho : out = qs.map .ref) (hl : qs.length = fs.length) (hf : ∀ {i q : Nat} {f : Nat → Int}, qs[i]? = some q → fs[i]? = some f → H'[q]? = some (.list (rowL n f))) (hp : H0 <+: H') (hq : ∀ q ∈ qs, H0.length ≤ q ∧ q < H'.length) (nd : qs.Nodup) : RowsR H0 n fs out H'
end
end Mine

namespace Mine
open PySem

/-! need_net, table_by, tally_of, anew -/
noncomputable def plainV : AV → Bool
  | .scr => false
  | .fn _ => false
  | .exc _ => false
  | _ => true
section
variable {strF : PyData → Option Str} {sc : List Int} {P : Nat → Option FnI} {H H0 H1 H2 H3 : AHeap} {n m b : Nat} {ρ : AEnv} {cf : Nat → List AV → AHeap → Res AV} {N : AEnv → AHeap → Prop} {R : AV → AHeap → Prop} {K K' : AV → AHeap → Prop} {x y : PE} {es : PEs} {ss : PSs} {v w : AV} {vs : List AV}

theorem isInt_ofK {t : Bool} (h : isIntK v = some t) : prim strF sc .isInt [v] H = .ok (.bool t) H := by rw [p_isInt, h]; rfl
theorem isBool_ofK {t : Bool} (h : isBoolK v = some t) : prim strF sc .isBool [v] H = .ok (.bool t) H := by rw [p_isBool, h]; rfl
theorem isList_ofK {t : Bool} (h : isListK v H = some t) : prim strF sc .isList [v] H = .ok (.bool t) H := by rw [p_isList, h]; rfl
theorem isTuple_ofK {t : Bool} (h : isTupleK v = some t) : prim strF sc .isTuple [v] H = .ok (.bool t) H := by rw [p_isTuple, h]; rfl
theorem isListT {q : Nat} {xs : List AV} (h : H[q]? = some (.list xs)) : isListK (.ref q) H = some true := by rw [k_list, h]
theorem leT {i j : Int} (h : i ≤ j) : cmpop .LtE (.int i) (.int j) H = some true := by rw [c_le, decide_eq_true h]
theorem leF {i j : Int} (h : ¬ i ≤ j) : cmpop .LtE (.int i) (.int j) H = some false := by rw [c_le, decide_eq_false h]
theorem len_list {r : Nat} {xs : List AV} (h : H[r]? = some (.list xs)) : prim strF sc .len [.ref r] H = .ok (.int xs.length) H := by rw [p_lenR, i_ref, h]
theorem len_ties {r : Nat} {E : List (Nat × Nat)} (h : TL H r E) : prim strF sc .len [.ref r] H = .ok (.int E.length) H := by rw [len_list h, List.length_map]
/-- what is_among answers of any thing -/
inductive AmR (lo hi : Int) (v : AV) (t : Bool) : Prop
  | yes (i : Int) (hv : v = .int i) (h1 : lo ≤ i) (h2 : i ≤ hi) (ht : t = true) : AmR lo hi v t
  | no (h : ∀ i, v = .int i → ¬ (lo ≤ i ∧ i ≤ hi)) (ht : t = false) : AmR lo hi v t
inductive AmE (strF : PyData → Option Str) (P : Nat → Option FnI) (sc : List Int) (m : Nat) (H : AHeap) (lo hi : Int) (v : AV) : Prop
  | mk (t : Bool) (e : callF strF P sc (m + 1) 0 [v, .int lo, .int hi] H = .ok (.bool t) H) (h : AmR lo hi v t) : AmE strF P sc m H lo hi v
theorem among_any (h0 : P 0 = some fn_0) {lo hi : Int} (hv : plainV v = true) : AmE strF P sc m H lo hi v := by
  by_cases hi' : ∃ i, v = .int i
  · obtain ⟨i, rfl⟩ := hi'
    by_cases h1 : lo ≤ i
    · by_cases h2 : i ≤ hi
      · exact ⟨true, sat_eq (s_call h0 rfl (s_ret (v_and (a_true (v_prim (vs_cons (v_var rfl) vs_nil) (isInt_ofK rfl)) (a_true (v_notT (v_prim (vs_cons (v_var rfl) vs_nil) (isBool_ofK rfl))) (a_one (v_cmp2 (v_var rfl) (v_var rfl) (leT h1) (v_var rfl) (leT h2)))))) ⟨rfl, rfl⟩)), .yes i rfl h1 h2 rfl⟩
      · exact ⟨false, sat_eq (s_call h0 rfl (s_ret (v_and (a_true (v_prim (vs_cons (v_var rfl) vs_nil) (isInt_ofK rfl)) (a_true (v_notT (v_prim (vs_cons (v_var rfl) vs_nil) (isBool_ofK rfl))) (a_one (v_cmp2 (v_var rfl) (v_var rfl) (leT h1) (v_var rfl) (leF h2)))))) ⟨rfl, rfl⟩)), .no (fun j e q => by cases e; exact h2 q.2) rfl⟩
    · exact ⟨false, sat_eq (s_call h0 rfl (s_ret (v_and (a_true (v_prim (vs_cons (v_var rfl) vs_nil) (isInt_ofK rfl)) (a_true (v_notT (v_prim (vs_cons (v_var rfl) vs_nil) (isBool_ofK rfl))) (a_one (v_cmp2f (v_var rfl) (v_var rfl) (leF h1)))))) ⟨rfl, rfl⟩)), .no (fun j e q => by cases e; exact h1 q.1) rfl⟩
  · have hno : ∀ i, v = .int i → ¬ (lo ≤ i ∧ i ≤ hi) := fun i e => absurd ⟨i, e⟩ hi'
    by_cases hb : ∃ c, v = .bool c
    · obtain ⟨c, rfl⟩ := hb
      exact ⟨false, sat_eq (s_call h0 rfl (s_ret (v_and (a_true (v_prim (vs_cons (v_var rfl) vs_nil) (isInt_ofK rfl)) (a_false (v_notF (v_prim (vs_cons (v_var rfl) vs_nil) (isBool_ofK rfl)))))) ⟨rfl, rfl⟩)), .no hno rfl⟩
    · have hk : isIntK v = some false := by
        cases v with
        | int i => exact absurd ⟨i, rfl⟩ hi'
        | bool c => exact absurd ⟨c, rfl⟩ hb
        | scr => cases hv
        | fn k => cases hv
        | exc c => cases hv
        | _ => rfl
      exact ⟨false, sat_eq (s_call h0 rfl (s_ret (v_and (a_false (v_prim (vs_cons (v_var rfl) vs_nil) (isInt_ofK hk)))) ⟨rfl, rfl⟩)), .no hno rfl⟩
theorem among_in (h0 : P 0 = some fn_0) {x lo hi : Int} (h1 : lo ≤ x) (h2 : x ≤ hi) : callF strF P sc (m + 1) 0 [.int x, .int lo, .int hi] H = .ok (.bool true) H := by
  obtain ⟨t, e, h⟩ := among_any (strF := strF) (sc := sc) (m := m) (H := H) (v := .int x) (lo := lo) (hi := hi) h0 rfl
  cases h with
  | yes i hv q1 q2 ht => rw [e, ht]
  | no h ht => exact absurd ⟨h1, h2⟩ (h x rfl)

inductive NeI (H0 : AHeap) (n r k : Nat) (ρ : AEnv) (H : AHeap) : Prop
  | mk (x2 : Option AV) (hρ : ρ = [some (.int n), some (.ref r), x2]) (hH : H = H0) : NeI H0 n r k ρ H
/-- need_net, where all is well -/
theorem need_new (h0 : P 0 = some fn_0) (h1' : P 1 = some fn_1) {r : Nat} {E : List (Nat × Nat)} (h1 : 1 ≤ n) (hn : n ≤ 7) (hT : TL H r E) (hl : E.length ≤ 16) (hok : okT n E) : callF strF P sc (m + 2) 1 [.int n, .ref r] H = .ok .none H := by
  refine sat_eq (s_call h1' rfl (s_skip (t_notF (t_call (vs_cons (v_var rfl) (vs_cons v_int (vs_cons v_gint vs_nil))) (among_in h0 (by (first | lia | omega)) (by (first | lia | omega))))) (s_skip (t_or (ot_false (t_notF (t_prim (vs_cons (v_var rfl) vs_nil) (isList_ofK (isListT hT)))) (ot_false (t_cmp (v_prim (vs_cons (v_var rfl) vs_nil) (len_ties hT)) v_gint (gtF (by (first | lia | omega)))) ot_nil)))
    (s_for1 (i_ofR (v_var rfl) hT) (forL_list (NeI H n r) ⟨_, rfl, rfl⟩ ?_ ?_)))))
  · rintro k v ρ H' hv ⟨x2, rfl, rfl⟩
    obtain ⟨e, he, rfl⟩ := ties_get hv
    obtain ⟨o1, o2⟩ := hok e (List.mem_of_getElem? he)
    exact s_skip (t_or (ot_false (t_notF (t_prim (vs_cons (v_var rfl) vs_nil) (isTuple_ofK rfl))) (ot_false (t_cmp (v_prim (vs_cons (v_var rfl) vs_nil) p_lenT) v_int (neF rfl)) ot_nil)))
      (s_skip (t_or (ot_false (t_notF (t_call (vs_cons (v_idx (v_var rfl) v_int item_tup0) (vs_cons v_int (vs_cons (v_bin (v_var rfl) v_int b_sub) vs_nil))) (among_in h0 (by (first | lia | omega)) (by (first | lia | omega))))) (ot_false (t_notF (t_call (vs_cons (v_idx (v_var rfl) v_int item_tup1) (vs_cons v_int (vs_cons (v_bin (v_var rfl) v_int b_sub) vs_nil))) (among_in h0 (by (first | lia | omega)) (by (first | lia | omega))))) ot_nil)))
      (s_nil ⟨⟨_, rfl, rfl⟩, hT⟩))
  · rintro ρ H' ⟨x2, rfl, rfl⟩
    exact s_nil ⟨rfl, rfl⟩

theorem e_ok (h : denE strF cf sc b x ρ H = .ok v H1) (k : K v H1) : (denE strF cf sc b x ρ H).sat K := by rw [h]; exact k
theorem s_retS (h : (denE strF cf sc b x ρ H).sat R) : (denSs strF cf sc b (.cons (.ret x) ss) ρ H).sat N R := by
  rw [sat_cons, sat_ret]; exact h
theorem i_rangeN {k : Nat} (h1 : denE strF cf sc b x ρ H = .ok (.int k) H1) (h2 : k ≤ 1000) : denI strF cf sc b (.range1 x) ρ H = .ok ((List.range k).map fun (j : Nat) => AV.int (j : Int), []) H1 := by
  rw [i_range1 h1 (inR_N h2), rangeL_nat]
theorem no_w : ∀ w ∈ ([] : List (Nat × List AV)), H[w.1]? = some (.list w.2) := fun w hw => by cases hw

inductive TbI (H0 : AHeap) (n r t : Nat) (qs : List Nat) (E : List (Nat × Nat)) (k : Nat) (ρ : AEnv) (H : AHeap) : Prop
  | mk (x3 x4 : Option AV) (hρ : ρ = [some (.int n), some (.ref r), some (.ref t), x3, x4]) (T : TblW H0 H t qs n (lap (E.take k))) : TbI H0 n r t qs E k ρ H
inductive TabR (H : AHeap) (n : Nat) (A : Mat) (v : AV) (H' : AHeap) : Prop
  | mk (t : Nat) (qs : List Nat) (hv : v = .ref t) (T : TblW H H' t qs n A) : TabR H n A v H'
inductive IntR (H : AHeap) (i : Int) (v : AV) (H' : AHeap) : Prop
  | mk (hv : v = .int i) (hp : H <+: H') : IntR H i v H'
end
end Mine

namespace Mine
open PySem

section
variable {strF : PyData → Option Str} {sc : List Int} {P : Nat → Option FnI} {H H0 H1 H2 H3 : AHeap} {n m b : Nat} {ρ : AEnv} {cf : Nat → List AV → AHeap → Res AV} {N : AEnv → AHeap → Prop} {R : AV → AHeap → Prop} {x y : PE} {ss : PSs}

theorem len_nats {r : Nat} {F : List Nat} (h : H[r]? = some (.list (F.map natV))) : prim strF sc .len [.ref r] H = .ok (.int F.length) H := by rw [len_list h, List.length_map]
/-- one half of a turn: a place that hangs at x is taken on -/
theorem half_new {r i j k : Nat} {E : List (Nat × Nat)} {s x y : Nat} {F : List Nat} {u : Nat} (hge : H0.length ≤ r) (hr : H[r]? = some (.list (F.map natV))) (p : H0 <+: H) (h : Rch E n s F) (hn : n ≤ 7) (hx : F[k]? = some x) (hc : u = x → Conn E x y) (hy : y < n)
    (r3 : ρ[3]? = some (some (.ref r))) (r4 : ρ[4]? = some (some (.int k))) (ri : ρ[i]? = some (some (.int u))) (rj : ρ[j]? = some (some (.int y)))
    (hN : ∀ H' F', H'[r]? = some (.list (F'.map natV)) → H0 <+: H' → Rch E n s F' → F <+: F' → (u = x → y ∈ F') → (denSs strF cf sc H0.length ss ρ H').sat N R) :
    (denSs strF cf sc H0.length (.cons (.ite (.and (.cons (.cmp .Eq (.var i) (.idx (.var 3) (.var 4))) (.cons (.cmp .NotIn (.var j) (.var 3)) .nil))) (.cons (.expr (.append (.var 3) (.var j))) .nil) .nil) ss) ρ H).sat N R := by
  have it := item_ref (sc := sc) (k := k) (x := natV x) hr (by rw [List.getElem?_map, hx]; rfl)
  have hnot := c_notin (v := .int y) (w := .ref r) (H := H)
  rw [inOf_nats hr] at hnot
  by_cases h1 : u = x
  · have c1 := t_cmp (strF := strF) (cf := cf) (b := H0.length) (v_var ri) (v_idx (v_var r3) (v_var r4) it) (eqT (by rw [h1]))
    by_cases h2 : y ∈ F
    · rw [decide_eq_true h2] at hnot
      exact s_skip (t_and (at_true c1 (at_false (t_cmp (v_var rj) (v_var r3) hnot)))) (hN H F hr p h List.prefix_rfl fun _ => h2)
    · rw [decide_eq_false h2] at hnot
      have hl := nodup_len h.nd fun p hp => (h.lt p hp).1
      exact s_iteT (t_and (at_true c1 (at_true (t_cmp (v_var rj) (v_var r3) hnot) at_nil))) (s_expr (v_append (v_var r3) (isL_of hr) (v_var rj) (append_nat hr hge (Nat.lt_of_lt_of_le (show F.length < 100 by (first | lia | omega)) (by decide))))
        (s_nil (hN _ (F ++ [y]) (set_top ⟨_, hr⟩) (prefix_set p hge) (h.add (List.mem_of_getElem? hx) (hc h1) hy h2) (List.prefix_append ..) fun _ => by simp)))
  · exact s_skip (t_and (at_false (t_cmp (v_var ri) (v_idx (v_var r3) (v_var r4) it) (eqF fun q => h1 (Int.ofNat.inj q))))) (hN H F hr p h List.prefix_rfl fun e => absurd e h1)

inductive RcI (H0 : AHeap) (n rt s : Nat) (E : List (Nat × Nat)) (k : Nat) (ρ : AEnv) (H : AHeap) : Prop
  | mk (F : List Nat) (x5 x6 : Option AV) (hρ : ρ = [some (.int n), some (.ref rt), some (.int s), some (.ref H0.length), some (.int k), x5, x6]) (hr : H[H0.length]? = some (.list (F.map natV))) (hp : H0 <+: H) (hR : Rch E n s F) (hk : k ≤ F.length)
    (hc : ∀ j x, j < k → F[j]? = some x → ∀ e ∈ E, (e.1 = x → e.2 ∈ F) ∧ (e.2 = x → e.1 ∈ F)) : RcI H0 n rt s E k ρ H
inductive RcJ (H0 : AHeap) (n rt s : Nat) (E : List (Nat × Nat)) (k x : Nat) (F : List Nat) (q : Nat) (ρ : AEnv) (H : AHeap) : Prop
  | mk (F' : List Nat) (x5 x6 : Option AV) (hρ : ρ = [some (.int n), some (.ref rt), some (.int s), some (.ref H0.length), some (.int k), x5, x6]) (hr : H[H0.length]? = some (.list (F'.map natV))) (hp : H0 <+: H) (hR : Rch E n s F') (hF : F <+: F')
    (hc : ∀ e ∈ E.take q, (e.1 = x → e.2 ∈ F') ∧ (e.2 = x → e.1 ∈ F')) : RcJ H0 n rt s E k x F q ρ H
inductive ReachR (H : AHeap) (n s : Nat) (E : List (Nat × Nat)) (v : AV) (H' : AHeap) : Prop
  | mk (r : Nat) (F : List Nat) (hv : v = .ref r) (hr : H'[r]? = some (.list ((sortI (F.map fun (p : Nat) => (p : Int))).map .int))) (hp : H <+: H') (hge : H.length ≤ r) (nd : F.Nodup) (lt : ∀ p ∈ F, p < n) (hF : ∀ p, p < n → (p ∈ F ↔ Conn E s p)) : ReachR H n s E v H'
theorem rch_close {E : List (Nat × Nat)} {F : List Nat} (h : ∀ x, x ∈ F → ∀ e ∈ E, (e.1 = x → e.2 ∈ F) ∧ (e.2 = x → e.1 ∈ F)) {x y : Nat} (c : Conn E x y) : x ∈ F ↔ y ∈ F := by
  induction c with
  | refl p => exact Iff.rfl
  | @tie e m => exact ⟨fun q => (h _ q e m).1 rfl, fun q => (h _ q e m).2 rfl⟩
  | symm _ ih => exact ih.symm
  | trans _ _ i1 i2 => exact i1.trans i2
theorem s_whl {c : PE} {body : PSs} (k : (whileL (denT strF cf sc b c) (denSs strF cf sc b body) 100 ρ H).sat (fun ρ H => (denSs strF cf sc b ss ρ H).sat N R) R) : (denSs strF cf sc b (.cons (.whl c body) ss) ρ H).sat N R := by
  rw [sat_cons, sat_whl]; exact k

/-- what _law_reached answers -/
theorem reach_spec (h10 : P 10 = some fn_10) {rt s : Nat} {E : List (Nat × Nat)} (hn : n ≤ 7) (hT : TL H rt E) (hok : okT n E) (hs : s < n) : (callF strF P sc (m + 1) 10 [.int n, .ref rt, .int s] H).sat (ReachR H n s E) := by
  refine s_call h10 rfl (s_assign (v_list (vs_cons (v_var rfl) vs_nil) (allocK (by simp))) (s_assign v_int (s_whl (whileL_rule (RcI H n rt s E) 7 ?_ 100 0 _ _ (by decide) (by decide)
    ⟨[s], _, _, rfl, last_get _ _, pre_app _ _, ⟨by simp, fun p hp => by simp at hp; subst hp; exact ⟨hs, .refl _⟩, by simp⟩, Nat.zero_le _, fun j x hj => absurd hj (Nat.not_lt_zero _)⟩))))
  rintro k ρ H' hk ⟨F, x5, x6, rfl, hr, p, hR, hkl, hcl⟩
  have hlen := nodup_len hR.nd fun p hp => (hR.lt p hp).1
  refine ⟨_, H', t_cmp (v_var rfl) (v_prim (vs_cons (v_var rfl) vs_nil) (len_nats hr)) c_lt, fun hf => ?_, fun ht => ?_⟩
  · have hk2 : k = F.length := by have := of_decide_eq_false hf; (first | lia | omega)
    have es : prim strF sc .sorted [.ref H.length] H' = .ok (.ref H'.length) (H' ++ [.list ((sortI (F.map fun (p : Nat) => (p : Int))).map .int)]) := by
      rw [p_sorted, hr]
      show (if (F.map natV).length < 64 then _ else _) = _
      rw [if_pos (by rw [List.length_map]; (first | lia | omega)), intsOf_nats]
      exact allocK (by rw [List.length_map, sortI_length, List.length_map]; (first | lia | omega))
    refine s_ret (v_prim (vs_cons (v_var rfl) vs_nil) es) ⟨_, F, rfl, last_get _ _, p.trans (pre_app _ _), p.length_le, hR.nd, fun p hp => (hR.lt p hp).1, fun q hq => ⟨fun h => (hR.lt q h).2, fun c => (rch_close (fun x hx => ?_) c).mp hR.st⟩⟩
    obtain ⟨j, hj⟩ := List.mem_iff_getElem?.mp hx
    exact hcl j x (by have := (List.getElem?_eq_some_iff.mp hj).1; (first | lia | omega)) hj
  · have hkl2 : k < F.length := by have := of_decide_eq_true ht; (first | lia | omega)
    refine ⟨by (first | lia | omega), ?_⟩
    obtain ⟨x, hx⟩ : ∃ x, F[k]? = some x := ⟨F[k], List.getElem?_eq_getElem hkl2⟩
    refine s_for2 (i_ofR (v_var rfl) (get_pre p hT)) (forL_list (RcJ H n rt s E k x F) ⟨F, _, _, rfl, hr, p, hR, List.prefix_rfl, fun e he => by simp at he⟩ ?_ ?_)
    · rintro q v ρ H2 hv ⟨F2, x5, x6, rfl, hr2, p2, hR2, pF2, hc2⟩
      obtain ⟨e, he, rfl⟩ := ties_get hv
      have hm := List.mem_of_getElem? he
      obtain ⟨o1, o2⟩ := hok e hm
      refine half_new (n := n) (k := k) (E := E) (s := s) (x := x) (y := e.2) (u := e.1) (Nat.le_refl _) hr2 p2 hR2 hn (pre_get pF2 hx) (fun h => h ▸ .tie hm) o2 rfl rfl rfl rfl fun H3 F3 hr3 p3 hR3 pF3 g3 => ?_
      refine half_new (n := n) (k := k) (E := E) (s := s) (x := x) (y := e.1) (u := e.2) (Nat.le_refl _) hr3 p3 hR3 hn (pre_get (pF2.trans pF3) hx) (fun h => h ▸ (Conn.tie hm).symm) o1 rfl rfl rfl rfl fun H4 F4 hr4 p4 hR4 pF4 g4 => ?_
      refine s_nil ⟨⟨F4, _, _, rfl, hr4, p4, hR4, (pF2.trans pF3).trans pF4, fun f hf => ?_⟩, get_pre p4 hT⟩
      rw [List.take_add_one, he] at hf
      rcases List.mem_append.mp hf with hf | hf
      · exact ⟨fun h => (pF3.trans pF4).subset ((hc2 f hf).1 h), fun h => (pF3.trans pF4).subset ((hc2 f hf).2 h)⟩
      · cases List.mem_singleton.mp hf
        exact ⟨fun h => pF4.subset (g3 h), g4⟩
    · rintro ρ H2 ⟨F2, x5, x6, rfl, hr2, p2, hR2, pF2, hc2⟩
      rw [List.length_map, List.take_length] at hc2
      refine s_assign (v_bin (v_var rfl) v_int b_add) (s_nil ⟨F2, _, _, rfl, hr2, p2, hR2, Nat.lt_of_lt_of_le hkl2 pF2.length_le, fun j y hj hy e he => ?_⟩)
      by_cases hjk : j = k
      · subst hjk
        rw [pre_get pF2 hx] at hy; cases hy
        exact hc2 e he
      · have hjl : j < F.length := by (first | lia | omega)
        have hy' : F[j]? = some y := by
          obtain ⟨z, rfl⟩ := pF2
          rwa [List.getElem?_append_left hjl] at hy
        have := hcl j y (by (first | lia | omega)) hy' e he
        exact ⟨fun h => pF2.subset (this.1 h), fun h => pF2.subset (this.2 h)⟩
end
end Mine

namespace Mine
open PySem

/-! labels: each place has the least place that it hangs together with -/
noncomputable def labStep (L : List Nat) (e : Nat × Nat) : List Nat := L.map fun l => if l = max (L.getD e.1 0) (L.getD e.2 0) then min (L.getD e.1 0) (L.getD e.2 0) else l
structure Lab (n : Nat) (F : List (Nat × Nat)) (L : List Nat) : Prop where
  len : L.length = n
  lt : ∀ p, p < n → L.getD p 0 < n ∧ Conn F p (L.getD p 0)
  le : ∀ p q, p < n → q < n → Conn F p q → L.getD p 0 ≤ q
theorem getD_range {n p : Nat} (h : p < n) : (List.range n).getD p 0 = p := by
  rw [List.getD_eq_getElem?_getD, List.getElem?_range h]; rfl
theorem lab_start (n : Nat) : Lab n [] (List.range n) where
  len := List.length_range
  lt := fun p hp => by rw [getD_range hp]; exact ⟨hp, .refl _⟩
  le := fun p q hp hq c => by rw [getD_range hp]; exact Nat.le_of_eq (conn_nil c)
theorem getD_map {f : Nat → Nat} {L : List Nat} {p : Nat} (h : p < L.length) : (L.map f).getD p 0 = f (L.getD p 0) := by
  rw [List.getD_eq_getElem?_getD, List.getD_eq_getElem?_getD, List.getElem?_map, List.getElem?_eq_getElem h]; rfl
theorem Lab.eq {n : Nat} {F : List (Nat × Nat)} {L : List Nat} (l : Lab n F L) {p q : Nat} (hp : p < n) (hq : q < n) (c : Conn F p q) : L.getD p 0 = L.getD q 0 :=
  Nat.le_antisymm (l.le p _ hp (l.lt q hq).1 (c.trans (l.lt q hq).2)) (l.le q _ hq (l.lt p hp).1 (c.symm.trans (l.lt p hp).2))
/-- a Conn that may be walked place by place -/
theorem Conn.const {n : Nat} {F : List (Nat × Nat)} {f : Nat → Nat} (hok : okT n F) (h : ∀ e ∈ F, f e.1 = f e.2) {p q : Nat} (c : Conn F p q) : f p = f q := by
  induction c with
  | refl p => rfl
  | tie m => exact h _ m
  | symm _ ih => exact ih.symm
  | trans _ _ i1 i2 => exact i1.trans i2
theorem lab_step {n : Nat} {F : List (Nat × Nat)} {L : List Nat} {e : Nat × Nat} (l : Lab n F L) (hok : okT n F) (h1 : e.1 < n) (h2 : e.2 < n) : Lab n (F ++ [e]) (labStep L e) := by
  have hF : ∀ {p q}, Conn F p q → Conn (F ++ [e]) p q := fun c => c.mono fun f hf => .tie (List.mem_append_left _ hf)
  have hab : Conn (F ++ [e]) (L.getD e.1 0) (L.getD e.2 0) := ((hF (l.lt e.1 h1).2).symm.trans (.tie (List.mem_append_right _ List.mem_cons_self))).trans (hF (l.lt e.2 h2).2)
  have la := (l.lt e.1 h1).1
  have lb := (l.lt e.2 h2).1
  generalize ha : L.getD e.1 0 = a at hab la
  generalize hb : L.getD e.2 0 = c at hab lb
  have hg : ∀ p, p < n → (labStep L e).getD p 0 = if L.getD p 0 = max a c then min a c else L.getD p 0 := fun p hp => by
    unfold labStep; rw [ha, hb]
    exact getD_map (f := fun l => if l = max a c then min a c else l) (l.len ▸ hp)
  have hle : ∀ p, p < n → (labStep L e).getD p 0 ≤ p := fun p hp => by
    have := l.le p p hp hp (.refl _)
    rw [hg p hp]; split <;> (first | lia | omega)
  have hmm : Conn (F ++ [e]) (max a c) (min a c) := by
    by_cases h : a ≤ c
    · rw [Nat.max_eq_right h, Nat.min_eq_left h]; exact hab.symm
    · rw [Nat.max_eq_left (by (first | lia | omega)), Nat.min_eq_right (by (first | lia | omega))]; exact hab
  refine ⟨by unfold labStep; rw [List.length_map]; exact l.len, fun p hp => ?_, fun p q hp hq cc => ?_⟩
  · rw [hg p hp]
    split
    · rename_i h
      exact ⟨by (first | lia | omega), (hF (h ▸ (l.lt p hp).2)).trans hmm⟩
    · exact ⟨(l.lt p hp).1, hF (l.lt p hp).2⟩
  · have hc := Conn.const (n := n) (f := fun p => if p < n then (labStep L e).getD p 0 else p) (F := F ++ [e]) (fun f hf => by
      rcases List.mem_append.mp hf with hf | hf
      · exact hok f hf
      · simp at hf; subst hf; exact ⟨h1, h2⟩) (fun f hf => ?_) cc
    · simp only [hp, hq, if_true] at hc
      rw [hc]; exact hle q hq
    · rcases List.mem_append.mp hf with hf | hf
      · obtain ⟨o1, o2⟩ := hok f hf
        simp only [o1, o2, if_true]
        rw [hg _ o1, hg _ o2, l.eq o1 o2 (.tie hf)]
      · simp at hf; subst hf
        simp only [h1, h2, if_true]
        rw [hg _ h1, hg _ h2, ha, hb]
        have : min a c ≤ max a c := by (first | lia | omega)
        by_cases h : a ≤ c
        · rw [Nat.max_eq_right h, Nat.min_eq_left h, if_pos rfl]; split <;> rfl
        · rw [Nat.max_eq_left (by (first | lia | omega)), Nat.min_eq_right (by (first | lia | omega)), if_pos rfl]; split <;> rfl
noncomputable def labs (n : Nat) (E : List (Nat × Nat)) : List Nat := E.foldl labStep (List.range n)
theorem okT_pre {n : Nat} {E F : List (Nat × Nat)} (h : okT n (F ++ E)) : okT n F := fun e he => h e (List.mem_append_left _ he)
theorem lab_all {n : Nat} : ∀ (E F : List (Nat × Nat)) {L : List Nat}, Lab n F L → okT n (F ++ E) → Lab n (F ++ E) (E.foldl labStep L)
  | [], F, L, l, _ => by rw [List.append_nil]; exact l
  | e :: E, F, L, l, h => by
    have he := h e (List.mem_append_right _ List.mem_cons_self)
    have h' : okT n ((F ++ [e]) ++ E) := by rw [List.append_assoc]; exact h
    have := lab_all E (F ++ [e]) (lab_step l (okT_pre h) he.1 he.2) h'
    rw [List.append_assoc] at this
    exact this
theorem lab_labs {n : Nat} {E : List (Nat × Nat)} (h : okT n E) : Lab n E (labs n E) := lab_all E [] (lab_start n) h
theorem labs_snoc (n : Nat) (E : List (Nat × Nat)) (e : Nat × Nat) : labs n (E ++ [e]) = labStep (labs n E) e := by unfold labs; rw [List.foldl_append]; rfl

/-! a rule for all comprehensions -/
section
variable {strF : PyData → Option Str} {sc : List Int} {P : Nat → Option FnI} {H H0 : AHeap} {n m : Nat} {ρ : AEnv} {cf : Nat → List AV → AHeap → Res AV} {N : AEnv → AHeap → Prop} {R : AV → AHeap → Prop}

theorem stillsK {ws : List (Nat × List AV)} (h : ∀ w ∈ ws, H[w.1]? = some (.list w.2)) : ws.all (fun w => still H w.1 w.2) = true := List.all_eq_true.mpr fun w hw => still_of (h w hw)
/-- nothing is made but the items -/
theorem comp_map {α : Type} {g f : α → AV} {ws : List (Nat × List AV)} {step : AV → AHeap → Res (Option AV)} (hw : ∀ w ∈ ws, H[w.1]? = some (.list w.2)) : ∀ (l : List α), (∀ a ∈ l, step (g a) H = .ok (some (f a)) H) → compL ws step (l.map g) H = .ok (l.map f) H
  | [], _ => rfl
  | a :: l, h => by
    rw [List.map_cons, compL, h a List.mem_cons_self]
    simp only [Res.get, stillsK hw, if_true, comp_map hw l fun a ha => h a (List.mem_cons_of_mem _ ha)]; rfl
theorem comp_filter {α : Type} {g f : α → AV} {c : α → Bool} {ws : List (Nat × List AV)} {step : AV → AHeap → Res (Option AV)} (hw : ∀ w ∈ ws, H[w.1]? = some (.list w.2)) : ∀ (l : List α), (∀ a ∈ l, step (g a) H = .ok (if c a then some (f a) else none) H) → compL ws step (l.map g) H = .ok ((l.filter c).map f) H
  | [], _ => rfl
  | a :: l, h => by
    rw [List.map_cons, compL, h a List.mem_cons_self]
    simp only [Res.get, stillsK hw, if_true, comp_filter hw l fun a ha => h a (List.mem_cons_of_mem _ ha)]
    cases hc : c a with
    | true => rw [List.filter_cons_of_pos hc]; rfl
    | false => rw [List.filter_cons_of_neg (by simp [hc])]; rfl
theorem one_w {q : Nat} {xs : List AV} (h : H[q]? = some (.list xs)) : ∀ w ∈ [(q, xs)], H[w.1]? = some (.list w.2) := fun w hw => by
  cases List.mem_singleton.mp hw; exact h
noncomputable def fn_2 : FnI := ⟨2, 7, .cons (.assign 2 (.prim .listRange (.cons (.var 0) .nil))) (.cons (.for2 3 4 (.of (.var 1)) (.cons (.assign 5 (.prim .min2 (.cons (.idx (.var 2) (.var 3)) (.cons (.idx (.var 2) (.var 4)) .nil)))) (.cons (.assign 6 (.prim .max2 (.cons (.idx (.var 2) (.var 3)) (.cons (.idx (.var 2) (.var 4)) .nil)))) (.cons (.assign 2 (.comp1 (.ite (.cmp .Eq (.var 0) (.var 7)) (.var 6) (.var 0)) (.of (.var 2)) .none)) .nil)))) (.cons (.ret (.var 2)) .nil))⟩
/-- a list of places, made anew -/
inductive NatsR (H : AHeap) (F : List Nat) (v : AV) (H' : AHeap) : Prop
  | mk (r : Nat) (hv : v = .ref r) (hr : H'[r]? = some (.list (F.map natV))) (hp : H <+: H') (hge : H.length ≤ r) : NatsR H F v H'
inductive LabI (H : AHeap) (n r : Nat) (E : List (Nat × Nat)) (k : Nat) (ρ : AEnv) (H' : AHeap) : Prop
  | mk (q : Nat) (x3 x4 x5 x6 : Option AV) (hρ : ρ = [some (.int n), some (.ref r), some (.ref q), x3, x4, x5, x6]) (hp : H <+: H') (hq : H'[q]? = some (.list ((labs n (E.take k)).map natV))) (hge : H.length ≤ q) : LabI H n r E k ρ H'
theorem item_nat {r p : Nat} {F : List Nat} (h : H[r]? = some (.list (F.map natV))) (hp : p < F.length) : itemOf sc (.ref r) (.int p) H = .ok (.int (F.getD p 0 : Nat)) H :=
  item_ref h (by rw [List.getElem?_map, List.getElem?_eq_getElem hp, List.getD_eq_getElem?_getD, List.getElem?_eq_getElem hp]; rfl)
theorem min_nats {a c : Nat} : prim strF sc .min2 [.int a, .int c] H = .ok (.int (min a c : Nat)) H := by rw [p_min2]; congr 2; (first | lia | omega)
theorem max_nats {a c : Nat} : prim strF sc .max2 [.int a, .int c] H = .ok (.int (max a c : Nat)) H := by rw [p_max2]; congr 2; (first | lia | omega)
theorem range_nats (k : Nat) : rangeL 0 k = (List.range k).map natV := rangeL_nat k

theorem lrange_ok {k : Nat} (h : k ≤ 1000) : prim strF sc .listRange [.int k] H = .ok (.ref H.length) (H ++ [.list ((List.range k).map natV)]) := by
  rw [p_lrange, if_pos (inR_N h), range_nats]
  exact allocK (by rw [List.length_map, List.length_range]; exact h)
theorem labs_length (n : Nat) (E : List (Nat × Nat)) (h : okT n E) : (labs n E).length = n := (lab_labs h).len

/-- what labels_of answers -/
theorem labels_spec (h2 : P 2 = some fn_2) {r : Nat} {E : List (Nat × Nat)} (hn : n ≤ 7) (hT : TL H r E) (hok : okT n E) : (callF strF P sc (m + 1) 2 [.int n, .ref r] H).sat (NatsR H (labs n E)) := by
  refine s_call h2 rfl (s_assign (v_prim (vs_cons (v_var rfl) vs_nil) (lrange_ok (k := n) (by (first | lia | omega)))) (s_for2 (i_ofR (v_var rfl) (get_pre (pre_app _ _) hT)) (forL_list (LabI H n r E)
    ⟨H.length, _, _, _, _, rfl, pre_app _ _, last_get _ _, Nat.le_refl _⟩ ?_ ?_)))
  · rintro k v ρ H' hv ⟨q, x3, x4, x5, x6, rfl, hp, hq, hge⟩
    obtain ⟨e, he, rfl⟩ := ties_get hv
    have ho := hok e (List.mem_of_getElem? he)
    have hokk : okT n (E.take k) := fun f hf => hok f (List.mem_of_mem_take hf)
    have hlen := labs_length n _ hokk
    generalize hL : labs n (E.take k) = L at hq hlen
    have h1 := item_nat (sc := sc) (p := e.1) hq (by (first | lia | omega))
    have h3 := item_nat (sc := sc) (p := e.2) hq (by (first | lia | omega))
    refine s_assign (v_prim (vs_cons (v_idx (v_var rfl) (v_var rfl) h1) (vs_cons (v_idx (v_var rfl) (v_var rfl) h3) vs_nil)) min_nats)
      (s_assign (v_prim (vs_cons (v_idx (v_var rfl) (v_var rfl) h1) (vs_cons (v_idx (v_var rfl) (v_var rfl) h3) vs_nil)) max_nats)
      (s_assign (v_comp1 (i_ofR (v_var rfl) hq) (comp_map (f := fun l => natV (if l = max (L.getD e.1 0) (L.getD e.2 0) then min (L.getD e.1 0) (L.getD e.2 0) else l)) (one_w hq) L fun l _ => ?_) (allocK (by rw [List.length_map]; (first | lia | omega))))
      (s_nil ⟨⟨_, _, _, _, _, rfl, hp.trans (pre_app _ _), ?_, hp.length_le⟩, get_pre (hp.trans (pre_app _ _)) hT⟩)))
    · refine k_none1 ?_
      by_cases h : l = max (L.getD e.1 0) (L.getD e.2 0)
      · rw [if_pos h]; exact v_iteT (t_cmp (v_var rfl) (v_var rfl) (eqT (by rw [← h]))) (v_var rfl)
      · rw [if_neg h]; exact v_iteF (t_cmp (v_var rfl) (v_var rfl) (eqF (fun q => h (Int.ofNat.inj q)))) (v_var rfl)
    · rw [last_get, List.take_add_one, he, show (some e).toList = [e] from rfl, labs_snoc, hL, labStep, List.map_map]; rfl
  · rintro ρ H' ⟨q, x3, x4, x5, x6, rfl, hp, hq, hge⟩
    rw [List.length_map, List.take_length] at hq
    exact s_ret (v_var rfl) ⟨q, rfl, hq, hp, hge⟩
end
end Mine

namespace Mine
open PySem

/-! rising lists, made longer at the end -/
noncomputable def lst (S : List Nat) : Nat := match S.getLast? with
  | none => 0
  | some x => x + 1
noncomputable def ext (M : Nat) (S : List Nat) : List (List Nat) := (List.range (M - lst S)).map fun k => S ++ [lst S + k]
/-! lists of places in the heap -/
inductive Fa (H : AHeap) : List Nat → List (List Nat) → Prop
  | nil : Fa H [] []
  | cons {q : Nat} {qs : List Nat} {S : List Nat} {Ss : List (List Nat)} (h : H[q]? = some (.list (S.map natV))) (r : Fa H qs Ss) : Fa H (q :: qs) (S :: Ss)
theorem Fa.grow {H H' : AHeap} (p : H <+: H') : ∀ {qs : List Nat} {Ss : List (List Nat)}, Fa H qs Ss → Fa H' qs Ss
  | _, _, .nil => .nil
  | _, _, .cons h r => .cons (get_pre p h) (r.grow p)
theorem Fa.app {H : AHeap} : ∀ {qs ps : List Nat} {Ss Ts : List (List Nat)}, Fa H qs Ss → Fa H ps Ts → Fa H (qs ++ ps) (Ss ++ Ts)
  | _, _, _, _, .nil, t => t
  | _, _, _, _, .cons h r, t => .cons h (r.app t)
theorem Fa.length {H : AHeap} : ∀ {qs : List Nat} {Ss : List (List Nat)}, Fa H qs Ss → qs.length = Ss.length
  | _, _, .nil => rfl
  | _, _, .cons h r => by rw [List.length_cons, List.length_cons, r.length]
theorem Fa.get {H : AHeap} : ∀ {qs : List Nat} {Ss : List (List Nat)}, Fa H qs Ss → ∀ {i q : Nat}, qs[i]? = some q → ∃ S, Ss[i]? = some S ∧ H[q]? = some (.list (S.map natV))
  | _, _, .nil, i, q, e => by simp at e
  | _, _, .cons h r, 0, q, e => by simp at e; subst e; exact ⟨_, rfl, h⟩
  | _, _, .cons h r, i + 1, q, e => by rw [List.getElem?_cons_succ] at e; obtain ⟨S, e1, e2⟩ := r.get e; exact ⟨S, by rw [List.getElem?_cons_succ]; exact e1, e2⟩
/-- a list of lists, made anew -/
inductive FaR (H0 : AHeap) (Ss : List (List Nat)) (v : AV) (H : AHeap) : Prop
  | mk (r : Nat) (qs : List Nat) (hv : v = .ref r) (hr : H[r]? = some (.list (qs.map .ref))) (hf : Fa H qs Ss) (hp : H0 <+: H) (hge : H0.length ≤ r) (hq : ∀ q ∈ qs, H0.length ≤ q) : FaR H0 Ss v H

theorem rd_natL {H : AHeap} {d : Nat} : ∀ (F : List Nat), (F.map natV).mapM (rd H d) = some (F.map fun (p : Nat) => PyData.int p)
  | [] => rfl
  | x :: F => by
    rw [List.map_cons, List.mapM_cons, rd_natL F]
    cases d <;> rfl
theorem rd_nats {H : AHeap} {r d : Nat} {F : List Nat} (h : H[r]? = some (.list (F.map natV))) : rd H (d + 1) (.ref r) = some (.list (F.map fun (p : Nat) => PyData.int p)) := by
  unfold rd
  simp only [h, rd_natL]; rfl
theorem eqvAll_nats : ∀ (F G : List Nat), PyData.eqvAll (F.map fun (p : Nat) => PyData.int p) (G.map fun (p : Nat) => PyData.int p) = decide (F = G)
  | [], [] => rfl
  | [], y :: G => rfl
  | x :: F, [] => rfl
  | x :: F, y :: G => by
    simp only [List.map_cons, PyData.eqvAll, eqvAll_nats F G]
    have : PyData.eqv (.int (x : Int)) (.int (y : Int)) = decide (x = y) := by
      show ((x : Int) == (y : Int)) = _
      by_cases h : x = y
      · subst h; simp
      · rw [decide_eq_false h]; exact beq_eq_false_iff_ne.mpr fun e => h (Int.ofNat.inj e)
    rw [this]
    by_cases h : x = y <;> by_cases g : F = G <;> simp [h, g]
section
variable {strF : PyData → Option Str} {sc : List Int} {P : Nat → Option FnI} {H H0 : AHeap} {n m : Nat} {ρ : AEnv} {cf : Nat → List AV → AHeap → Res AV} {N : AEnv → AHeap → Prop} {R : AV → AHeap → Prop}

inductive StepR (H : AHeap) (F : List Nat) (o : Option AV) (H' : AHeap) : Prop
  | mk (q : Nat) (ho : o = some (.ref q)) (hq : H'[q]? = some (.list (F.map natV))) (hp : H <+: H') (hge : H.length ≤ q) : StepR H F o H'
inductive CompR (H : AHeap) (Ss : List (List Nat)) (out : List AV) (H' : AHeap) : Prop
  | mk (qs : List Nat) (ho : out = qs.map .ref) (hf : Fa H' qs Ss) (hp : H <+: H') (hq : ∀ q ∈ qs, H.length ≤ q) : CompR H Ss out H'
/-- each turn makes a list -/
theorem comp_grow {α : Type} {g : α → AV} {f : α → List Nat} {ws : List (Nat × List AV)} {step : AV → AHeap → Res (Option AV)} (hw : ∀ w ∈ ws, H0[w.1]? = some (.list w.2)) : ∀ (l : List α) {H : AHeap}, H0 <+: H →
    (∀ a ∈ l, ∀ H, H0 <+: H → (step (g a) H).sat (StepR H (f a))) → (compL ws step (l.map g) H).sat (CompR H (l.map f))
  | [], H, p, _ => ⟨[], rfl, .nil, List.prefix_rfl, fun q hq => by cases hq⟩
  | a :: l, H, p, h => by
    obtain ⟨o, H1, e1, q, rfl, hq, hp, hge⟩ := Res.sat_ex (h a List.mem_cons_self H p)
    obtain ⟨out, H2, e2, qs, rfl, hf, hp2, hqs⟩ := Res.sat_ex (comp_grow hw l (p.trans hp) fun a ha => h a (List.mem_cons_of_mem _ ha))
    rw [List.map_cons, compL, e1]
    simp only [Res.get, stillsK fun w hw' => get_pre (p.trans hp) (hw w hw'), if_true, e2]
    refine ⟨q :: qs, rfl, .cons (get_pre hp2 hq) hf, hp.trans hp2, fun x hx => ?_⟩
    rcases List.mem_cons.mp hx with rfl | hx
    · exact hge
    · exact Nat.le_trans hp.length_le (hqs x hx)

noncomputable def fn_54 : FnI := ⟨3, 3, .cons (.ret (.and (.cons (.cmp .Eq (.prim .len (.cons (.var 2) .nil)) (.bin .Sub (.var 0) (.int 1))) (.cons (.cmp .Eq (.prim .len (.cons (.call 10 (.cons (.var 0) (.cons (.comp1 (.idx (.var 2) (.var 0)) (.of (.var 2)) .none) (.cons (.int 0) .nil)))) .nil)) (.var 0)) .nil)))) .nil⟩
noncomputable def fn_60 : FnI := ⟨2, 7, .cons (.assign 2 (.list (.cons (.list .nil) .nil))) (.cons (.for1 3 (.range1 (.var 1)) (.cons (.assign 4 (.list .nil)) (.cons (.for1 5 (.of (.var 2)) (.cons (.assign 6 (.int 0)) (.cons (.ite (.cmp .NotEq (.var 5) (.list .nil)) (.cons (.assign 6 (.bin .Add (.idx (.var 5) (.neg (.int 1))) (.int 1))) .nil) .nil) (.cons (.assign 4 (.bin .Add (.var 4) (.comp1 (.bin .Add (.var 6) (.list (.cons (.var 0) .nil))) (.range2 (.var 6) (.var 0)) .none))) .nil)))) (.cons (.assign 2 (.var 4)) .nil)))) (.cons (.ret (.var 2)) .nil))⟩
noncomputable def fn_61 : FnI := ⟨2, 2, .cons (.ret (.comp1 (.var 0) (.of (.call 60 (.cons (.prim .len (.cons (.var 1) .nil)) (.cons (.bin .Sub (.var 0) (.int 1)) .nil)))) (.some (.call 54 (.cons (.var 1) (.cons (.var 2) (.cons (.var 0) .nil))))))) .nil⟩

inductive BoolR (H : AHeap) (p : Prop) (v : AV) (H' : AHeap) : Prop
  | mk (t : Bool) (hv : v = .bool t) (ht : t = true ↔ p) (hp : H <+: H') : BoolR H p v H'
end
end Mine

namespace Mine
open PySem

section
variable {strF : PyData → Option Str} {sc : List Int} {P : Nat → Option FnI} {H H0 H1 H2 H3 : AHeap} {n m b : Nat} {ρ : AEnv} {cf : Nat → List AV → AHeap → Res AV} {N : AEnv → AHeap → Prop} {R : AV → AHeap → Prop} {K K' : AV → AHeap → Prop} {x y : PE} {es : PEs} {ss : PSs} {v w : AV} {vs : List AV}

/-! where the answer is known by what is wanted of it -/
/-- a comprehension each of whose turns makes a list -/
theorem e_comp {α : Type} {el : PE} {it : It} {g : α → AV} {f : α → List Nat} {l : List α} {ws : List (Nat × List AV)} (h1 : denI strF cf sc b it ρ H = .ok (l.map g, ws) H1) (hp : H <+: H1) (hw : ∀ w ∈ ws, H1[w.1]? = some (.list w.2)) (hl : l.length ≤ 1000)
    (h : ∀ a ∈ l, ∀ H', H1 <+: H' → (denE strF cf sc b el (some (g a) :: ρ) H').sat fun v => StepR H' (f a) (some v)) : (denE strF cf sc b (.comp1 el it .none) ρ H).sat (FaR H (l.map f)) := by
  obtain ⟨out, H2, e, qs, rfl, hf, hp2, hq⟩ := Res.sat_ex (comp_grow (step := fun v H => (denC strF cf sc b .none (some v :: ρ) H).get fun t H => if t then (denE strF cf sc b el (some v :: ρ) H).get fun x H => .ok (some x) H else .ok none H) hw l List.prefix_rfl fun a ha H' p => by
    obtain ⟨v, H2, e, q⟩ := Res.sat_ex (h a ha H' p)
    rw [k_none1 e]; exact q)
  rw [v_comp1 h1 e (allocK (by rw [List.length_map, hf.length, List.length_map]; exact hl))]
  exact ⟨_, qs, rfl, last_get _ _, hf.grow (pre_app _ _), (hp.trans hp2).trans (pre_app _ _), (hp.trans hp2).length_le, fun q hm => Nat.le_trans hp.length_le (hq q hm)⟩

inductive LsI (H0 : AHeap) (M K t : Nat) (ρ : AEnv) (H : AHeap) : Prop
  | mk (r : Nat) (qs : List Nat) (x3 x4 x5 x6 : Option AV) (hρ : ρ = [some (.int M), some (.int K), some (.ref r), x3, x4, x5, x6]) (hr : H[r]? = some (.list (qs.map .ref))) (hf : Fa H qs (combos M t)) (hp : H0 <+: H) (hge : H0.length ≤ r) (hq : ∀ q ∈ qs, H0.length ≤ q) : LsI H0 M K t ρ H
inductive LsJ (H0 : AHeap) (M K : Nat) (r : Nat) (qs : List Nat) (x3 : Option AV) (Ss : List (List Nat)) (j : Nat) (ρ : AEnv) (H : AHeap) : Prop
  | mk (r4 : Nat) (ps : List Nat) (x5 x6 : Option AV) (hρ : ρ = [some (.int M), some (.int K), some (.ref r), x3, some (.ref r4), x5, x6]) (hr : H[r]? = some (.list (qs.map .ref))) (hf : Fa H qs Ss) (hr4 : H[r4]? = some (.list (ps.map .ref))) (hf4 : Fa H ps ((Ss.take j).flatMap (ext M))) (hp : H0 <+: H) (hge : H0.length ≤ r4) (hq : ∀ q ∈ ps, H0.length ≤ q) : LsJ H0 M K r qs x3 Ss j ρ H

theorem refs_get {qs : List Nat} {k : Nat} {v : AV} (h : (qs.map AV.ref)[k]? = some v) : ∃ q, qs[k]? = some q ∧ v = .ref q := by
  rw [List.getElem?_map] at h
  cases q : qs[k]? with
  | none => rw [q] at h; cases h
  | some e => rw [q] at h; cases h; exact ⟨e, rfl, rfl⟩

end
end Mine

namespace Mine
open PySem

section
variable {strF : PyData → Option Str} {sc : List Int} {P : Nat → Option FnI} {H H0 H1 H2 H3 : AHeap} {n m b : Nat} {ρ : AEnv} {cf : Nat → List AV → AHeap → Res AV} {N : AEnv → AHeap → Prop} {R : AV → AHeap → Prop} {K K' : AV → AHeap → Prop} {x y : PE} {es : PEs} {ss : PSs} {v w : AV} {vs : List AV}

inductive FiltR (H0 : AHeap) (qs : List Nat) (Ss : List (List Nat)) (out : List AV) (H' : AHeap) : Prop
  | mk (ps : List Nat) (ho : out = ps.map .ref) (hf : Fa H' ps Ss) (hp : H0 <+: H') (hq : ∀ q ∈ ps, q ∈ qs) : FiltR H0 qs Ss out H'
inductive TstR (H : AHeap) (q : Nat) (t : Bool) (o : Option AV) (H' : AHeap) : Prop
  | mk (ho : o = if t then some (.ref q) else none) (hp : H <+: H') : TstR H q t o H'
end
end Mine

namespace Mine
open PySem

/-! sorted lists without repeats -/
theorem strict_same : ∀ {a b : List Int}, a.Pairwise (· < ·) → b.Pairwise (· < ·) → (∀ x, x ∈ a ↔ x ∈ b) → a = b
  | [], [], _, _, _ => rfl
  | [], y :: b, _, _, h => absurd ((h y).mpr List.mem_cons_self) (by simp)
  | x :: a, [], _, _, h => absurd ((h x).mp List.mem_cons_self) (by simp)
  | x :: a, y :: b, ha, hb, h => by
    obtain ⟨a1, a2⟩ := List.pairwise_cons.mp ha
    obtain ⟨b1, b2⟩ := List.pairwise_cons.mp hb
    have e : x = y := by
      rcases List.mem_cons.mp ((h x).mp List.mem_cons_self) with e | m
      · exact e
      · rcases List.mem_cons.mp ((h y).mpr List.mem_cons_self) with e | m'
        · exact e.symm
        · have := a1 y m'; have := b1 x m; (first | lia | omega)
    subst e
    rw [strict_same a2 b2 fun z => ?_]
    constructor
    · intro m
      rcases List.mem_cons.mp ((h z).mp (List.mem_cons_of_mem _ m)) with e | m'
      · have := a1 z m; (first | lia | omega)
      · exact m'
    · intro m
      rcases List.mem_cons.mp ((h z).mpr (List.mem_cons_of_mem _ m)) with e | m'
      · have := b1 z m; (first | lia | omega)
      · exact m'
theorem mem_insertI {x z : Int} : ∀ {l : List Int}, z ∈ insertI x l ↔ z = x ∨ z ∈ l
  | [] => by unfold insertI; simp
  | y :: l => by
    unfold insertI
    split
    · simp
    · rw [List.mem_cons, mem_insertI, List.mem_cons]
      constructor <;> rintro (h | h | h) <;> simp [h]
theorem mem_sortI {z : Int} : ∀ {l : List Int}, z ∈ sortI l ↔ z ∈ l
  | [] => Iff.rfl
  | x :: l => by unfold sortI; rw [mem_insertI, mem_sortI, List.mem_cons]
theorem pw_insertI {x : Int} : ∀ {l : List Int}, l.Pairwise (· ≤ ·) → (insertI x l).Pairwise (· ≤ ·)
  | [], _ => by unfold insertI; exact List.pairwise_singleton _ _
  | y :: l, h => by
    obtain ⟨h1, h2⟩ := List.pairwise_cons.mp h
    unfold insertI
    split
    · rename_i q
      exact List.pairwise_cons.mpr ⟨fun z hz => by
        rcases List.mem_cons.mp hz with rfl | hz
        · exact q
        · exact Int.le_trans q (h1 z hz), h⟩
    · rename_i q
      exact List.pairwise_cons.mpr ⟨fun z hz => by
        rcases mem_insertI.mp hz with rfl | hz
        · (first | lia | omega)
        · exact h1 z hz, pw_insertI h2⟩
theorem pw_sortI : ∀ (l : List Int), (sortI l).Pairwise (· ≤ ·)
  | [] => .nil
  | x :: l => by unfold sortI; exact pw_insertI (pw_sortI l)
theorem dedup_cons (x : Int) (l : List Int) : dedupSorted (x :: l) = (match dedupSorted l with
    | [] => [x]
    | y :: r' => if x = y then y :: r' else x :: y :: r') := rfl
theorem dedup_head {x : Int} : ∀ {l : List Int}, (∀ z ∈ l, x ≤ z) → ∀ z ∈ dedupSorted l, x ≤ z
  | [], _, z, h => by cases h
  | y :: l, h, z, hz => by
    rw [dedup_cons] at hz
    have ih := dedup_head fun z hz => h z (List.mem_cons_of_mem _ hz)
    have hy := h y List.mem_cons_self
    cases e : dedupSorted l with
    | nil => rw [e] at hz; simp at hz; (first | lia | omega)
    | cons u r =>
      rw [e] at hz ih
      dsimp only at hz
      split at hz
      · exact ih z hz
      · rcases List.mem_cons.mp hz with rfl | hz
        · exact hy
        · exact ih z hz
theorem dedup_spec : ∀ {l : List Int}, l.Pairwise (· ≤ ·) → (dedupSorted l).Pairwise (· < ·) ∧ ∀ z, z ∈ dedupSorted l ↔ z ∈ l
  | [], _ => ⟨.nil, fun z => Iff.rfl⟩
  | x :: l, h => by
    obtain ⟨h1, h2⟩ := List.pairwise_cons.mp h
    obtain ⟨i1, i2⟩ := dedup_spec h2
    have hh := dedup_head h1
    rw [dedup_cons]
    cases e : dedupSorted l with
    | nil =>
      rw [e] at i2
      refine ⟨List.pairwise_singleton _ _, fun z => ?_⟩
      rw [List.mem_cons, List.mem_cons, ← i2 z]
    | cons y r =>
      rw [e] at i1 i2 hh
      dsimp only
      by_cases q : x = y
      · rw [if_pos q]
        refine ⟨i1, fun z => ?_⟩
        rw [i2 z, List.mem_cons]
        constructor
        · exact .inr
        · rintro (rfl | m)
          · exact (i2 z).mp (by rw [q]; exact List.mem_cons_self)
          · exact m
      · rw [if_neg q]
        refine ⟨List.pairwise_cons.mpr ⟨fun z hz => ?_, i1⟩, fun z => ?_⟩
        · have a1 := hh z hz
          have a2 := hh y List.mem_cons_self
          rcases List.mem_cons.mp hz with rfl | hz
          · (first | lia | omega)
          · have := (List.pairwise_cons.mp i1).1 z hz; (first | lia | omega)
        · rw [List.mem_cons, i2 z, List.mem_cons]
end Mine

namespace Mine

/-! a hanging's number -/
/-- how many hangings have the first tie -/
noncomputable def withT (n : Nat) : List (Nat × Nat) → Int
  | [] => 0
  | e :: E => if e.1 = e.2 then 0 else tau n (ctr e E)
noncomputable def shift (t : Nat) (S : List Nat) : List Nat := S.map (· + t)
/-- the first tie is in it, or not -/
inductive NthR (k n j : Nat) (e : Nat × Nat) (E : List (Nat × Nat)) (S : List Nat) : Prop
  | inn (hne : e.1 ≠ e.2) (n' : Nat) (hn : n = n' + 1) (hj : (j : Int) < withT n (e :: E)) (S' : List Nat) (hS : S = up0 S') (h : (hang k n' (ctr e E))[j]? = some S') : NthR k n j e E S
  | out (c : Nat) (hc : withT n (e :: E) = c) (hj : c ≤ j) (S' : List Nat) (hS : S = up S') (h : (hang k n E)[j - c]? = some S') : NthR k n j e E S
end Mine

namespace Mine
open PySem

/-! is_hanging_of, of any thing -/
section
variable {strF : PyData → Option Str} {sc : List Int} {P : Nat → Option FnI} {H H0 H1 H2 H3 : AHeap} {n m b : Nat} {ρ : AEnv} {cf : Nat → List AV → AHeap → Res AV} {N : AEnv → AHeap → Prop} {R : AV → AHeap → Prop} {K K' : AV → AHeap → Prop} {x y : PE} {es : PEs} {ss : PSs} {v w : AV} {vs : List AV}

noncomputable def fn_25 : FnI := ⟨3, 5, .cons (.ite (.or (.cons (.not (.prim .isList (.cons (.var 2) .nil))) (.cons (.cmp .NotEq (.prim .len (.cons (.var 2) .nil)) (.bin .Sub (.var 0) (.int 1))) .nil))) (.cons (.ret (.bool false)) .nil) .nil) (.cons (.assign 3 (.neg (.int 1))) (.cons (.for1 4 (.of (.var 2)) (.cons (.ite (.not (.call 0 (.cons (.var 4) (.cons (.bin .Add (.var 3) (.int 1)) (.cons (.bin .Sub (.prim .len (.cons (.var 1) .nil)) (.int 1)) .nil))))) (.cons (.ret (.bool false)) .nil) .nil) (.cons (.assign 3 (.var 4)) .nil))) (.cons (.ret (.cmp .Eq (.prim .max1 (.cons (.call 2 (.cons (.var 0) (.cons (.comp1 (.idx (.var 2) (.var 0)) (.of (.var 2)) .none) .nil))) .nil)) (.int 0))) .nil)))⟩

/-- a thing that is a hanging of the net -/
inductive IsH (H : AHeap) (n : Nat) (E : List (Nat × Nat)) (v : AV) : Prop
  | mk (q : Nat) (S : List Nat) (hv : v = .ref q) (hq : H[q]? = some (.list (S.map natV))) (hr : Ris E.length n S) (hc : AllC (n + 1) (pick E S)) : IsH H n E v
/-- a thing that may be asked of -/
inductive Ask (H : AHeap) (v : AV) : Prop
  | other (h : isListK v H = some false) (h' : ∀ q xs, v = .ref q → H[q]? ≠ some (.list xs)) : Ask H v
  | list (q : Nat) (xs : List AV) (hv : v = .ref q) (hq : H[q]? = some (.list xs)) (hx : ∀ x ∈ xs, plainV x = true) : Ask H v
inductive MaxE (strF : PyData → Option Str) (sc : List Int) (H : AHeap) (r : Nat) (F : List Nat) : Prop
  | mk (M : Int) (e : prim strF sc .max1 [.ref r] H = .ok (.int M) H) (h : M = 0 ↔ ∀ x ∈ F, x = 0) : MaxE strF sc H r F
inductive IhI (H : AHeap) (n r q : Nat) (E : List (Nat × Nat)) (xs : List AV) (k : Nat) (ρ : AEnv) (H' : AHeap) : Prop
  | mk (S : List Nat) (x4 : Option AV) (hρ : ρ = [some (.int (n + 1 : Nat)), some (.ref r), some (.ref q), some (.int ((lst S : Int) - 1)), x4]) (hH : H' = H) (hS : xs.take k = S.map natV) (hr : Ris E.length S.length S) : IhI H n r q E xs k ρ H'
end
end Mine

namespace Mine
open PySem

noncomputable def fn_29 : FnI := ⟨2, 4, .cons (.ite (.cmp .Eq (.idx (.idx (.var 1) (.int 0)) (.int 0)) (.idx (.idx (.var 1) (.int 0)) (.int 1))) (.cons (.ret (.int 0)) .nil) .nil) (.cons (.assigns [2, 3] (.call 17 (.cons (.var 0) (.cons (.var 1) (.cons (.int 0) .nil))))) (.cons (.ret (.call 23 (.cons (.var 2) (.cons (.var 3) .nil)))) .nil))⟩
noncomputable def fn_30 : FnI := ⟨3, 7, .cons (.expr (.call 1 (.cons (.var 0) (.cons (.var 1) .nil)))) (.cons (.ite (.not (.call 0 (.cons (.var 2) (.cons (.int 0) (.cons (.bin .Sub (.call 23 (.cons (.var 0) (.cons (.var 1) .nil))) (.int 1)) .nil))))) (.cons (.raise 5 "no hanging has that number") .nil) .nil) (.cons (.assign 3 (.list .nil)) (.cons (.assign 4 (.prim .list (.cons (.var 1) .nil))) (.cons (.for1 5 (.range1 (.prim .len (.cons (.var 1) .nil))) (.cons (.assign 6 (.call 29 (.cons (.var 0) (.cons (.var 4) .nil)))) (.cons (.ite (.cmp .Lt (.var 2) (.var 6)) (.cons (.expr (.append (.var 3) (.var 5))) (.cons (.assigns [0, 4] (.call 17 (.cons (.var 0) (.cons (.var 4) (.cons (.int 0) .nil))))) .nil)) (.cons (.assign 2 (.bin .Sub (.var 2) (.var 6))) (.cons (.assign 4 (.slice (.var 4) (.some (.int 1)) .none)) .nil))) .nil))) (.cons (.ret (.var 3)) .nil)))))⟩
noncomputable def fn_31 : FnI := ⟨3, 6, .cons (.expr (.call 1 (.cons (.var 0) (.cons (.var 1) .nil)))) (.cons (.ite (.not (.call 25 (.cons (.var 0) (.cons (.var 1) (.cons (.var 2) .nil))))) (.cons (.raise 4 "no hanging") .nil) .nil) (.cons (.assign 3 (.int 0)) (.cons (.assign 4 (.prim .list (.cons (.var 1) .nil))) (.cons (.for1 5 (.range1 (.prim .len (.cons (.var 1) .nil))) (.cons (.ite (.cmp .In (.var 5) (.var 2)) (.cons (.assigns [0, 4] (.call 17 (.cons (.var 0) (.cons (.var 4) (.cons (.int 0) .nil))))) .nil) (.cons (.assign 3 (.bin .Add (.var 3) (.call 29 (.cons (.var 0) (.cons (.var 4) .nil))))) (.cons (.assign 4 (.slice (.var 4) (.some (.int 1)) .none)) .nil))) .nil)) (.cons (.ret (.var 3)) .nil)))))⟩

structure DefsT (P : Nat → Option FnI) : Prop where
  h0 : P 0 = some fn_0
  h1 : P 1 = some fn_1
  h19 : P 19 = some fn_19
  h20 : P 20 = some fn_20
  h21 : P 21 = some fn_21
  h23 : P 23 = some fn_23
structure DefsN (P : Nat → Option FnI) : Prop extends DefsT P where
  h2 : P 2 = some fn_2
  h14 : P 14 = some fn_14
  h16 : P 16 = some fn_16
  h17 : P 17 = some fn_17
  h25 : P 25 = some fn_25
  h29 : P 29 = some fn_29
  h30 : P 30 = some fn_30
  h31 : P 31 = some fn_31

section
variable {strF : PyData → Option Str} {sc : List Int} {P : Nat → Option FnI} {H H0 H1 H2 H3 : AHeap} {n m b : Nat} {ρ : AEnv} {cf : Nat → List AV → AHeap → Res AV} {N : AEnv → AHeap → Prop} {R : AV → AHeap → Prop} {K K' : AV → AHeap → Prop} {x y : PE} {es : PEs} {ss : PSs} {v w : AV} {vs : List AV}

inductive HoI (H0 : AHeap) (r k : Nat) (S : List Nat) (t : Nat) (ρ : AEnv) (H : AHeap) : Prop
  | mk (n j rf rl : Nat) (F S' : List Nat) (L : List (Nat × Nat)) (x5 x6 : Option AV) (hρ : ρ = [some (.int (n + 1 : Nat)), some (.ref r), some (.int j), some (.ref rf), some (.ref rl), x5, x6]) (hp : H0 <+: H) (hf : H[rf]? = some (.list (F.map natV))) (hT : TL H rl L)
    (hge : H0.length ≤ rf) (hne : rf ≠ rl) (hn : n + 1 ≤ 7) (hok : okT (n + 1) L) (hl : L.length + t = k) (hS' : (hang L.length n L)[j]? = some S') (hS : S = F ++ shift t S') (hF : F.length ≤ t) : HoI H0 r k S t ρ H
theorem list_ok' {r : Nat} {xs : List AV} (h : H[r]? = some (.list xs)) (hl : xs.length ≤ 1000) : prim strF sc .list [.ref r] H = .ok (.ref H.length) (H ++ [.list xs]) := by
  rw [p_list, i_ref, h]; exact allocK hl
theorem get_ne {r q : Nat} {o p : AObj} (h : H[r]? = some o) (hne : q ≠ r) : (H.set q p)[r]? = some o := by rw [List.getElem?_set_ne hne]; exact h
theorem lt_len {r : Nat} {o : AObj} (h : H[r]? = some o) : r < H.length := (List.getElem?_eq_some_iff.mp h).1

end
end Mine

namespace Mine
open PySem

/-! shares -/
noncomputable def fn_9 : FnI := ⟨1, 1, .cons (.ret (.and (.cons (.prim .isInt (.cons (.var 0) .nil)) (.cons (.not (.prim .isBool (.cons (.var 0) .nil))) .nil)))) .nil⟩
noncomputable def fn_32 : FnI := ⟨3, 5, .cons (.ite (.cmp .Eq (.idx (.idx (.var 1) (.var 2)) (.int 0)) (.idx (.idx (.var 1) (.var 2)) (.int 1))) (.cons (.ret (.int 0)) .nil) .nil) (.cons (.assigns [3, 4] (.call 17 (.cons (.var 0) (.cons (.var 1) (.cons (.var 2) .nil))))) (.cons (.ret (.call 23 (.cons (.var 3) (.cons (.var 4) .nil)))) .nil))⟩
noncomputable def fn_33 : FnI := ⟨2, 2, .cons (.expr (.call 1 (.cons (.var 0) (.cons (.var 1) .nil)))) (.cons (.ret (.comp1 (.call 32 (.cons (.var 1) (.cons (.var 2) (.cons (.var 0) .nil)))) (.range1 (.prim .len (.cons (.var 1) .nil))) .none)) .nil)⟩
noncomputable def fn_73 : FnI := ⟨3, 5, .cons (.assign 3 (.call 61 (.cons (.var 0) (.cons (.var 1) .nil)))) (.cons (.for1 4 (.range1 (.prim .len (.cons (.var 1) .nil))) (.cons (.ite (.cmp .NotEq (.idx (.var 2) (.var 4)) (.prim .len (.cons (.comp1 (.var 0) (.of (.var 3)) (.some (.cmp .In (.var 5) (.var 0)))) .nil))) (.cons (.ret (.bool false)) .nil) .nil) .nil)) (.cons (.ret (.bool true)) .nil))⟩
structure DefsS (P : Nat → Option FnI) : Prop extends DefsT P where
  h14 : P 14 = some fn_14
  h16 : P 16 = some fn_16
  h17 : P 17 = some fn_17
  h32 : P 32 = some fn_32
  h33 : P 33 = some fn_33

section
variable {strF : PyData → Option Str} {sc : List Int} {P : Nat → Option FnI} {H H0 H1 H2 H3 : AHeap} {n m b : Nat} {ρ : AEnv} {cf : Nat → List AV → AHeap → Res AV} {N : AEnv → AHeap → Prop} {R : AV → AHeap → Prop} {K K' : AV → AHeap → Prop} {x y : PE} {es : PEs} {ss : PSs} {v w : AV} {vs : List AV}

inductive RowR (H : AHeap) (k : Nat) (f : Nat → Int) (v : AV) (H' : AHeap) : Prop
  | mk (r : Nat) (hv : v = .ref r) (hr : H'[r]? = some (.list (rowL k f))) (hp : H <+: H') (hge : H.length ≤ r) : RowR H k f v H'

inductive SmI (H0 : AHeap) (n r rs ra k : Nat) (ρ : AEnv) (H : AHeap) : Prop
  | mk (x4 : Option AV) (hρ : ρ = [some (.int (n + 1 : Nat)), some (.ref r), some (.ref rs), some (.ref ra), x4]) (hp : H0 <+: H) : SmI H0 n r rs ra k ρ H
end
end Mine

namespace Mine
open PySem

noncomputable def fn_74 : FnI := ⟨1, 13, .cons (.assign 1 (.cmp .Eq (.bin .Mod (.call 6 (.cons (.var 0) (.cons (.int 3) .nil))) (.int 2)) (.int 1))) (.cons (.assigns [2, 3] (.call 8 (.cons (.var 0) (.cons (.idx (.list (.cons (.int 6) (.cons (.int 5) .nil))) (.prim .int (.cons (.var 1) .nil))) (.cons (.idx (.list (.cons (.int 10) (.cons (.int 8) .nil))) (.prim .int (.cons (.var 1) .nil))) .nil))))) (.cons (.assign 4 (.prim .list (.cons (.var 3) .nil))) (.cons (.assign 5 (.call 33 (.cons (.var 2) (.cons (.var 4) .nil)))) (.cons (.ite (.or (.cons (.not (.prim .isList (.cons (.var 5) .nil))) (.cons (.cmp .NotEq (.prim .len (.cons (.var 5) .nil)) (.prim .len (.cons (.var 3) .nil))) .nil))) (.cons (.ret (.bool false)) .nil) .nil) (.cons (.ite (.not (.prim .all (.cons (.comp1 (.call 9 (.cons (.var 0) .nil)) (.of (.var 5)) .none) .nil))) (.cons (.ret (.bool false)) .nil) .nil) (.cons (.ite (.and (.cons (.var 1) (.cons (.not (.call 73 (.cons (.var 2) (.cons (.var 3) (.cons (.var 5) .nil))))) .nil))) (.cons (.ret (.bool false)) .nil) .nil) (.cons (.assign 7 (.call 24 (.cons (.var 2) (.cons (.var 4) .nil)))) (.cons (.ite (.or (.cons (.cmp .NotEq (.prim .sum (.cons (.var 5) .nil)) (.bin .Mult (.var 7) (.bin .Sub (.var 2) (.int 1)))) (.cons (.cmp .NotEq (.var 4) (.var 3)) .nil))) (.cons (.ret (.bool false)) .nil) .nil) (.cons (.for1 8 (.range1 (.prim .min2 (.cons (.int 3) (.cons (.prim .len (.cons (.var 3) .nil)) .nil)))) (.cons (.assign 9 (.bin .Mod (.bin .Add (.call 6 (.cons (.var 0) (.cons (.int 30) .nil))) (.bin .Mult (.var 8) (.bin .Add (.int 1) (.bin .FloorDiv (.prim .len (.cons (.var 3) .nil)) (.int 3))))) (.prim .len (.cons (.var 3) .nil)))) (.cons (.assign 10 (.call 24 (.cons (.var 2) (.cons (.bin .Add (.slice (.var 3) .none (.some (.var 9))) (.slice (.var 3) (.some (.bin .Add (.var 9) (.int 1))) .none)) .nil)))) (.cons (.assigns [6, 11] (.idx (.var 3) (.var 9))) (.cons (.ite (.cmp .NotEq (.idx (.var 5) (.var 9)) (.bin .Mult (.bin .Sub (.var 7) (.var 10)) (.prim .int (.cons (.cmp .NotEq (.var 6) (.var 11)) .nil)))) (.cons (.ret (.bool false)) .nil) .nil) .nil))))) (.cons (.assign 12 (.prim .list (.cons (.var 5) .nil))) (.cons (.expr (.append (.var 5) (.int 1))) (.cons (.ret (.or (.cons (.not (.var 1)) (.cons (.cmp .Eq (.call 33 (.cons (.var 2) (.cons (.var 4) .nil))) (.var 12)) .nil)))) .nil))))))))))))⟩

structure Defs12 (P : Nat → Option FnI) : Prop extends DefsS P where
  h5 : P 5 = some fn_5
  h6 : P 6 = some fn_6
  h7 : P 7 = some fn_7
  h8 : P 8 = some fn_8
  h9 : P 9 = some fn_9
  h10 : P 10 = some fn_10
  h24 : P 24 = some fn_24
  h54 : P 54 = some fn_54
  h60 : P 60 = some fn_60
  h61 : P 61 = some fn_61
  h73 : P 73 = some fn_73
  h74 : P 74 = some fn_74

section
variable {strF : PyData → Option Str} {sc : List Int} {P : Nat → Option FnI} {H H0 H1 H2 H3 : AHeap} {n m b : Nat} {ρ : AEnv} {cf : Nat → List AV → AHeap → Res AV} {N : AEnv → AHeap → Prop} {R : AV → AHeap → Prop} {K K' : AV → AHeap → Prop} {x y : PE} {es : PEs} {ss : PSs} {v w : AV} {vs : List AV}

/-- what _law_whole answers of an int -/
theorem wholeT (h9 : P 9 = some fn_9) {i : Int} : callF strF P sc (m + 1) 9 [.int i] H = .ok (.bool true) H :=
  sat_eq (s_call h9 rfl (s_ret (v_and (a_true (v_prim (vs_cons (v_var rfl) vs_nil) (isInt_ofK rfl)) (a_one (v_notT (v_prim (vs_cons (v_var rfl) vs_nil) (isBool_ofK rfl)))))) ⟨rfl, rfl⟩))
theorem boolsT {α : Type} : ∀ (l : List α), boolsOf (l.map fun _ => AV.bool true) = some (l.map fun _ => true)
  | [] => rfl
  | x :: l => by
    show (boolsOf (l.map fun _ => AV.bool true)).map _ = _
    rw [boolsT l]; rfl
theorem all_trueL {α : Type} {r : Nat} {l : List α} (h : H[r]? = some (.list (l.map fun _ => AV.bool true))) : prim strF sc .all [.ref r] H = .ok (.bool true) H := by
  rw [p_all, h]
  simp only [boolsT]
  rw [show (l.map fun _ => true).all id = true from List.all_eq_true.mpr fun x hx => by obtain ⟨_, _, rfl⟩ := List.mem_map.mp hx; rfl]
/-- all of a list of ints are whole -/
theorem all_whole {j q k : Nat} {f : Nat → Int} (h9 : P 9 = some fn_9) (hk : k ≤ 1000) (hq : H[q]? = some (.list (rowL k f))) (hj : ρ[j]? = some (some (.ref q))) :
    denT strF (callF strF P sc (m + 1)) sc b (.prim .all (.cons (.comp1 (.call 9 (.cons (.var 0) .nil)) (.of (.var j)) .none) .nil)) ρ H = .ok true (H ++ [.list ((List.range k).map fun _ => AV.bool true)]) :=
  t_prim (vs_cons (v_comp1 (i_ofR (v_var hj) hq) (comp_map (g := fun i => AV.int (f i)) (f := fun _ => AV.bool true) (one_w hq) (List.range k) fun a _ => k_none1 (v_call (vs_cons (v_var rfl) vs_nil) (wholeT h9))) (allocK (by rw [List.length_map, List.length_range]; exact hk))) vs_nil) (all_trueL (last_get _ _))
inductive TuI (H0 : AHeap) (c : Bool) (n r rh rs : Nat) (x7 : Int) (k : Nat) (ρ : AEnv) (H : AHeap) : Prop
  | mk (x6 x8 x9 x10 x11 x12 : Option AV) (hρ : ρ = [some .scr, some (.bool c), some (.int (n + 1 : Nat)), some (.ref r), some (.ref rh), some (.ref rs), x6, some (.int x7), x8, x9, x10, x11, x12]) (hp : H0 <+: H) : TuI H0 c n r rh rs x7 k ρ H

end
end Mine

namespace Mine
open PySem

/-! parts -/
noncomputable def castL (l : List Nat) : List Int := l.map fun (p : Nat) => (p : Int)
theorem castL_pw {l : List Nat} (h : l.Pairwise (· < ·)) : (castL l).Pairwise (· < ·) := List.pairwise_map.mpr (h.imp fun q => Int.ofNat_lt.mpr q)
theorem mem_castL {l : List Nat} {x : Int} : x ∈ castL l ↔ ∃ p ∈ l, (p : Int) = x := List.mem_map
theorem range_pw (n : Nat) : (List.range n).Pairwise (· < ·) := List.pairwise_lt_range
/-- the places that a place hangs together with -/
noncomputable def partOf (n : Nat) (L : List Nat) (o : Nat) : List Nat := (List.range n).filter fun p => decide (L.getD p 0 = o)
noncomputable def leasts (n : Nat) (L : List Nat) : List Nat := (List.range n).filter fun p => decide (L.getD p 0 = p)
theorem dedup_labels {n : Nat} {E : List (Nat × Nat)} {L : List Nat} (l : Lab n E L) : dedupSorted (sortI (castL L)) = castL (leasts n L) := by
  obtain ⟨d1, d2⟩ := dedup_spec (pw_sortI (castL L))
  refine strict_same d1 (castL_pw ((range_pw n).filter _)) fun x => ?_
  rw [d2, mem_sortI, mem_castL, mem_castL]
  constructor
  · rintro ⟨p, hp, rfl⟩
    refine ⟨p, ?_, rfl⟩
    obtain ⟨i, hi⟩ := List.mem_iff_getElem?.mp hp
    have hin : i < n := l.len ▸ (List.getElem?_eq_some_iff.mp hi).1
    have e : L.getD i 0 = p := by rw [List.getD_eq_getElem?_getD, hi]; rfl
    obtain ⟨a1, a2⟩ := l.lt i hin
    rw [e] at a1 a2
    exact List.mem_filter.mpr ⟨List.mem_range.mpr a1, decide_eq_true (by rw [← l.eq hin a1 a2, e])⟩
  · rintro ⟨p, hp, rfl⟩
    obtain ⟨a1, a2⟩ := List.mem_filter.mp hp
    have hpn := List.mem_range.mp a1
    refine ⟨p, ?_, rfl⟩
    have e := of_decide_eq_true a2
    have hpl : p < L.length := by rw [l.len]; exact hpn
    rw [List.getD_eq_getElem?_getD, List.getElem?_eq_getElem hpl] at e
    have e' : L[p] = p := e
    rw [← e']
    exact List.getElem_mem ..
/-- what is reached from o, in order -/
theorem sort_reached {n o : Nat} {E : List (Nat × Nat)} {L F : List Nat} (l : Lab n E L) (ho : o < n) (nd : F.Nodup) (lt : ∀ p ∈ F, p < n) (hF : ∀ p, p < n → (p ∈ F ↔ Conn E o p)) : sortI (castL F) = castL (partOf n L (L.getD o 0)) := by
  have hnd : (sortI (castL F)).Nodup := by
    have ins : ∀ (x : Int) (l : List Int), x ∉ l → l.Nodup → (insertI x l).Nodup := by
      intro x l
      induction l with
      | nil => intro _ _; unfold insertI; simp
      | cons y l ih =>
        intro hx hd
        obtain ⟨d1, d2⟩ := List.nodup_cons.mp hd
        have hx' : x ≠ y ∧ x ∉ l := by simpa using hx
        unfold insertI
        split
        · exact List.nodup_cons.mpr ⟨hx, hd⟩
        · refine List.nodup_cons.mpr ⟨fun m => ?_, ih hx'.2 d2⟩
          rcases mem_insertI.mp m with e | m
          · exact hx'.1 e.symm
          · exact d1 m
    have : ∀ (G : List Nat), G.Nodup → (sortI (castL G)).Nodup := by
      intro G
      induction G with
      | nil => intro _; exact .nil
      | cons x G ih =>
        intro hd
        obtain ⟨d1, d2⟩ := List.nodup_cons.mp hd
        refine ins x (sortI (castL G)) (fun m => d1 ?_) (ih d2)
        obtain ⟨p, hp, e⟩ := mem_castL.mp (mem_sortI.mp m)
        rw [show x = p by (first | lia | omega)]; exact hp
    exact this F nd
  have hs : (sortI (castL F)).Pairwise (· < ·) := by
    have h1 := pw_sortI (castL F)
    exact (h1.and hnd).imp fun q => by (first | lia | omega)
  refine strict_same hs (castL_pw ((range_pw n).filter _)) fun x => ?_
  rw [mem_sortI, mem_castL, mem_castL]
  constructor
  · rintro ⟨p, hp, rfl⟩
    have hpn := lt p hp
    exact ⟨p, List.mem_filter.mpr ⟨List.mem_range.mpr hpn, decide_eq_true (l.eq hpn ho ((hF p hpn).mp hp).symm)⟩, rfl⟩
  · rintro ⟨p, hp, rfl⟩
    obtain ⟨a1, a2⟩ := List.mem_filter.mp hp
    have hpn := List.mem_range.mp a1
    refine ⟨p, (hF p hpn).mpr ?_, rfl⟩
    have e := of_decide_eq_true a2
    exact (l.lt o ho).2.trans (e ▸ (l.lt p hpn).2.symm)
/-- the first of them is the least -/
theorem part_head {n o : Nat} {E : List (Nat × Nat)} {L : List Nat} (l : Lab n E L) (ho : o < n) : ∃ G, partOf n L (L.getD o 0) = L.getD o 0 :: G := by
  have hm : L.getD o 0 ∈ partOf n L (L.getD o 0) := List.mem_filter.mpr ⟨List.mem_range.mpr (l.lt o ho).1, decide_eq_true (l.eq (l.lt o ho).1 ho (l.lt o ho).2.symm)⟩
  have hpw : (partOf n L (L.getD o 0)).Pairwise (· < ·) := (range_pw n).filter _
  have hle : ∀ p ∈ partOf n L (L.getD o 0), L.getD o 0 ≤ p := fun p hp => by
    obtain ⟨a1, a2⟩ := List.mem_filter.mp hp
    have hpn := List.mem_range.mp a1
    rw [← of_decide_eq_true a2]
    exact l.le p p hpn hpn (.refl _)
  cases e : partOf n L (L.getD o 0) with
  | nil => rw [e] at hm; cases hm
  | cons x G =>
    rw [e] at hm hpw hle
    have h1 := hle x List.mem_cons_self
    rcases List.mem_cons.mp hm with h | h
    · rw [← h]; exact ⟨G, rfl⟩
    · have := (List.pairwise_cons.mp hpw).1 _ h; (first | lia | omega)
noncomputable def parts (n : Nat) (L : List Nat) : List (List Nat) := (leasts n L).map (partOf n L)
end Mine

namespace Mine
open PySem

noncomputable def fn_3 : FnI := ⟨2, 3, .cons (.expr (.call 1 (.cons (.var 0) (.cons (.var 1) .nil)))) (.cons (.assign 2 (.call 2 (.cons (.var 0) (.cons (.var 1) .nil)))) (.cons (.ret (.comp1 (.comp1 (.var 0) (.range1 (.var 1)) (.some (.cmp .Eq (.idx (.var 4) (.var 0)) (.var 1)))) (.of (.sset (.var 2))) .none)) .nil))⟩
noncomputable def fn_4 : FnI := ⟨2, 2, .cons (.ret (.cmp .Eq (.prim .len (.cons (.call 3 (.cons (.var 0) (.cons (.var 1) .nil))) .nil)) (.int 1))) .nil⟩
noncomputable def fn_11 : FnI := ⟨2, 5, .cons (.assign 2 (.list .nil)) (.cons (.for1 3 (.range1 (.var 0)) (.cons (.assign 4 (.call 10 (.cons (.var 0) (.cons (.var 1) (.cons (.var 3) .nil))))) (.cons (.ite (.cmp .Eq (.idx (.var 4) (.int 0)) (.var 3)) (.cons (.expr (.append (.var 2) (.var 4))) .nil) .nil) .nil))) (.cons (.ret (.var 2)) .nil))⟩
noncomputable def fn_12 : FnI := ⟨1, 8, .cons (.assigns [1, 2] (.call 8 (.cons (.var 0) (.cons (.int 7) (.cons (.int 16) .nil))))) (.cons (.assign 3 (.prim .list (.cons (.var 2) .nil))) (.cons (.ite (.cmp .IsNot (.call 1 (.cons (.var 1) (.cons (.var 3) .nil))) .none) (.cons (.ret (.bool false)) .nil) .nil) (.cons (.assign 4 (.call 11 (.cons (.var 1) (.cons (.var 2) .nil)))) (.cons (.assign 5 (.call 3 (.cons (.var 1) (.cons (.var 3) .nil)))) (.cons (.ite (.or (.cons (.not (.prim .isList (.cons (.var 5) .nil))) (.cons (.cmp .NotEq (.var 5) (.var 4)) .nil))) (.cons (.ret (.bool false)) .nil) .nil) (.cons (.for1 6 (.of (.var 5)) (.cons (.ite (.or (.cons (.not (.prim .isList (.cons (.var 6) .nil))) (.cons (.not (.prim .all (.cons (.comp1 (.call 9 (.cons (.var 0) .nil)) (.of (.var 6)) .none) .nil))) .nil))) (.cons (.ret (.bool false)) .nil) .nil) (.cons (.expr (.append (.var 6) (.int 99))) .nil))) (.cons (.expr (.append (.var 5) (.list .nil))) (.cons (.assign 7 (.call 4 (.cons (.var 1) (.cons (.var 3) .nil)))) (.cons (.ret (.and (.cons (.prim .isBool (.cons (.var 7) .nil)) (.cons (.cmp .Eq (.var 7) (.cmp .Eq (.prim .len (.cons (.var 4) .nil)) (.int 1))) (.cons (.cmp .Eq (.var 3) (.var 2)) (.cons (.cmp .Eq (.call 3 (.cons (.var 1) (.cons (.var 3) .nil))) (.var 4)) .nil)))))) .nil)))))))))⟩
structure Defs01 (P : Nat → Option FnI) : Prop where
  h0 : P 0 = some fn_0
  h1 : P 1 = some fn_1
  h2 : P 2 = some fn_2
  h3 : P 3 = some fn_3
  h4 : P 4 = some fn_4
  h5 : P 5 = some fn_5
  h6 : P 6 = some fn_6
  h7 : P 7 = some fn_7
  h8 : P 8 = some fn_8
  h9 : P 9 = some fn_9
  h10 : P 10 = some fn_10
  h11 : P 11 = some fn_11
  h12 : P 12 = some fn_12

section
variable {strF : PyData → Option Str} {sc : List Int} {P : Nat → Option FnI} {H H0 H1 H2 H3 : AHeap} {n m b : Nat} {ρ : AEnv} {cf : Nat → List AV → AHeap → Res AV} {N : AEnv → AHeap → Prop} {R : AV → AHeap → Prop} {K K' : AV → AHeap → Prop} {x y : PE} {es : PEs} {ss : PSs} {v w : AV} {vs : List AV}

theorem p_sortedSet {r : Nat} : prim strF sc .sortedSet [.ref r] H = (match H[r]? with
      | some (.list xs) => if xs.length < 64 then (match intsOf xs with
          | some is => alloc ((dedupSorted (sortI is)).map .int) H
          | none => .bad) else .bad
      | _ => .bad) := rfl
theorem cast_natV (F : List Nat) : (castL F).map AV.int = F.map natV := by unfold castL; rw [List.map_map]; rfl
theorem sortedSet_ok {r : Nat} {E : List (Nat × Nat)} {L : List Nat} (l : Lab n E L) (hn : n ≤ 7) (h : H[r]? = some (.list (L.map natV))) : prim strF sc .sortedSet [.ref r] H = .ok (.ref H.length) (H ++ [.list ((leasts n L).map natV)]) := by
  rw [p_sortedSet, h]
  show (if (L.map natV).length < 64 then _ else _) = _
  rw [if_pos (by rw [List.length_map, l.len]; (first | lia | omega)), intsOf_nats]
  show alloc ((dedupSorted (sortI (castL L))).map .int) H = _
  rw [dedup_labels l, cast_natV]
  refine allocK ?_
  rw [List.length_map]
  exact Nat.le_trans (List.length_filter_le ..) (by rw [List.length_range]; (first | lia | omega))

/-- what parts_of answers -/
theorem parts_spec (D : Defs01 P) {r : Nat} {E : List (Nat × Nat)} (h1 : 1 ≤ n) (hn : n ≤ 7) (hT : TL H r E) (hl : E.length ≤ 16) (hok : okT n E) : (callF strF P sc (m + 3) 3 [.int n, .ref r] H).sat (FaR H (parts n (labs n E))) := by
  have nd := need_new (strF := strF) (sc := sc) (m := m) D.h0 D.h1 h1 hn hT hl hok
  obtain ⟨v, H1, e1, rl, rfl, hrl, hp1, hg1⟩ := Res.sat_ex (labels_spec (strF := strF) (sc := sc) (m := m + 1) D.h2 hn hT hok)
  have l := lab_labs hok
  generalize labs n E = L at hrl l
  have p2 := pre_app H1 [.list ((leasts n L).map natV)]
  refine s_call D.h3 rfl (s_expr (v_call (vs_cons (v_var rfl) (vs_cons (v_var rfl) vs_nil)) nd) (s_assign (v_call (vs_cons (v_var rfl) (vs_cons (v_var rfl) vs_nil)) e1) (s_retS (Res.sat_mono (e_comp (H := H1) (l := leasts n L) (g := natV) (f := partOf n L) (i_ofR (v_sset (v_var rfl) (sortedSet_ok l hn hrl)) (last_get _ _)) p2 (one_w (last_get _ _)) ?_ ?_) ?_))))
  · exact Nat.le_trans (List.length_filter_le ..) (by rw [List.length_range]; (first | lia | omega))
  · intro o ho H' p
    refine e_ok (v_comp1 (i_rangeN (k := n) (v_var rfl) (by (first | lia | omega))) (comp_filter (c := fun p => decide (L.getD p 0 = o)) (f := natV) no_w (List.range n) fun q hq => ?_) (allocK ?_)) ⟨_, rfl, last_get _ _, pre_app _ _, Nat.le_refl _⟩
    · have hqn := List.mem_range.mp hq
      have hrl' := get_pre (p2.trans p) hrl
      by_cases h : L.getD q 0 = o
      · rw [decide_eq_true h]
        exact k_true (t_cmp (v_idx (v_var rfl) (v_var rfl) (item_nat hrl' (by rw [l.len]; exact hqn))) (v_var rfl) (eqT (by rw [h]))) (v_var rfl)
      · rw [decide_eq_false h]
        exact k_false (t_cmp (v_idx (v_var rfl) (v_var rfl) (item_nat hrl' (by rw [l.len]; exact hqn))) (v_var rfl) (eqF fun q => h (Int.ofNat.inj q)))
    · rw [List.length_map]
      exact Nat.le_trans (List.length_filter_le ..) (by rw [List.length_range]; (first | lia | omega))
  · rintro v H2 ⟨r2, qs, rfl, a1, a2, a3, a4, a5⟩
    exact ⟨r2, qs, rfl, a1, a2, hp1.trans a3, Nat.le_trans hp1.length_le a4, fun q hq => Nat.le_trans hp1.length_le (a5 q hq)⟩

theorem appendRef {r q : Nat} {qs : List Nat} (h : H[r]? = some (.list (qs.map .ref))) (hge : b ≤ r) (hl : qs.length < 1000) : appendTo b (.ref r) (.ref q) H = .ok .none (H.set r (.list ((qs ++ [q]).map .ref))) := by
  unfold appendTo
  simp only [h]
  rw [if_pos ⟨hge, by rw [List.length_map]; exact Nat.lt_of_lt_of_le hl (by decide)⟩, List.map_append]; rfl
/-- a list is turned that is none of these -/
theorem Fa.set {r : Nat} {o : AObj} {qs : List Nat} {Ss : List (List Nat)} (h : Fa H qs Ss) (hne : ∀ q ∈ qs, r ≠ q) : Fa (H.set r o) qs Ss := by
  induction h with
  | nil => exact .nil
  | cons h r ih => exact .cons (get_ne h (hne _ List.mem_cons_self)) (ih fun q hq => hne q (List.mem_cons_of_mem _ hq))
inductive LpI (H0 : AHeap) (n r : Nat) (L : List Nat) (k : Nat) (ρ : AEnv) (H : AHeap) : Prop
  | mk (qs : List Nat) (x3 x4 : Option AV) (hρ : ρ = [some (.int n), some (.ref r), some (.ref H0.length), x3, x4]) (hr : H[H0.length]? = some (.list (qs.map .ref))) (hf : Fa H qs (((List.range k).filter fun p => decide (L.getD p 0 = p)).map (partOf n L))) (hp : H0 <+: H) (hq : ∀ q ∈ qs, H0.length < q) : LpI H0 n r L k ρ H
/-- what _law_parts answers -/
theorem lawparts_spec (h10 : P 10 = some fn_10) (h11 : P 11 = some fn_11) {r : Nat} {E : List (Nat × Nat)} (hn : n ≤ 7) (hT : TL H r E) (hok : okT n E) : (callF strF P sc (m + 2) 11 [.int n, .ref r] H).sat (FaR H (parts n (labs n E))) := by
  have l := lab_labs hok
  generalize labs n E = L at l
  refine s_call h11 rfl (s_assign (v_list vs_nil (allocK (by simp))) (s_for1 (i_range1 (v_var rfl) (inR_N (k := n) (by (first | lia | omega)))) (forN (LpI H n r L) ⟨[], _, _, rfl, last_get _ _, .nil, pre_app _ _, fun q hq => (by cases hq)⟩ ?_ ?_)))
  · rintro k ρ H1 hk ⟨qs, x3, x4, rfl, hr, hf, hp, hq⟩
    obtain ⟨v, H2, e2, r2, F, rfl, hr2, hp2, hg2, nd, lt, hF⟩ := Res.sat_ex (reach_spec (strF := strF) (sc := sc) (m := m) (s := k) h10 hn (get_pre hp hT) hok hk)
    have es := sort_reached l hk nd lt hF
    rw [show (F.map fun (p : Nat) => (p : Int)) = castL F from rfl, es, cast_natV] at hr2
    obtain ⟨G, hG⟩ := part_head l hk
    have hrr := get_pre hp2 hr
    have hql : qs.length ≤ 7 := by
      rw [hf.length, List.length_map]
      exact Nat.le_trans (List.length_filter_le ..) (by rw [List.length_range]; (first | lia | omega))
    have it := item_ref (sc := sc) (k := 0) (x := natV (L.getD k 0)) hr2 (by rw [hG]; rfl)
    have hlt : H.length < H1.length := lt_len hr
    refine s_assign (v_call (vs_cons (v_var rfl) (vs_cons (v_var rfl) (vs_cons (v_var rfl) vs_nil))) e2) ?_
    by_cases h : L.getD k 0 = k
    · refine s_iteT (t_cmp (v_idx (v_var rfl) v_int it) (v_var rfl) (eqT (by rw [h]))) (s_expr (v_append (v_var rfl) (isL_of hrr) (v_var rfl) (appendRef hrr (Nat.le_refl _) (by (first | lia | omega)))) (s_nil (s_nil ⟨qs ++ [r2], _, _, rfl, set_top ⟨_, hrr⟩, ?_, prefix_set (hp.trans hp2) (Nat.le_refl _), ?_⟩)))
      · rw [List.range_succ, List.filter_append, List.filter_cons_of_pos (by simpa using h), List.map_append (f := partOf n L)]
        refine ((hf.grow hp2).set fun q hq' => Nat.ne_of_lt (hq q hq')).app (.cons (S := partOf n L k) (get_ne ?_ (show H.length ≠ r2 by (first | lia | omega))) .nil)
        rw [hr2, h]
      · intro q hq'
        rcases List.mem_append.mp hq' with h | h
        · exact hq q h
        · simp at h; (first | lia | omega)
    · refine s_skip (t_cmp (v_idx (v_var rfl) v_int it) (v_var rfl) (eqF fun q => h (Int.ofNat.inj q))) (s_nil ⟨qs, _, _, rfl, hrr, ?_, hp.trans hp2, hq⟩)
      rw [List.range_succ, List.filter_append, List.filter_cons_of_neg (by simpa using h)]
      show Fa H2 qs (List.map _ (_ ++ []))
      rw [List.append_nil]
      exact hf.grow hp2
  · rintro ρ H1 ⟨qs, x3, x4, rfl, hr, hf, hp, hq⟩
    exact s_ret (v_var rfl) ⟨_, qs, rfl, hr, hf, hp, Nat.le_refl _, fun q hq' => Nat.le_of_lt (hq q hq')⟩
end
end Mine

namespace Mine
open PySem

noncomputable def natsD (S : List Nat) : PyData := .list (S.map fun (p : Nat) => PyData.int p)
theorem rd_refs {H : AHeap} {d : Nat} : ∀ {qs : List Nat} {Ss : List (List Nat)}, Fa H qs Ss → (qs.map AV.ref).mapM (rd H (d + 1)) = some (Ss.map natsD)
  | _, _, .nil => rfl
  | _, _, .cons h r => by
    rw [List.map_cons, List.mapM_cons, rd_nats h, rd_refs r]; rfl
theorem rd_lists {H : AHeap} {r d : Nat} {qs : List Nat} {Ss : List (List Nat)} (hr : H[r]? = some (.list (qs.map .ref))) (h : Fa H qs Ss) : rd H (d + 2) (.ref r) = some (.list (Ss.map natsD)) := by
  show (match H[r]? with
      | some (.list xs) => (xs.mapM (rd H (d + 1))).map PyData.list
      | _ => none) = _
  rw [hr]
  simp only [rd_refs h, Option.map_some]
theorem eqvAll_lists : ∀ (Ss : List (List Nat)), PyData.eqvAll (Ss.map natsD) (Ss.map natsD) = true
  | [] => rfl
  | S :: Ss => by
    have h : PyData.eqv (natsD S) (natsD S) = true := by
      show PyData.eqvAll (S.map fun (p : Nat) => PyData.int p) (S.map fun (p : Nat) => PyData.int p) = true
      rw [eqvAll_nats]; exact decide_eq_true rfl
    show (PyData.eqv (natsD S) (natsD S) && PyData.eqvAll (Ss.map natsD) (Ss.map natsD)) = true
    rw [h, eqvAll_lists Ss]; rfl
theorem eqOf_lists {H : AHeap} {r q : Nat} {qs ps : List Nat} {Ss : List (List Nat)} (hr : H[r]? = some (.list (qs.map .ref))) (h : Fa H qs Ss) (hq : H[q]? = some (.list (ps.map .ref))) (h' : Fa H ps Ss) : eqOf (.ref r) (.ref q) H = some true := by
  unfold eqOf
  rw [rd_lists (d := 6) hr h, rd_lists (d := 6) hq h']
  show some (PyData.eqvAll (Ss.map natsD) (Ss.map natsD)) = _
  rw [eqvAll_lists]

section
variable {strF : PyData → Option Str} {sc : List Int} {P : Nat → Option FnI} {H H0 H1 H2 H3 : AHeap} {n m b : Nat} {ρ : AEnv} {cf : Nat → List AV → AHeap → Res AV} {N : AEnv → AHeap → Prop} {R : AV → AHeap → Prop} {K K' : AV → AHeap → Prop} {x y : PE} {es : PEs} {ss : PSs} {v w : AV} {vs : List AV}

theorem natL_row (F : List Nat) : F.map natV = rowL F.length fun j => ((F.getD j 0 : Nat) : Int) := by
  refine List.ext_getElem? fun i => ?_
  by_cases h : i < F.length
  · rw [rowL_get h, List.getElem?_map, List.getElem?_eq_getElem h, List.getD_eq_getElem?_getD, List.getElem?_eq_getElem h]; rfl
  · rw [List.getElem?_eq_none (by rw [List.length_map]; (first | lia | omega)), List.getElem?_eq_none (by rw [rowL_length]; (first | lia | omega))]
/-- what hangs answers -/
theorem hangs_spec (D : Defs01 P) {r : Nat} {E : List (Nat × Nat)} (h1 : 1 ≤ n) (hn : n ≤ 7) (hT : TL H r E) (hl : E.length ≤ 16) (hok : okT n E) : (callF strF P sc (m + 4) 4 [.int n, .ref r] H).sat fun v H' => v = .bool (((parts n (labs n E)).length : Int) == 1) ∧ H <+: H' := by
  obtain ⟨v, H1, e1, r1, qs, rfl, hr1, hf1, hp1, hg1, hq1⟩ := Res.sat_ex (parts_spec (strF := strF) (sc := sc) (m := m) D h1 hn hT hl hok)
  exact s_call D.h4 rfl (s_ret (v_cmp (v_prim (vs_cons (v_call (vs_cons (v_var rfl) (vs_cons (v_var rfl) vs_nil)) e1) vs_nil) (len_list hr1)) v_int c_eq) ⟨by rw [List.length_map, hf1.length], hp1⟩)

/-- places are put to the lists that were found: nothing else turns -/
inductive PuI (H0 : AHeap) (n r rh rd rf : Nat) (qs : List Nat) (k : Nat) (ρ : AEnv) (H : AHeap) : Prop
  | mk (x6 x7 : Option AV) (hρ : ρ = [some .scr, some (.int n), some (.ref r), some (.ref rh), some (.ref rd), some (.ref rf), x6, x7]) (hp : H0 <+: H) (hr : H[rf]? = some (.list (qs.map .ref))) (hq : ∀ q ∈ qs, H0.length ≤ q ∧ ∃ F : List Nat, H[q]? = some (.list (F.map natV)) ∧ F.length ≤ 100 + k) : PuI H0 n r rh rd rf qs k ρ H
theorem nat_ne_ref {r q : Nat} {qs : List Nat} {F : List Nat} (hr : H[r]? = some (.list (qs.map .ref))) (hq : H[q]? = some (.list (F.map natV))) (hm : q ∈ qs) : q ≠ r := fun e => by
  subst e
  rw [hr] at hq
  injection hq with hq
  injection hq with hq
  cases qs with
  | nil => cases hm
  | cons a qs => cases F with
    | nil => cases hq
    | cons y F => injection hq with h1 h2; cases h1

theorem law01 (D : Defs01 P) : (callF strF P sc (m + 6) 12 [.scr] []).sat fun v _ => v = .bool true := by
  obtain ⟨v, H1, e1, n, r, E, rfl, hT, hp1, hg1, hl, hok, h1, h2⟩ := Res.sat_ex (net_new (strF := strF) (sc := sc) (P := P) (H := []) (m := m + 1) (most := 7) (room := 16) D.h5 D.h6 D.h7 D.h8 (by decide) (by decide) (by decide) (by decide))
  have p2 := pre_app H1 [.list (E.map tieV)]
  have hh2 : TL (H1 ++ [.list (E.map tieV)]) H1.length E := last_get _ _
  have hT2 : TL (H1 ++ [.list (E.map tieV)]) r E := get_pre p2 hT
  refine s_call D.h12 rfl (s_assigns (v_call (vs_cons (v_var rfl) (vs_cons v_int (vs_cons v_int vs_nil))) e1) rfl (s_assign (v_prim (vs_cons (v_var rfl) vs_nil) (list_ok' hT (by rw [List.length_map]; (first | lia | omega)))) ?_))
  generalize H1 ++ [.list (E.map tieV)] = H2 at p2 hh2 hT2
  have nd := need_new (strF := strF) (sc := sc) (m := m + 3) D.h0 D.h1 h1 h2 hh2 hl hok
  obtain ⟨v, H3, e3, rd, ds, rfl, hrd, hfd, hp3, hgd, hqd⟩ := Res.sat_ex (lawparts_spec (strF := strF) (sc := sc) (m := m + 3) D.h10 D.h11 h2 hT2 hok)
  obtain ⟨v, H4, e4, rf, qs, rfl, hrf, hff, hp4, hgf, hqf⟩ := Res.sat_ex (parts_spec (strF := strF) (sc := sc) (m := m + 2) D h1 h2 (get_pre hp3 hh2) hl hok)
  have hlen : ∀ S ∈ parts n (labs n E), S.length ≤ 7 := fun S hS => by
    obtain ⟨o, _, rfl⟩ := List.mem_map.mp hS
    exact Nat.le_trans (List.length_filter_le ..) (by rw [List.length_range]; exact h2)
  have hsl : (parts n (labs n E)).length ≤ 7 := by
    unfold parts leasts
    rw [List.length_map]
    exact Nat.le_trans (List.length_filter_le ..) (by rw [List.length_range]; exact h2)
  generalize hSs : parts n (labs n E) = Ss at hfd hff hlen hsl
  have hne := c_neR (r := rf) (v := .ref rd) (H := H4)
  rw [eqOf_lists hrf hff (get_pre hp4 hrd) (hfd.grow hp4)] at hne
  have hnone : cmpop .IsNot .none .none H2 = some false := rfl
  refine s_skip (t_cmp (v_call (vs_cons (v_var rfl) (vs_cons (v_var rfl) vs_nil)) nd) v_none hnone) (s_assign (v_call (vs_cons (v_var rfl) (vs_cons (v_var rfl) vs_nil)) e3) (s_assign (v_call (vs_cons (v_var rfl) (vs_cons (v_var rfl) vs_nil)) e4)
    (s_skip (t_or (ot_false (t_notF (t_prim (vs_cons (v_var rfl) vs_nil) (isList_ofK (isListT hrf)))) (ot_false (t_cmp (v_var rfl) (v_var rfl) hne) ot_nil)))
    (s_for1 (i_ofR (v_var rfl) hrf) (forL_list (PuI H3 n r H1.length rd rf qs) ⟨_, _, rfl, hp4, hrf, fun q hq => ⟨hqf q hq, ?_⟩⟩ ?_ ?_)))))
  · obtain ⟨i, hi⟩ := List.mem_iff_getElem?.mp hq
    obtain ⟨S, hS, hqS⟩ := hff.get hi
    have := hlen S (List.mem_of_getElem? hS)
    exact ⟨S, hqS, by (first | lia | omega)⟩
  · rintro k v ρ H5 hk ⟨x6, x7, rfl, hp, hr5, hq5⟩
    obtain ⟨q, hq, rfl⟩ := refs_get hk
    have hkl : k < 7 := by
      have h1 := (List.getElem?_eq_some_iff.mp hq).1
      have h2 := hff.length
      (first | lia | omega)
    have hm := List.mem_of_getElem? hq
    obtain ⟨hge, F, hqF, hFl⟩ := hq5 q hm
    have hqR := hqF
    rw [natL_row F] at hqR
    have aw := all_whole (strF := strF) (sc := sc) (m := m + 4) (b := 0) (j := 6) (ρ := [some .scr, some (.int n), some (.ref r), some (.ref H1.length), some (.ref rd), some (.ref rf), some (.ref q), x7]) D.h9 (by (first | lia | omega)) hqR rfl
    have p6 := pre_app H5 [.list ((List.range F.length).map fun _ => AV.bool true)]
    have ap := append_nat (H0 := []) (p := 99) (get_pre p6 hqF) (Nat.zero_le _) (Nat.lt_of_lt_of_le (show F.length < 2000 by (first | lia | omega)) (by decide))
    have hrq : q ≠ rf := nat_ne_ref hr5 hqF hm
    refine s_skip (t_or (ot_false (t_notF (t_prim (vs_cons (v_var rfl) vs_nil) (isList_ofK (isListT hqF)))) (ot_false (t_notF aw) ot_nil)))
      (s_expr (v_append (v_var rfl) (isL_of (get_pre p6 hqF)) v_int ap) (s_nil ⟨⟨_, _, rfl, prefix_set (hp.trans p6) hge, get_ne (get_pre p6 hr5) hrq, fun q' hq' => ⟨(hq5 q' hq').1, ?_⟩⟩, get_ne (get_pre p6 hr5) hrq⟩))
    by_cases h : q = q'
    · subst h
      exact ⟨F ++ [99], set_top ⟨_, get_pre p6 hqF⟩, by rw [List.length_append]; simp; (first | lia | omega)⟩
    · obtain ⟨_, G, hG, hGl⟩ := hq5 q' hq'
      exact ⟨G, get_ne (get_pre p6 hG) h, by (first | lia | omega)⟩
  · rintro ρ H5 ⟨x6, x7, rfl, hp, hr5, hq5⟩
    have p6 := pre_app H5 [.list []]
    have ap := appendRef (b := 0) (q := H5.length) (get_pre p6 hr5) (Nat.zero_le _) (by have := hff.length; (first | lia | omega))
    have h36 := prefix_set (o := .list ((qs ++ [H5.length]).map .ref)) (hp.trans p6) hgf
    refine s_expr (v_append (v_var rfl) (isL_of hr5) (v_list vs_nil (allocK (by simp))) ap) ?_
    generalize (H5 ++ [AObj.list []]).set rf (.list ((qs ++ [H5.length]).map .ref)) = H6 at ap h36
    have hh6 : TL H6 H1.length E := get_pre (hp3.trans h36) hh2
    obtain ⟨v, H7, e7, rfl, hp7⟩ := Res.sat_ex (hangs_spec (strF := strF) (sc := sc) (m := m + 1) D h1 h2 hh6 hl hok)
    have hh7 : TL H7 H1.length E := get_pre hp7 hh6
    have hT7 : TL H7 r E := get_pre ((hp3.trans h36).trans hp7) hT2
    have hrd7 := get_pre (h36.trans hp7) hrd
    obtain ⟨v, H8, e8, r8, ps, rfl, hr8, hf8, hp8, hg8, hq8⟩ := Res.sat_ex (parts_spec (strF := strF) (sc := sc) (m := m + 2) D h1 h2 hh7 hl hok)
    rw [hSs] at e7 hf8
    have hb : cmpop .Eq (.bool ((Ss.length : Int) == 1)) (.bool (((ds.map AV.ref).length : Int) == 1)) H7 = some true := by
      rw [List.length_map, hfd.length]
      cases ((Ss.length : Int) == 1) <;> rfl
    exact s_assign (v_call (vs_cons (v_var rfl) (vs_cons (v_var rfl) vs_nil)) e7) (s_ret (v_and (a_true (v_prim (vs_cons (v_var rfl) vs_nil) (isBool_ofK rfl)) (a_true (v_cmp (v_var rfl) (v_cmp (v_prim (vs_cons (v_var rfl) vs_nil) (len_list hrd7)) v_int c_eq) hb)
      (a_true (v_cmp (v_var rfl) (v_var rfl) (c_eqR.trans (eqOf_ties hh7 hT7))) (a_one (v_cmp (v_call (vs_cons (v_var rfl) (vs_cons (v_var rfl) vs_nil)) e8) (v_var rfl) (c_eqR.trans (eqOf_lists hr8 hf8 (get_pre hp8 hrd7) (hfd.grow ((h36.trans hp7).trans hp8)))))))))) rfl)
end
end Mine

namespace Mine
open PySem

/-! The checker: does this IR stand for that tree? -/
structure Tab where
  fns : List (Nat × Str)
  excs : List (Nat × Str)
  gints : List (Nat × Str × Int)
  defs : List (Nat × FnI) := []

noncomputable def notStar : Expr → Bool
  | .Starred .. => false
  | _ => true
noncomputable def notComp : Expr → Bool
  | .ListComp .. => false
  | .SetComp .. => false
  | .DictComp .. => false
  | _ => true
noncomputable def notTupComp : Expr → Bool
  | .ListComp .. => false
  | .SetComp .. => false
  | .DictComp .. => false
  | .Tuple .. => false
  | _ => true
noncomputable def notSlice : Expr → Bool
  | .Slice .. => false
  | _ => true
noncomputable def notSet : Expr → Bool
  | .Set .. => false
  | _ => true

noncomputable def slot (Γ : List Str) (x : Str) : Option Nat := Γ.findIdx? (· == x)
noncomputable def kindIn (S : Scope) (x : Str) : Option NameKind := S.names.lookup x
noncomputable def isGlob (S : Scope) (x : Str) : Bool := kindIn S x == some .globalImplicit && !(x == ("__debug__" : Str))
noncomputable def isVarK (S : Scope) (x : Str) : Bool := (kindIn S x == some .local || kindIn S x == some .cell || kindIn S x == some .free) && !(x == ("__debug__" : Str)) && !(x == ("__classdict__" : Str))
noncomputable def isStoreK (S : Scope) (x : Str) : Bool := kindIn S x == some .local || kindIn S x == some .cell
noncomputable def relab (scope S : Scope) : Scope :=
  { scope with names := scope.names.map fun (n, k) => if (k == .free && S.kind == .function && kindIn S n == some .cell) then (n, .cell) else (n, k) }
/-- a comprehension's scope; xs are its targets -/
noncomputable def scopeOk (scope S : Scope) (Γ xs : List Str) : Bool := scope.kind == .function &&
  scope.names.all (fun x => (x.2 != .local || scope.names.lookup x.1 == some .local) && (x.2 != .cell || scope.names.lookup x.1 == some .cell) &&
    (x.2 != .free || (scope.names.lookup x.1 == some .free && (kindIn S x.1 == some .cell || kindIn S x.1 == some .free))) && (!(x.2 == .local || x.2 == .cell) || xs.contains x.1 || (slot Γ x.1).isNone)) && xs.all (isStoreK scope)
noncomputable def notZip : It → Bool
  | .zip _ _ => false
  | _ => true
noncomputable def someArgs : PEs → Bool
  | .nil => false
  | _ => true
noncomputable def plainBase : Expr → Bool
  | .Name .. => true
  | .Subscript .. => true
  | _ => false
/-- the built-ins that are covered -/
noncomputable def okPrim : Prim → Bool
  | .str => false
  | .isExc _ => false
  | .isValueError => false
  | .sortedSet => false
  | .tuple => false
  | .min1 => false
  | .max1 => false
  | .sum => false
  | .int => false
  | _ => true
noncomputable def typeName : Prim → Option Str
  | .isInt => some "int"
  | .isBool => some "bool"
  | .isList => some "list"
  | .isTuple => some "tuple"
  | .isValueError => some "ValueError"
  | _ => none
noncomputable def primName : Prim → Option Str
  | .len => some "len"
  | .list => some "list"
  | .tuple => some "tuple"
  | .sorted => some "sorted"
  | .min2 => some "min"
  | .max2 => some "max"
  | .min1 => some "min"
  | .max1 => some "max"
  | .sum => some "sum"
  | .all => some "all"
  | .int => some "int"
  | .str => some "str"
  | _ => none

/-! taking trees apart -/
noncomputable def opt {α : Type} (o : Option α) (k : α → Bool) : Bool := match o with
  | some a => k a
  | none => false
theorem opt_eq {α : Type} {o : Option α} {k : α → Bool} (h : opt o k = true) : ∃ a, o = some a ∧ k a = true := by
  cases o with
  | none => cases h
  | some a => exact ⟨a, rfl, h⟩
theorem and_tt {a b : Bool} (h : (a && b) = true) : a = true ∧ b = true := by
  cases a
  · cases h
  · exact ⟨rfl, h⟩
theorem eq_tt {α : Type} [BEq α] [LawfulBEq α] {a b : α} (h : (a == b) = true) : a = b := beq_iff_eq.mp h
noncomputable def one1 {α : Type} : List α → Option α
  | [a] => some a
  | _ => none
noncomputable def two2 {α : Type} : List α → Option (α × α)
  | [a, b] => some (a, b)
  | _ => none
theorem one1_eq {α : Type} {l : List α} {a : α} (h : one1 l = some a) : l = [a] := by
  match l, h with
  | [_], h => cases h; rfl
theorem two2_eq {α : Type} {l : List α} {a : α × α} (h : two2 l = some a) : l = [a.1, a.2] := by
  match l, h with
  | [_, _], h => cases h; rfl
theorem inv {α β : Type} {mk : α → β} {d : β → Option α} (G : ∀ e, (d e).elim e mk = e) {e : β} {x : α} (h : d e = some x) : e = mk x := by
  have g := G e
  rw [h] at g
  exact g.symm
noncomputable def dConst (e : Expr) : Option (Const × Nat × Pos) := by
  cases e with
  | Constant c k p => exact some (c, k, p)
  | _ => exact none
theorem dConst_eq {e : Expr} {x : (Const × Nat × Pos)} (h : dConst e = some x) : e = .Constant x.1 x.2.1 x.2.2 := inv (mk := fun x => .Constant x.1 x.2.1 x.2.2) (fun e => by cases e <;> rfl) h
noncomputable def dName (e : Expr) : Option (Str × Pos) := by
  cases e with
  | Name x p => exact some (x, p)
  | _ => exact none
theorem dName_eq {e : Expr} {x : (Str × Pos)} (h : dName e = some x) : e = .Name x.1 x.2 := inv (mk := fun x => .Name x.1 x.2) (fun e => by cases e <;> rfl) h
noncomputable def dBin (e : Expr) : Option (Expr × Operator × Expr × Pos) := by
  cases e with
  | BinOp l o r p => exact some (l, o, r, p)
  | _ => exact none
theorem dBin_eq {e : Expr} {x : (Expr × Operator × Expr × Pos)} (h : dBin e = some x) : e = .BinOp x.1 x.2.1 x.2.2.1 x.2.2.2 := inv (mk := fun x => .BinOp x.1 x.2.1 x.2.2.1 x.2.2.2) (fun e => by cases e <;> rfl) h
noncomputable def dUn (e : Expr) : Option (UnaryOp × Expr × Pos) := by
  cases e with
  | UnaryOp o x p => exact some (o, x, p)
  | _ => exact none
theorem dUn_eq {e : Expr} {x : (UnaryOp × Expr × Pos)} (h : dUn e = some x) : e = .UnaryOp x.1 x.2.1 x.2.2 := inv (mk := fun x => .UnaryOp x.1 x.2.1 x.2.2) (fun e => by cases e <;> rfl) h
noncomputable def dCmp (e : Expr) : Option (Expr × List CmpOp × List Expr × Pos) := by
  cases e with
  | Compare l o r p => exact some (l, o, r, p)
  | _ => exact none
theorem dCmp_eq {e : Expr} {x : (Expr × List CmpOp × List Expr × Pos)} (h : dCmp e = some x) : e = .Compare x.1 x.2.1 x.2.2.1 x.2.2.2 := inv (mk := fun x => .Compare x.1 x.2.1 x.2.2.1 x.2.2.2) (fun e => by cases e <;> rfl) h
noncomputable def dBool (e : Expr) : Option (BoolOp × List Expr × Pos) := by
  cases e with
  | BoolOp o vs p => exact some (o, vs, p)
  | _ => exact none
theorem dBool_eq {e : Expr} {x : (BoolOp × List Expr × Pos)} (h : dBool e = some x) : e = .BoolOp x.1 x.2.1 x.2.2 := inv (mk := fun x => .BoolOp x.1 x.2.1 x.2.2) (fun e => by cases e <;> rfl) h
noncomputable def dIfe (e : Expr) : Option (Expr × Expr × Expr × Pos) := by
  cases e with
  | IfExp t a b p => exact some (t, a, b, p)
  | _ => exact none
theorem dIfe_eq {e : Expr} {x : (Expr × Expr × Expr × Pos)} (h : dIfe e = some x) : e = .IfExp x.1 x.2.1 x.2.2.1 x.2.2.2 := inv (mk := fun x => .IfExp x.1 x.2.1 x.2.2.1 x.2.2.2) (fun e => by cases e <;> rfl) h
noncomputable def dSub (e : Expr) : Option (Expr × Expr × Pos) := by
  cases e with
  | Subscript v s p => exact some (v, s, p)
  | _ => exact none
theorem dSub_eq {e : Expr} {x : (Expr × Expr × Pos)} (h : dSub e = some x) : e = .Subscript x.1 x.2.1 x.2.2 := inv (mk := fun x => .Subscript x.1 x.2.1 x.2.2) (fun e => by cases e <;> rfl) h
noncomputable def dSl (e : Expr) : Option (Option Expr × Option Expr × Option Expr × Pos) := by
  cases e with
  | Slice l h s p => exact some (l, h, s, p)
  | _ => exact none
theorem dSl_eq {e : Expr} {x : (Option Expr × Option Expr × Option Expr × Pos)} (h : dSl e = some x) : e = .Slice x.1 x.2.1 x.2.2.1 x.2.2.2 := inv (mk := fun x => .Slice x.1 x.2.1 x.2.2.1 x.2.2.2) (fun e => by cases e <;> rfl) h
noncomputable def dList (e : Expr) : Option (List Expr × Pos) := by
  cases e with
  | List vs p => exact some (vs, p)
  | _ => exact none
theorem dList_eq {e : Expr} {x : (List Expr × Pos)} (h : dList e = some x) : e = .List x.1 x.2 := inv (mk := fun x => .List x.1 x.2) (fun e => by cases e <;> rfl) h
noncomputable def dTup (e : Expr) : Option (List Expr × Nat × Pos) := by
  cases e with
  | Tuple vs b p => exact some (vs, b, p)
  | _ => exact none
theorem dTup_eq {e : Expr} {x : (List Expr × Nat × Pos)} (h : dTup e = some x) : e = .Tuple x.1 x.2.1 x.2.2 := inv (mk := fun x => .Tuple x.1 x.2.1 x.2.2) (fun e => by cases e <;> rfl) h
noncomputable def dComp (e : Expr) : Option (Expr × List Comprehension × Scope × Pos) := by
  cases e with
  | ListComp el g s p => exact some (el, g, s, p)
  | _ => exact none
theorem dComp_eq {e : Expr} {x : (Expr × List Comprehension × Scope × Pos)} (h : dComp e = some x) : e = .ListComp x.1 x.2.1 x.2.2.1 x.2.2.2 := inv (mk := fun x => .ListComp x.1 x.2.1 x.2.2.1 x.2.2.2) (fun e => by cases e <;> rfl) h
noncomputable def dAttr (e : Expr) : Option (Expr × Str × Pos) := by
  cases e with
  | Attribute o m p => exact some (o, m, p)
  | _ => exact none
theorem dAttr_eq {e : Expr} {x : (Expr × Str × Pos)} (h : dAttr e = some x) : e = .Attribute x.1 x.2.1 x.2.2 := inv (mk := fun x => .Attribute x.1 x.2.1 x.2.2) (fun e => by cases e <;> rfl) h
noncomputable def dCall0 (e : Expr) : Option (Expr × List Expr × List Keyword × Pos) := by
  cases e with
  | Call f a k p => exact some (f, a, k, p)
  | _ => exact none
theorem dCall0_eq {e : Expr} {x : (Expr × List Expr × List Keyword × Pos)} (h : dCall0 e = some x) : e = .Call x.1 x.2.1 x.2.2.1 x.2.2.2 := inv (mk := fun x => .Call x.1 x.2.1 x.2.2.1 x.2.2.2) (fun e => by cases e <;> rfl) h
noncomputable def nilO {α : Type} (l : List α) : Bool := l.isEmpty
theorem nilO_eq {α : Type} {l : List α} (h : l.isEmpty = true) : l = [] := List.isEmpty_iff.mp h
noncomputable def dCall (e : Expr) (k : Expr → List Expr → Pos → Bool) : Bool := opt (dCall0 e) fun x => x.2.2.1.isEmpty && k x.1 x.2.1 x.2.2.2
theorem dCall_eq {e : Expr} {k : Expr → List Expr → Pos → Bool} (h : dCall e k = true) : ∃ f a p, e = .Call f a [] p ∧ k f a p = true := by
  obtain ⟨x, hx, h⟩ := opt_eq h
  obtain ⟨h1, h⟩ := and_tt h
  exact ⟨_, _, _, by rw [dCall0_eq hx, nilO_eq h1], h⟩
/-- a call of a name -/
noncomputable def dCallN (e : Expr) (k : Str → List Expr → Bool) : Bool := dCall e fun f a _ => opt (dName f) fun x => k x.1 a
theorem dCallN_eq {e : Expr} {k : Str → List Expr → Bool} (h : dCallN e k = true) : ∃ f np args pos, e = .Call (.Name f np) args [] pos ∧ k f args = true := by
  obtain ⟨f, a, p, rfl, h⟩ := dCall_eq h
  obtain ⟨x, hx, h⟩ := opt_eq h
  cases dName_eq hx
  exact ⟨_, _, _, _, rfl, h⟩
noncomputable def cBool : Const → Option Bool
  | .bool b => some b
  | _ => none
theorem cBool_eq {c : Const} {x : Bool} (h : cBool c = some x) : c = .bool x := inv (mk := fun x => .bool x) (fun e => by cases e <;> rfl) h
noncomputable def cInt : Const → Option Int
  | .int b => some b
  | _ => none
theorem cInt_eq {c : Const} {x : Int} (h : cInt c = some x) : c = .int x := inv (mk := fun x => .int x) (fun e => by cases e <;> rfl) h
noncomputable def cNone : Const → Option Unit
  | .none => some ()
  | _ => none
theorem cNone_eq {c : Const} {x : Unit} (h : cNone c = some x) : c = .none := inv (mk := fun _ => .none) (fun e => by cases e <;> rfl) h
noncomputable def isLR (p : Prim) : Bool := by
  cases p with
  | listRange => exact true
  | _ => exact false
theorem isLR_eq {p : Prim} (h : isLR p = true) : p = .listRange := by cases p <;> first | rfl | cases h

section
variable (T : Tab)
mutual
noncomputable def chkE (Γ : List Str) (S : Scope) : PE → Expr → Bool
  | .none, e => opt (dConst e) fun c => opt (cNone c.1) fun _ => true
  | .bool b, e => opt (dConst e) fun c => opt (cBool c.1) fun d => b == d
  | .int i, e => opt (dConst e) fun c => opt (cInt c.1) fun j => i == j
  | .str .., _ => false
  | .var i, e => opt (dName e) fun x => slot Γ x.1 == some i && isVarK S x.1
  | .gfn .., _ => false
  | .gint k i, e => opt (dName e) fun x => T.gints.lookup k == some (x.1, i) && isGlob S x.1
  | .bin op a b, e => opt (dBin e) fun x => op == x.2.1 && (chkE Γ S a x.1 && chkE Γ S b x.2.2.1)
  | .neg .., _ => false
  | .not a, e => opt (dUn e) fun x => UnaryOp.Not == x.1 && chkE Γ S a x.2.1
  | .cmp op a b, e => opt (dCmp e) fun x => opt (one1 x.2.1) fun o => opt (one1 x.2.2.1) fun r => op == o && (notSet r && (chkE Γ S a x.1 && chkE Γ S b r))
  | .cmp2 o1 o2 a b c, e => opt (dCmp e) fun x => opt (two2 x.2.1) fun o => opt (two2 x.2.2.1) fun r => o1 == o.1 && (o2 == o.2 && (notSet r.2 && (chkE Γ S a x.1 && (chkE Γ S b r.1 && chkE Γ S c r.2))))
  | .and es, e => opt (dBool e) fun x => BoolOp.And == x.1 && chkEs Γ S es x.2.1
  | .or es, e => opt (dBool e) fun x => BoolOp.Or == x.1 && chkEs Γ S es x.2.1
  | .ite c a b, e => opt (dIfe e) fun x => chkE Γ S c x.1 && (chkE Γ S a x.2.1 && chkE Γ S b x.2.2.1)
  | .call k es, e => dCallN e fun f args => T.fns.lookup k == some f && (isGlob S f && (someArgs es && chkEs Γ S es args))
  | .callv .., _ => false
  | .prim p es, e => dCallN e fun f args => cond (isLR p)
      (opt (one1 args) fun a => dCallN a fun g as => f == ("list" : Str) && (isGlob S f && (g == ("range" : Str) && (isGlob S g && chkEs Γ S es as))))
      (okPrim p && (isGlob S f && (match typeName p with
        | some t => f == ("isinstance" : Str) && opt (two2 args) fun a => opt (dName a.2) fun g => t == g.1 && (isGlob S g.1 && chkEs Γ S es [a.1])
        | none => primName p == some f && chkEs Γ S es args)))
  | .idx a i, e => opt (dSub e) fun x => notSlice x.2.1 && (chkE Γ S a x.1 && chkE Γ S i x.2.1)
  | .slice a lo hi, e => opt (dSub e) fun x => opt (dSl x.2.1) fun y => y.2.2.1.isNone && (chkE Γ S a x.1 && (chkO Γ S lo y.1 && chkO Γ S hi y.2.1))
  | .rev .., _ => false
  | .list es, e => opt (dList e) fun vs => chkEs Γ S es vs.1
  | .tuple es, e => opt (dTup e) fun vs => chkEs Γ S es vs.1
  | .dict, _ => false
  | .comp1 el it c, e => opt (dComp e) fun x => opt (one1 x.2.1) fun g => opt (dName g.target) fun v => g.is_async == 0 && (scopeOk x.2.2.1 S Γ [v.1] && (notZip it && (notSet g.iter && (chkI Γ S it g.iter && (chkC (v.1 :: Γ) (relab x.2.2.1 S) c g.ifs && chkE (v.1 :: Γ) (relab x.2.2.1 S) el x.1)))))
  | .comp2 el it, e => opt (dComp e) fun x => opt (one1 x.2.1) fun g => opt (dTup g.target) fun ts => opt (two2 ts.1) fun t => opt (dName t.1) fun v => opt (dName t.2) fun w => g.is_async == 0 && (g.ifs.isEmpty && (scopeOk x.2.2.1 S Γ [v.1, w.1] && (!(v.1 == w.1) && (notSet g.iter && (chkI Γ S it g.iter && chkE (v.1 :: w.1 :: Γ) (relab x.2.2.1 S) el x.1)))))
  | .append a y, e => dCall e fun f as p => opt (dAttr f) fun t => opt (one1 as) fun v => t.2.1 == ("append" : Str) && (t.2.2.endLine == p.line && (plainBase t.1 && (notStar v && (chkE Γ S a t.1 && chkE Γ S y v))))
  | .count _ _, _ => false
  | .index .., _ => false
  | .sset a, e => dCallN e fun f args => opt (one1 args) fun y => dCallN y fun g as => opt (one1 as) fun x => f == ("sorted" : Str) && (isGlob S f && (g == ("set" : Str) && (isGlob S g && (notStar x && chkE Γ S a x))))
noncomputable def chkEs (Γ : List Str) (S : Scope) : PEs → List Expr → Bool
  | .nil, es => es.isEmpty
  | .cons a as, es => (match es with | e :: r => notStar e && (chkE Γ S a e && chkEs Γ S as r) | [] => false)
noncomputable def chkO (Γ : List Str) (S : Scope) : PEo → Option Expr → Bool
  | .none, o => o.isNone
  | .some a, o => opt o fun e => chkE Γ S a e
noncomputable def chkC (Γ : List Str) (S : Scope) : PEo → List Expr → Bool
  | .none, es => es.isEmpty
  | .some a, es => opt (one1 es) fun e => chkE Γ S a e
noncomputable def chkI (Γ : List Str) (S : Scope) : It → Expr → Bool
  | .of a, e => chkE Γ S a e
  | .range1 n, e => dCallN e fun f args => opt (one1 args) fun x => f == ("range" : Str) && (isGlob S f && (notStar x && chkE Γ S n x))
  | .range2 .., _ => false
  | .zip _ _, _ => false
end

noncomputable def chkIdx (Γ : List Str) (S : Scope) : List Nat → List Expr → Bool
  | [], es => (match es with | [] => true | _ => false)
  | i :: is, es => (match es with | .Name x _ :: r => slot Γ x == some i && isStoreK S x && chkIdx Γ S is r | _ => false)

noncomputable def dAsg (e : Stmt) : Option (List Expr × Expr × Pos) := by
  cases e with
  | Assign ts v p => exact some (ts, v, p)
  | _ => exact none
theorem dAsg_eq {e : Stmt} {x : (List Expr × Expr × Pos)} (h : dAsg e = some x) : e = .Assign x.1 x.2.1 x.2.2 := inv (mk := fun x => .Assign x.1 x.2.1 x.2.2) (fun e => by cases e <;> rfl) h
noncomputable def dIf (e : Stmt) : Option (Expr × List Stmt × List Stmt × Pos) := by
  cases e with
  | If c t e p => exact some (c, t, e, p)
  | _ => exact none
theorem dIf_eq {e : Stmt} {x : (Expr × List Stmt × List Stmt × Pos)} (h : dIf e = some x) : e = .If x.1 x.2.1 x.2.2.1 x.2.2.2 := inv (mk := fun x => .If x.1 x.2.1 x.2.2.1 x.2.2.2) (fun e => by cases e <;> rfl) h
noncomputable def dFor (e : Stmt) : Option (Expr × Expr × List Stmt × List Stmt × Pos) := by
  cases e with
  | For t i b o p => exact some (t, i, b, o, p)
  | _ => exact none
theorem dFor_eq {e : Stmt} {x : (Expr × Expr × List Stmt × List Stmt × Pos)} (h : dFor e = some x) : e = .For x.1 x.2.1 x.2.2.1 x.2.2.2.1 x.2.2.2.2 := inv (mk := fun x => .For x.1 x.2.1 x.2.2.1 x.2.2.2.1 x.2.2.2.2) (fun e => by cases e <;> rfl) h
noncomputable def dWh (e : Stmt) : Option (Expr × List Stmt × List Stmt × Pos) := by
  cases e with
  | While t b o p => exact some (t, b, o, p)
  | _ => exact none
theorem dWh_eq {e : Stmt} {x : (Expr × List Stmt × List Stmt × Pos)} (h : dWh e = some x) : e = .While x.1 x.2.1 x.2.2.1 x.2.2.2 := inv (mk := fun x => .While x.1 x.2.1 x.2.2.1 x.2.2.2) (fun e => by cases e <;> rfl) h
noncomputable def dRet (e : Stmt) : Option (Option Expr × Pos) := by
  cases e with
  | Return v p => exact some (v, p)
  | _ => exact none
theorem dRet_eq {e : Stmt} {x : (Option Expr × Pos)} (h : dRet e = some x) : e = .Return x.1 x.2 := inv (mk := fun x => .Return x.1 x.2) (fun e => by cases e <;> rfl) h
noncomputable def dEx (e : Stmt) : Option (Expr × Pos) := by
  cases e with
  | Expr v p => exact some (v, p)
  | _ => exact none
theorem dEx_eq {e : Stmt} {x : (Expr × Pos)} (h : dEx e = some x) : e = .Expr x.1 x.2 := inv (mk := fun x => .Expr x.1 x.2) (fun e => by cases e <;> rfl) h

/-- a comprehension may be stored right away -/
noncomputable def isCompP : PE → Bool
  | .comp1 .. => true
  | .comp2 .. => true
  | _ => false
mutual
noncomputable def chkS (Γ : List Str) (S : Scope) : PS → Stmt → Bool
  | .assign i e, s => opt (dAsg s) fun x => opt (one1 x.1) fun t => opt (dName t) fun v => slot Γ v.1 == some i && (isStoreK S v.1 && ((isCompP e || notComp x.2.1) && chkE T Γ S e x.2.1))
  | .assigns is e, s => opt (dAsg s) fun x => opt (one1 x.1) fun t => opt (dTup t) fun ts => notTupComp x.2.1 && (chkIdx Γ S is ts.1 && (decide is.Nodup && chkE T Γ S e x.2.1))
  | .setIdx a i e, s => opt (dAsg s) fun x => opt (one1 x.1) fun t => opt (dSub t) fun y => chkE T Γ S a y.1 && (chkE T Γ S i y.2.1 && chkE T Γ S e x.2.1)
  | .swap .., _ => false
  | .ite c t e, s => opt (dIf s) fun x => chkE T Γ S c x.1 && (chkSs Γ S t x.2.1 && chkSs Γ S e x.2.2.1)
  | .for1 i it body, s => opt (dFor s) fun x => opt (dName x.1) fun v => x.2.2.2.1.isEmpty && (slot Γ v.1 == some i && (isStoreK S v.1 && (notZip it && (notSet x.2.1 && (chkI T Γ S it x.2.1 && chkSs Γ S body x.2.2.1)))))
  | .for2 i j it body, s => opt (dFor s) fun x => opt (dTup x.1) fun ts => opt (two2 ts.1) fun t => opt (dName t.1) fun v => opt (dName t.2) fun w => x.2.2.2.1.isEmpty && (slot Γ v.1 == some i && (isStoreK S v.1 && (slot Γ w.1 == some j && (isStoreK S w.1 && (notSet x.2.1 && (chkI T Γ S it x.2.1 && chkSs Γ S body x.2.2.1))))))
  | .whl c body, s => opt (dWh s) fun x => x.2.2.1.isEmpty && (chkE T Γ S c x.1 && chkSs Γ S body x.2.1)
  | .ret e, s => opt (dRet s) fun o => opt o.1 fun v => chkE T Γ S e v
  | .expr e, s => opt (dEx s) fun v => notComp v.1 && chkE T Γ S e v.1
  | .raise _ _, _ => true
  | .tryRet .., _ => false
  | .tryExpr .., _ => false
noncomputable def chkSs (Γ : List Str) (S : Scope) : PSs → List Stmt → Bool
  | .nil, ss => ss.isEmpty
  | .cons a as, ss => (match ss with | s :: r => chkS Γ S a s && chkSs Γ S as r | [] => false)
end

/-- the names of a def's own -/
noncomputable def gamOf (S : Scope) : List Str := (S.names.filter fun x => x.2 == .local || x.2 == .cell).map (·.1)
noncomputable def chkFn (f : FnI) (params : Arguments) (body : List Stmt) (S : Scope) : Bool :=
  params.posonlyargs.isEmpty && params.vararg.isNone && params.kwonlyargs.isEmpty && params.kw_defaults.isEmpty && params.kwarg.isNone && params.defaults.isEmpty &&
  params.args.length == f.np && (gamOf S).take f.np == params.args.map (·.arg) && (gamOf S).length == f.nv && decide (S.names.map (·.1)).Nodup &&
  S.kind == .function && !S.isGenerator && !S.isCoroutine && S.names.all (fun x => x.2 != .free) && chkSs T (gamOf S) S f.body body
end
end Mine

namespace Mine
open PySem PySem.Calls PyProof.Rows

/-! The relation of the abstract state to the model's. -/
structure Cx where
  prog : Program
  w : World
  sa : Addr
  sc : List Int
  fa : Nat → Addr
  ea : Nat → Value
  os : OsState
  mg : Str → Option Value
  mb : Str → Option Value
  z : Addr → Prop

mutual
inductive VR (C : Cx) (μ : List Addr) (h : Heap) : AV → Value → Prop
  | none : VR C μ h .none .none
  | bool (b : Bool) : VR C μ h (.bool b) (.bool b)
  | int (i : Int) (t : Tok) : VR C μ h (.int i) (.int i t)
  | str (s : Str) (t : Tok) : VR C μ h (.str s) (.str s t)
  | tup {a : Addr} {items : List Value} {vs : List AV} : h.IsTuple a items.toArray → ¬ C.z a → vs.length ≤ lim → VRs C μ h vs items → VR C μ h (.tup vs) (.ref a)
  | ref {n : Nat} {a : Addr} : μ[n]? = some a → VR C μ h (.ref n) (.ref a)
  | scr : VR C μ h .scr (.ref C.sa)
  | fn (k : Nat) : VR C μ h (.fn k) (.ref (C.fa k))
  | exc {c : Nat} {a : Addr} {o : Obj} : h.get? a = some o → ¬ C.z a → o.cls = C.ea c → (∃ vs, o.data = .fields vs) → VR C μ h (.exc c) (.ref a)
inductive VRs (C : Cx) (μ : List Addr) (h : Heap) : List AV → List Value → Prop
  | nil : VRs C μ h [] []
  | cons {x : AV} {v : Value} {xs : List AV} {vs : List Value} : VR C μ h x v → VRs C μ h xs vs → VRs C μ h (x :: xs) (v :: vs)
end

theorem VRs.length {C : Cx} {μ : List Addr} {h : Heap} : ∀ {xs : List AV} {vs : List Value}, VRs C μ h xs vs → xs.length = vs.length
  | _, _, .nil => rfl
  | _, _, .cons _ r => by rw [List.length_cons, List.length_cons, r.length]
theorem VRs.get {C : Cx} {μ : List Addr} {h : Heap} : ∀ {xs : List AV} {vs : List Value}, VRs C μ h xs vs → ∀ {i : Nat} {x : AV}, xs[i]? = some x → ∃ v, vs[i]? = some v ∧ VR C μ h x v
  | _, _, .nil, _, _, e => by simp at e
  | _, _, .cons (v := v) hx r, 0, x, e => by simp at e; subst e; exact ⟨v, rfl, hx⟩
  | _, _, .cons hx r, i + 1, x, e => by simp at e; obtain ⟨v, e', hv⟩ := r.get e; exact ⟨v, by simpa using e', hv⟩
theorem VRs.append {C : Cx} {μ : List Addr} {h : Heap} : ∀ {xs : List AV} {vs : List Value} {ys : List AV} {us : List Value}, VRs C μ h xs vs → VRs C μ h ys us → VRs C μ h (xs ++ ys) (vs ++ us)
  | _, _, _, _, .nil, q => q
  | _, _, _, _, .cons hx r, q => .cons hx (r.append q)
theorem VRs.take {C : Cx} {μ : List Addr} {h : Heap} : ∀ {xs : List AV} {vs : List Value}, VRs C μ h xs vs → ∀ n, VRs C μ h (xs.take n) (vs.take n)
  | _, _, .nil, n => by simp; exact .nil
  | _, _, .cons hx r, 0 => by simp; exact .nil
  | _, _, .cons hx r, n + 1 => by simp only [List.take_succ_cons]; exact .cons hx (r.take n)
theorem VRs.drop {C : Cx} {μ : List Addr} {h : Heap} : ∀ {xs : List AV} {vs : List Value}, VRs C μ h xs vs → ∀ n, VRs C μ h (xs.drop n) (vs.drop n)
  | _, _, .nil, n => by simp; exact .nil
  | _, _, .cons hx r, 0 => by simp; exact .cons hx r
  | _, _, .cons _ r, n + 1 => by simp only [List.drop_succ_cons]; exact r.drop n
theorem VRs.set {C : Cx} {μ : List Addr} {h : Heap} : ∀ {xs : List AV} {vs : List Value}, VRs C μ h xs vs → ∀ (i : Nat) {x : AV} {v : Value}, VR C μ h x v → VRs C μ h (xs.set i x) (vs.set i v)
  | _, _, .nil, _, _, _, _ => .nil
  | _, _, .cons _ r, 0, _, _, q => .cons q r
  | _, _, .cons hx r, i + 1, _, _, q => .cons hx (r.set i q)
theorem VRs.of_get {C : Cx} {μ : List Addr} {h : Heap} : ∀ {xs : List AV} {vs : List Value}, xs.length = vs.length → (∀ (i : Nat) (x : AV) (v : Value), xs[i]? = some x → vs[i]? = some v → VR C μ h x v) → VRs C μ h xs vs
  | [], [], _, _ => .nil
  | x :: xs, v :: vs, e, q => .cons (q 0 x v rfl rfl) (VRs.of_get (by simpa using e) fun i y u e1 e2 => q (i + 1) y u (by simpa using e1) (by simpa using e2))

/-- a list's face -/
inductive LstR (C : Cx) (μ : List Addr) (h : Heap) (i : Nat) (xs : List AV) : Prop
  | mk (l : xs.length ≤ lim) (a : Addr) (vs : List Value) (e : μ[i]? = some a) (p : h.PlainList a (List.toArray vs)) (q : VRs C μ h xs vs) : LstR C μ h i xs
structure HeapR (C : Cx) (μ : List Addr) (H : AHeap) (h : Heap) : Prop where
  len : μ.length = H.length
  nd : μ.Nodup
  list : ∀ {i : Nat} {xs : List AV}, H[i]? = some (.list xs) → LstR C μ h i xs
  dict : ∀ {i : Nat}, H[i]? = some .dict → ∃ a n, μ[i]? = some a ∧ h.get? a = some { cls := .type "dict", data := .dict #[] n }

structure EnvR (C : Cx) (μ : List Addr) (h : Heap) (env : Env) (Γ : List Str) (ρ : AEnv) : Prop where
  kind : env.scope.kind = .function
  ns : ∃ m, h.Ns env.locals m ∧ ∀ {x : Str} {i : Nat} {v : AV}, slot Γ x = some i → env.kindOf x = some .local → ρ[i]? = some (some v) → ∃ u, m x = some u ∧ VR C μ h v u
  cells : ∀ {x : Str}, env.kindOf x = some .cell ∨ env.kindOf x = some .free → ∃ c o, env.cells.lookup x = some c ∧ h.IsCell c o ∧
    ∀ {i : Nat} {v : AV}, slot Γ x = some i → ρ[i]? = some (some v) → ∃ u, o = some u ∧ VR C μ h v u
  cell : ∀ {x : Str} {c : Addr}, env.cells.lookup x = some c → ∃ o, h.IsCell c o
  inj : ∀ {x y : Str} {c : Addr}, env.cells.lookup x = some c → env.cells.lookup y = some c → x = y
  globals : env.globals = mainGlobals
  builtins : env.builtins = builtinsNs

/-- what may turn in a frame -/
noncomputable def Own (μ : List Addr) (env : Env) (a : Addr) : Prop := a ∈ μ ∨ a = env.locals ∨ ∃ x, env.cells.lookup x = some a

structure Ext (env : Env) (μ μ' : List Addr) (h h' : Heap) : Prop where
  pre : μ <+: μ'
  stay : ∀ {a : Addr} {o : Obj}, h.get? a = some o → ¬ Own μ env a → h'.get? a = some o
  new : ∀ {a : Addr}, a ∈ μ' → a ∉ μ → h.get? a = none
  live : ∀ {a : Addr} {o : Obj}, h.get? a = some o → ∃ o', h'.get? a = some o'

structure St (C : Cx) (base : Heap) (b : Nat) (env : Env) (Γ : List Str) (ρ : AEnv) (μ : List Addr) (H : AHeap) (s : Shared) : Prop where
  keep : ∀ a o, base.get? a = some o → s.heap.get? a = some o
  hp : HeapR C μ H s.heap
  er : EnvR C μ s.heap env Γ ρ
  fresh : ∀ {i : Nat} {a : Addr}, b ≤ i → μ[i]? = some a → base.get? a = none
  noloc : base.get? env.locals = none
  lm : env.locals ∉ μ
  nocell : ∀ {x : Str} {c : Addr}, env.cells.lookup x = some c → base.get? c = none
  gens : s.gens = #[]
  os : s.os = C.os
  zl : ∀ {a : Addr}, C.z a → ∃ o, s.heap.get? a = some o

section
variable {C : Cx} {μ μ' μ'' : List Addr} {h h' h'' : Heap} {env : Env} {Γ : List Str} {ρ : AEnv} {H H' : AHeap}

theorem Ext.refl : Ext env μ μ h h := ⟨List.prefix_rfl, fun e _ => e, fun p q => absurd p q, fun e => ⟨_, e⟩⟩
theorem Ext.trans (x : Ext env μ μ' h h') (y : Ext env μ' μ'' h' h'') : Ext env μ μ'' h h'' := by
  refine ⟨x.pre.trans y.pre, fun {a o} e ho => y.stay (x.stay e ho) ?_, fun {a} hm hn => ?_, fun e => let ⟨_, e'⟩ := x.live e; y.live e'⟩
  · rintro (q | q | q)
    · by_cases hq : a ∈ μ
      · exact ho (.inl hq)
      · rw [x.new q hq] at e; cases e
    · exact ho (.inr (.inl q))
    · exact ho (.inr (.inr q))
  · by_cases hq : a ∈ μ'
    · exact x.new hq hn
    · cases e : h.get? a with
      | none => rfl
      | some o => obtain ⟨o', e'⟩ := x.live e; rw [y.new hm hq] at e'; cases e'

theorem get_prefix {μ μ' : List Addr} {n : Nat} {a : Addr} (p : μ <+: μ') (e : μ[n]? = some a) : μ'[n]? = some a := by
  obtain ⟨t, rfl⟩ := p
  rw [List.getElem?_append_left (List.getElem?_eq_some_iff.mp e).1]; exact e

/-- a tuple's place is no place that may turn -/
theorem notOwn_tuple (R : HeapR C μ H h) (N : EnvR C μ h env Γ ρ) {a : Addr} {items : Array Value} (t : h.IsTuple a items) : ¬ Own μ env a := by
  obtain ⟨o, ho, hc, n, hd⟩ := t
  rintro (q | q | ⟨x, q⟩)
  · obtain ⟨i, hi, rfl⟩ := List.mem_iff_getElem.mp q
    have hi' : i < H.length := R.len ▸ hi
    cases hH : H[i]'hi' with
    | list xs =>
      obtain ⟨_, b, vs, e, ⟨k, p⟩, _⟩ := R.list (i := i) (xs := xs) (by rw [List.getElem?_eq_getElem hi', hH])
      rw [List.getElem?_eq_getElem hi] at e
      cases e
      rw [p] at ho; cases ho; simp at hc
    | dict =>
      obtain ⟨b, k, e, p⟩ := R.dict (i := i) (by rw [List.getElem?_eq_getElem hi', hH])
      rw [List.getElem?_eq_getElem hi] at e
      cases e
      rw [p] at ho; cases ho; simp at hc
  · subst q
    obtain ⟨m, ⟨o', es, ep, ho', hd', _⟩, _⟩ := N.ns
    rw [ho'] at ho; cases ho; rw [hd] at hd'; cases hd'
  · obtain ⟨o', o'', ho', hd'⟩ := N.cell q
    rw [ho'] at ho; cases ho; rw [hd] at hd'; cases hd'
theorem notOwn_fields (R : HeapR C μ H h) (N : EnvR C μ h env Γ ρ) {a : Addr} {o : Obj} {vs : Array Value} (ho : h.get? a = some o) (hd : o.data = .fields vs) : ¬ Own μ env a := by
  rintro (q | q | ⟨x, q⟩)
  · obtain ⟨i, hi, rfl⟩ := List.mem_iff_getElem.mp q
    have hi' : i < H.length := R.len ▸ hi
    cases hH : H[i]'hi' with
    | list xs =>
      obtain ⟨_, b, vs, e, ⟨k, p⟩, _⟩ := R.list (i := i) (xs := xs) (by rw [List.getElem?_eq_getElem hi', hH])
      rw [List.getElem?_eq_getElem hi] at e
      cases e
      rw [p] at ho; cases ho; cases hd
    | dict =>
      obtain ⟨b, k, e, p⟩ := R.dict (i := i) (by rw [List.getElem?_eq_getElem hi', hH])
      rw [List.getElem?_eq_getElem hi] at e
      cases e
      rw [p] at ho; cases ho; cases hd
  · subst q
    obtain ⟨m, ⟨o', es, ep, ho', hd', _⟩, _⟩ := N.ns
    rw [ho'] at ho; cases ho; rw [hd] at hd'; cases hd'
  · obtain ⟨o', o'', ho', hd'⟩ := N.cell q
    rw [ho'] at ho; cases ho; rw [hd] at hd'; cases hd'

theorem IsTuple.stays {a : Addr} {items : Array Value} (t : h.IsTuple a items) (e : ∀ o, h.get? a = some o → h'.get? a = some o) : h'.IsTuple a items :=
  let ⟨o, ho, r⟩ := t; ⟨o, e o ho, r⟩

mutual
theorem VR.mono' {P : Addr → Prop} (p : μ <+: μ') (st : ∀ {a : Addr} {o : Obj}, h.get? a = some o → ¬ P a → h'.get? a = some o)
    (ht : ∀ {a : Addr} {items : Array Value}, h.IsTuple a items → ¬ P a) (hf : ∀ {a : Addr} {o : Obj} {vs : Array Value}, h.get? a = some o → o.data = .fields vs → ¬ P a) :
    ∀ {x : AV} {v : Value}, VR C μ h x v → VR C μ' h' x v
  | _, _, .none => .none
  | _, _, .bool b => .bool b
  | _, _, .int i t => .int i t
  | _, _, .str s t => .str s t
  | _, _, .tup t z l q => .tup (IsTuple.stays t fun _ e => st e (ht t)) z l (VRs.mono' p st ht hf q)
  | _, _, .ref e => .ref (get_prefix p e)
  | _, _, .scr => .scr
  | _, _, .fn k => .fn k
  | _, _, .exc e z hc hd => .exc (let ⟨_, hd⟩ := hd; st e (hf e hd)) z hc hd
theorem VRs.mono' {P : Addr → Prop} (p : μ <+: μ') (st : ∀ {a : Addr} {o : Obj}, h.get? a = some o → ¬ P a → h'.get? a = some o)
    (ht : ∀ {a : Addr} {items : Array Value}, h.IsTuple a items → ¬ P a) (hf : ∀ {a : Addr} {o : Obj} {vs : Array Value}, h.get? a = some o → o.data = .fields vs → ¬ P a) :
    ∀ {xs : List AV} {vs : List Value}, VRs C μ h xs vs → VRs C μ' h' xs vs
  | _, _, .nil => .nil
  | _, _, .cons a r => .cons (VR.mono' p st ht hf a) (VRs.mono' p st ht hf r)
end
theorem VR.mono (R : HeapR C μ H h) (N : EnvR C μ h env Γ ρ) (x : Ext env μ μ' h h') {a : AV} {v : Value} (q : VR C μ h a v) : VR C μ' h' a v :=
  VR.mono' (P := Own μ env) x.pre x.stay (notOwn_tuple R N) (notOwn_fields R N) q
theorem VRs.mono (R : HeapR C μ H h) (N : EnvR C μ h env Γ ρ) (x : Ext env μ μ' h h') {a : List AV} {v : List Value} (q : VRs C μ h a v) : VRs C μ' h' a v :=
  VRs.mono' (P := Own μ env) x.pre x.stay (notOwn_tuple R N) (notOwn_fields R N) q
theorem VR.keeps (k : ∀ {a : Addr} {o : Obj}, h.get? a = some o → h'.get? a = some o) {a : AV} {v : Value} (q : VR C μ h a v) : VR C μ h' a v :=
  VR.mono' (P := fun _ => False) List.prefix_rfl (fun e _ => k e) (fun _ => id) (fun _ _ => id) q
theorem VRs.keeps (k : ∀ {a : Addr} {o : Obj}, h.get? a = some o → h'.get? a = some o) {a : List AV} {v : List Value} (q : VRs C μ h a v) : VRs C μ h' a v :=
  VRs.mono' (P := fun _ => False) List.prefix_rfl (fun e _ => k e) (fun _ => id) (fun _ _ => id) q
end
end Mine

namespace Mine
open PySem PySem.Calls PyProof.Rows

section
variable {C : Cx} {μ μ' μ'' : List Addr} {h h' h'' base : Heap} {env : Env} {Γ : List Str} {ρ : AEnv} {H H' : AHeap} {b : Nat} {s s' : Shared}

theorem EnvR.mono (N : EnvR C μ h env Γ ρ) (hL : ∀ m, h.Ns env.locals m → h'.Ns env.locals m)
    (hc : ∀ (x : Str) (c : Addr) (o : Obj), env.cells.lookup x = some c → h.get? c = some o → h'.get? c = some o) (hv : ∀ {x : AV} {v : Value}, VR C μ h x v → VR C μ' h' x v) : EnvR C μ' h' env Γ ρ where
  kind := N.kind
  ns := by
    obtain ⟨m, n, q⟩ := N.ns
    exact ⟨m, hL m n, fun e k r => let ⟨u, e', v⟩ := q e k r; ⟨u, e', hv v⟩⟩
  cells := fun k => by
    obtain ⟨c, o, e, ⟨ob, eb, db⟩, q⟩ := N.cells k
    exact ⟨c, o, e, ⟨ob, hc _ c ob e eb, db⟩, fun e r => let ⟨u, e', v⟩ := q e r; ⟨u, e', hv v⟩⟩
  cell := fun e => let ⟨o, ob, eb, db⟩ := N.cell e; ⟨o, ob, hc _ _ ob e eb, db⟩
  inj := N.inj
  globals := N.globals
  builtins := N.builtins

theorem HeapR.get (R : HeapR C μ H h) {i : Nat} {a : Addr} (e : μ[i]? = some a) : ∃ o, H[i]? = some o := by
  have : i < H.length := R.len ▸ (List.getElem?_eq_some_iff.mp e).1
  exact ⟨_, List.getElem?_eq_getElem this⟩

theorem HeapR.keeps (R : HeapR C μ H h) (k : ∀ {a : Addr} {o : Obj}, h.get? a = some o → h'.get? a = some o) : HeapR C μ H h' where
  len := R.len
  nd := R.nd
  list := fun e => by
    obtain ⟨l, a, vs, e', ⟨n, p⟩, q⟩ := R.list e
    exact ⟨l, a, vs, e', ⟨n, k p⟩, q.keeps k⟩
  dict := fun e => let ⟨a, n, e', p⟩ := R.dict e; ⟨a, n, e', k p⟩

/-- nothing of the old goes, new things may come -/
theorem St.grow (S : St C base b env Γ ρ μ H s) (k : ∀ {a : Addr} {o : Obj}, s.heap.get? a = some o → s'.heap.get? a = some o) (hg : s'.gens = s.gens) (ho : s'.os = s.os) : St C base b env Γ ρ μ H s' where
  keep := fun a o e => k (S.keep a o e)
  hp := S.hp.keeps k
  er := S.er.mono (fun _ n => n.at fun _ e => k e) (fun _ _ _ _ e => k e) (fun q => q.keeps k)
  fresh := S.fresh
  noloc := S.noloc
  lm := S.lm
  nocell := S.nocell
  gens := hg.trans S.gens
  os := ho.trans S.os
  zl := fun z => let ⟨_, e⟩ := S.zl z; ⟨_, k e⟩

theorem Ext.grow (k : ∀ {a : Addr} {o : Obj}, h.get? a = some o → h'.get? a = some o) : Ext env μ μ h h' := ⟨List.prefix_rfl, fun e _ => k e, fun p q => absurd p q, fun e => ⟨_, k e⟩⟩

theorem ns_one {m m' : Str → Option Value} {L : Addr} (n : h.Ns L m) (n' : h.Ns L m') : m = m' := by
  obtain ⟨o, es, ep, ho, hd, _, e⟩ := n
  obtain ⟨o', es', ep', ho', hd', _, e'⟩ := n'
  rw [ho] at ho'; cases ho'; rw [hd] at hd'; cases hd'
  funext x; rw [← e, ← e']
/-- the same, where the frame's own table is known by its names alone -/
theorem St.growL (S : St C base b env Γ ρ μ H s) {m : Str → Option Value} (n : s.heap.Ns env.locals m) (n' : s'.heap.Ns env.locals m) (k : ∀ {a : Addr} {o : Obj}, a ≠ env.locals → s.heap.get? a = some o → s'.heap.get? a = some o) (hg : s'.gens = s.gens) (ho : s'.os = s.os) :
    St C base b env Γ ρ μ H s' ∧ Ext env μ μ s.heap s'.heap := by
  have ht : ∀ {c : Addr} {items : Array Value}, s.heap.IsTuple c items → ¬ (c = env.locals) := fun t e => by subst e; exact notOwn_tuple S.hp S.er t (.inr (.inl rfl))
  have hf : ∀ {c : Addr} {o : Obj} {vs : Array Value}, s.heap.get? c = some o → o.data = .fields vs → ¬ (c = env.locals) := fun e d e' => by subst e'; exact notOwn_fields S.hp S.er e d (.inr (.inl rfl))
  have mono : ∀ {x : AV} {v : Value}, VR C μ s.heap x v → VR C μ s'.heap x v := fun q => VR.mono' (P := (· = env.locals)) List.prefix_rfl (fun e n => k n e) ht hf q
  have monos : ∀ {x : List AV} {v : List Value}, VRs C μ s.heap x v → VRs C μ s'.heap x v := fun q => VRs.mono' (P := (· = env.locals)) List.prefix_rfl (fun e n => k n e) ht hf q
  refine ⟨⟨?_, ⟨S.hp.len, S.hp.nd, ?_, ?_⟩, S.er.mono (fun m' x => ns_one n x ▸ n') ?_ mono, S.fresh, S.noloc, S.lm, S.nocell, hg.trans S.gens, ho.trans S.os, ?_⟩, ⟨List.prefix_rfl, ?_, fun p q => absurd p q, ?_⟩⟩
  · intro c o e
    exact k (fun e' => by subst e'; rw [S.noloc] at e; cases e) (S.keep c o e)
  · intro j zs e
    obtain ⟨l, c, ws, e', ⟨i, p⟩, q⟩ := S.hp.list e
    exact ⟨l, c, ws, e', ⟨i, k (fun e'' => S.lm (e'' ▸ List.mem_iff_getElem?.mpr ⟨_, e'⟩)) p⟩, monos q⟩
  · intro j e
    obtain ⟨c, i, e', p⟩ := S.hp.dict e
    exact ⟨c, i, e', k (fun e'' => S.lm (e'' ▸ List.mem_iff_getElem?.mpr ⟨_, e'⟩)) p⟩
  · intro x c o e1 e2
    refine k (fun e' => ?_) e2
    subst e'
    obtain ⟨v, ob, eb, db⟩ := S.er.cell e1
    obtain ⟨o', es, ep, ho', hd, _⟩ := n
    rw [eb] at ho'; cases ho'; rw [db] at hd; cases hd
  · intro c z
    obtain ⟨o, e⟩ := S.zl z
    by_cases hc : c = env.locals
    · subst hc; obtain ⟨o', _, _, ho', _⟩ := n'; exact ⟨o', ho'⟩
    · exact ⟨o, k hc e⟩
  · intro c o e q
    exact k (fun e' => q (.inr (.inl e'))) e
  · intro c o e
    by_cases hc : c = env.locals
    · subst hc; obtain ⟨o', _, _, ho', _⟩ := n'; exact ⟨o', ho'⟩
    · exact ⟨o, k hc e⟩

theorem St.tok (S : St C base b env Γ ρ μ H s) (t : Nat) : St C base b env Γ ρ μ H { s with toks := t } := S.grow (fun e => e) rfl rfl

theorem St.push (S : St C base b env Γ ρ μ H s) (o : Obj) : St C base b env Γ ρ μ H { s with heap := s.heap.push o } := S.grow (fun e => Heap.get?_push_of_some _ e) rfl rfl
theorem Ext.push (o : Obj) : Ext env μ μ h (h.push o) := Ext.grow (fun e => Heap.get?_push_of_some _ e)

theorem mem_get {μ : List Addr} {a : Addr} (q : a ∈ μ) : ∃ i : Nat, μ[i]? = some a := List.mem_iff_getElem?.mp q
theorem get_mem {μ : List Addr} {a : Addr} {i : Nat} (q : μ[i]? = some a) : a ∈ μ := List.mem_iff_getElem?.mpr ⟨i, q⟩
theorem HeapR.live (R : HeapR C μ H h) {a : Addr} (q : a ∈ μ) : ∃ o, h.get? a = some o := by
  obtain ⟨i, e⟩ := mem_get q
  obtain ⟨o, eo⟩ := R.get e
  cases o with
  | list xs => obtain ⟨_, a', vs, e', ⟨n, p⟩, _⟩ := R.list eo; rw [e] at e'; cases e'; exact ⟨_, p⟩
  | dict => obtain ⟨a', n, e', p⟩ := R.dict eo; rw [e] at e'; cases e'; exact ⟨_, p⟩
theorem none_size (h : Heap) : h.get? h.objs.size = none := by
  cases e : h.get? h.objs.size with
  | none => rfl
  | some o => exact absurd (Heap.lt_size e) (Nat.lt_irrefl _)
theorem none_ge {h : Heap} {a : Addr} (ha : h.objs.size ≤ a) : h.get? a = none := by
  cases e : h.get? a with
  | none => rfl
  | some o => exact absurd (Heap.lt_size e) (Nat.not_lt.mpr ha)

/-- a list that stands beside the tracked ones is tracked from here on -/
theorem St.track (S : St C base b env Γ ρ μ H s) {a : Addr} {vs : List Value} {xs : List AV} (hl : s.heap.PlainList a vs.toArray) (hv : VRs C μ s.heap xs vs) (hn : a ∉ μ) (hb : base.get? a = none) (hz : xs.length ≤ lim) :
    St C base b env Γ ρ (μ ++ [a]) (H ++ [.list xs]) s := by
  have mono : ∀ {x : AV} {v : Value}, VR C μ s.heap x v → VR C (μ ++ [a]) s.heap x v := fun q =>
    VR.mono' (P := fun _ => False) (List.prefix_append ..) (fun e _ => e) (fun _ => id) (fun _ _ => id) q
  have monos : ∀ {x : List AV} {v : List Value}, VRs C μ s.heap x v → VRs C (μ ++ [a]) s.heap x v := fun q =>
    VRs.mono' (P := fun _ => False) (List.prefix_append ..) (fun e _ => e) (fun _ => id) (fun _ _ => id) q
  refine ⟨S.keep, ⟨?_, ?_, ?_, ?_⟩, S.er.mono (fun _ e => e) (fun _ _ _ _ e => e) mono, ?_, S.noloc, ?_, S.nocell, S.gens, S.os, S.zl⟩
  · simp [S.hp.len]
  · rw [List.nodup_append]
    refine ⟨S.hp.nd, by simp, fun x hx y hy e => ?_⟩
    simp at hy; subst hy; subst e; exact hn hx
  · intro i ys e
    by_cases hi : i < H.length
    · rw [List.getElem?_append_left hi] at e
      obtain ⟨l, c, us, e', p, q⟩ := S.hp.list e
      exact ⟨l, c, us, get_prefix (List.prefix_append ..) e', p, monos q⟩
    · rw [List.getElem?_append_right (Nat.not_lt.mp hi)] at e
      have hi0 : i - H.length = 0 := by
        cases h0 : i - H.length with
        | zero => rfl
        | succ k => rw [h0] at e; simp at e
      rw [hi0] at e; simp at e; subst e
      have : i = μ.length := by rw [S.hp.len]; (first | lia | omega)
      exact ⟨hz, a, vs, by rw [this]; simp, hl, monos hv⟩
  · intro i e
    by_cases hi : i < H.length
    · rw [List.getElem?_append_left hi] at e
      obtain ⟨c, n, e', p⟩ := S.hp.dict e
      exact ⟨c, n, get_prefix (List.prefix_append ..) e', p⟩
    · rw [List.getElem?_append_right (Nat.not_lt.mp hi)] at e
      cases h0 : i - H.length with
      | zero => rw [h0] at e; simp at e
      | succ k => rw [h0] at e; simp at e
  · intro i c hi e
    by_cases hl' : i < μ.length
    · rw [List.getElem?_append_left hl'] at e; exact S.fresh hi e
    · rw [List.getElem?_append_right (Nat.not_lt.mp hl')] at e
      cases h0 : i - μ.length with
      | zero => rw [h0] at e; simp at e; subst e; exact hb
      | succ k => rw [h0] at e; simp at e
  · intro q
    rcases List.mem_append.mp q with q | q
    · exact S.lm q
    · simp at q
      obtain ⟨m, n, _⟩ := S.er.ns
      obtain ⟨o, es, ep, ho, hd, _⟩ := n
      obtain ⟨k, p⟩ := hl
      rw [q, p] at ho; cases ho; cases hd
theorem Ext.track {a : Addr} (ha : h.get? a = none) (k : ∀ {a : Addr} {o : Obj}, h.get? a = some o → h'.get? a = some o) : Ext env μ (μ ++ [a]) h h' :=
  ⟨List.prefix_append .., fun e _ => k e, fun p q => by
    rcases List.mem_append.mp p with p | p
    · exact absurd p q
    · simp at p; subst p; exact ha, fun e => ⟨_, k e⟩⟩
theorem Ext.trackX {a : Addr} (x : Ext env μ μ' h h') (ha : h.get? a = none) : Ext env μ (μ' ++ [a]) h h' :=
  ⟨x.pre.trans (List.prefix_append ..), x.stay, fun p q => by
    rcases List.mem_append.mp p with p | p
    · exact x.new p q
    · simp at p; subst p; exact ha, x.live⟩

theorem base_none (S : St C base b env Γ ρ μ H s) {a : Addr} (ha : s.heap.get? a = none) : base.get? a = none := by
  cases e : base.get? a with
  | none => rfl
  | some o => rw [S.keep _ _ e] at ha; cases ha
theorem not_mem (S : St C base b env Γ ρ μ H s) {a : Addr} (ha : s.heap.get? a = none) : a ∉ μ := fun q => by
  obtain ⟨o, e⟩ := S.hp.live q; rw [ha] at e; cases e

/-- a new list -/
theorem St.newList (S : St C base b env Γ ρ μ H s) {vs : List Value} {xs : List AV} (hv : VRs C μ s.heap xs vs) (hz : xs.length ≤ lim) :
    St C base b env Γ ρ (μ ++ [s.heap.objs.size]) (H ++ [.list xs]) { s with heap := s.heap.push { cls := .type "list", data := .seq vs.toArray } } :=
  (S.push _).track (vs := vs) ⟨0, Heap.get?_push_size _ rfl⟩ (hv.keeps fun e => Heap.get?_push_of_some _ e) (not_mem S (none_size _)) (base_none S (none_size _)) hz
theorem Ext.newList {o : Obj} : Ext env μ (μ ++ [h.objs.size]) h (h.push o) := Ext.track (none_size _) fun e => Heap.get?_push_of_some _ e

theorem PlainList.not_ns {a : Addr} {items : Array Value} {m : Str → Option Value} (p : h.PlainList a items) (n : h.Ns a m) : False := by
  obtain ⟨k, p⟩ := p
  obtain ⟨o, es, ep, ho, hd, _⟩ := n
  rw [p] at ho; cases ho; cases hd
theorem PlainList.not_cell {a : Addr} {items : Array Value} {v : Option Value} (p : h.PlainList a items) (n : h.IsCell a v) : False := by
  obtain ⟨k, p⟩ := p
  obtain ⟨o, ho, hd⟩ := n
  rw [p] at ho; cases ho; cases hd

/-- a tracked list turns -/
theorem St.turn (S : St C base b env Γ ρ μ H s) {r : Nat} {a : Addr} {xs ys : List AV} {us : List Value} {h' : Heap} (er : H[r]? = some (.list xs)) (ea : μ[r]? = some a) (hb : b ≤ r)
    (hl : h'.PlainList a us.toArray) (hs : Heap.SameBut a s.heap h') (hv : VRs C μ s.heap ys us) (hz : ys.length ≤ lim) :
    St C base b env Γ ρ μ (H.set r (.list ys)) { s with heap := h' } ∧ Ext env μ μ s.heap h' := by
  obtain ⟨_, a', vs, ea', pl, _⟩ := S.hp.list er
  rw [ea] at ea'; cases ea'
  have st : ∀ {c : Addr} {o : Obj}, s.heap.get? c = some o → ¬ (c = a) → h'.get? c = some o := fun e n => (hs.2 _ n).trans e
  have ht : ∀ {c : Addr} {items : Array Value}, s.heap.IsTuple c items → ¬ (c = a) := fun t e => by subst e; exact notOwn_tuple S.hp S.er t (.inl (get_mem ea))
  have hf : ∀ {c : Addr} {o : Obj} {vs : Array Value}, s.heap.get? c = some o → o.data = .fields vs → ¬ (c = a) := fun e d e' => by subst e'; exact notOwn_fields S.hp S.er e d (.inl (get_mem ea))
  have mono : ∀ {x : AV} {v : Value}, VR C μ s.heap x v → VR C μ h' x v := fun q => VR.mono' (P := (· = a)) List.prefix_rfl st ht hf q
  have monos : ∀ {x : List AV} {v : List Value}, VRs C μ s.heap x v → VRs C μ h' x v := fun q => VRs.mono' (P := (· = a)) List.prefix_rfl st ht hf q
  have hne : ∀ {i : Nat} {c : Addr}, i ≠ r → μ[i]? = some c → c ≠ a := fun {i c} hi e e' => by
    subst e'
    obtain ⟨h1, e1⟩ := List.getElem?_eq_some_iff.mp e
    obtain ⟨h2, e2⟩ := List.getElem?_eq_some_iff.mp ea
    exact hi ((List.getElem?_inj h1 S.hp.nd).mp (e.trans ea.symm))
  have hr : r < H.length := (List.getElem?_eq_some_iff.mp er).1
  refine ⟨⟨?_, ⟨?_, S.hp.nd, ?_, ?_⟩, S.er.mono ?_ ?_ mono, S.fresh, S.noloc, S.lm, S.nocell, S.gens, S.os, ?_⟩, ⟨List.prefix_rfl, ?_, fun p q => absurd p q, ?_⟩⟩
  · intro c o e
    refine st (S.keep c o e) fun e' => ?_
    subst e'; rw [S.fresh hb ea] at e; cases e
  · simp [S.hp.len]
  · intro i zs e
    by_cases hi : i = r
    · subst hi
      rw [List.getElem?_set_self hr] at e
      cases e
      exact ⟨hz, a, us, ea, hl, monos hv⟩
    · rw [List.getElem?_set_ne (Ne.symm hi)] at e
      obtain ⟨l, c, ws, e', ⟨n, p⟩, q⟩ := S.hp.list e
      exact ⟨l, c, ws, e', ⟨n, st p (hne hi e')⟩, monos q⟩
  · intro i e
    by_cases hi : i = r
    · subst hi
      rw [List.getElem?_set_self hr] at e
      cases e
    · rw [List.getElem?_set_ne (Ne.symm hi)] at e
      obtain ⟨c, n, e', p⟩ := S.hp.dict e
      exact ⟨c, n, e', st p (hne hi e')⟩
  · intro m n
    exact n.at fun _ e => st e fun e' => PlainList.not_ns pl (e' ▸ n)
  · intro x c o e1 e2
    refine st e2 fun e' => ?_
    obtain ⟨v, n⟩ := S.er.cell e1
    exact PlainList.not_cell pl (e' ▸ n)
  · intro c z
    obtain ⟨o, e⟩ := S.zl z
    by_cases hc : c = a
    · subst hc; obtain ⟨k, p⟩ := hl; exact ⟨_, p⟩
    · exact ⟨o, st e hc⟩
  · intro c o e n
    exact st e fun e' => n (.inl (e' ▸ get_mem ea))
  · intro c o e
    by_cases hc : c = a
    · subst hc; obtain ⟨k, p⟩ := hl; exact ⟨_, p⟩
    · exact ⟨o, st e hc⟩

theorem slot_lt {Γ : List Str} {x : Str} {i : Nat} (e : slot Γ x = some i) : Γ[i]? = some x := by
  unfold slot at e
  rw [List.findIdx?_eq_some_iff_getElem] at e
  obtain ⟨hi, h1, _⟩ := e
  rw [List.getElem?_eq_getElem hi]; exact congrArg some (eq_of_beq h1)
theorem slot_inj {Γ : List Str} {x y : Str} {i : Nat} (e : slot Γ x = some i) (e' : slot Γ y = some i) : x = y := by
  have := slot_lt e
  rw [slot_lt e'] at this
  exact (Option.some.inj this).symm

/-- a name is bound -/
theorem St.bind {A : Around} {E : Value → Shared → Prop} {M : Model} (S : St C base b env Γ ρ μ H s) {x : Str} {i : Nat} {v : AV} {u : Value} {Q : Unit → Shared → Prop} (ex : slot Γ x = some i)
    (hk : env.kindOf x = some .local ∨ env.kindOf x = some .cell) (hv : VR C μ s.heap v u)
    (h : ∀ s', St C base b env Γ (ρ.set i (some v)) μ H s' → Ext env μ μ s.heap s'.heap → Q () s') : wpAny M A (storeName env x u) Q E s := by
  have hset : ∀ {y : Str} {j : Nat} {z : AV}, slot Γ y = some j → (ρ.set i (some v))[j]? = some (some z) → (y = x ∧ z = v) ∨ (y ≠ x ∧ ρ[j]? = some (some z)) := by
    intro y j z ey e
    by_cases hj : j = i
    · subst hj
      have := slot_inj ex ey
      subst this
      by_cases hl : j < ρ.length
      · rw [List.getElem?_set_self hl] at e; cases e; exact .inl ⟨rfl, rfl⟩
      · rw [List.set_eq_of_length_le (Nat.not_lt.mp hl), List.getElem?_eq_none (Nat.not_lt.mp hl)] at e; cases e
    · rw [List.getElem?_set_ne (Ne.symm hj)] at e
      refine .inr ⟨fun e' => hj ?_, e⟩
      subst e'; rw [ex] at ey; exact (Option.some.inj ey).symm
  rcases hk with hk | hk
  · obtain ⟨m, n, q⟩ := S.er.ns
    refine wpAny_storeName_local hk n (fun h' n' hs => ?_) (by rw [S.er.kind]; rfl)
    have st : ∀ {c : Addr} {o : Obj}, s.heap.get? c = some o → ¬ (c = env.locals) → h'.get? c = some o := fun e n => (hs.2 _ n).trans e
    have ht : ∀ {c : Addr} {items : Array Value}, s.heap.IsTuple c items → ¬ (c = env.locals) := fun t e => by subst e; exact notOwn_tuple S.hp S.er t (.inr (.inl rfl))
    have hf : ∀ {c : Addr} {o : Obj} {vs : Array Value}, s.heap.get? c = some o → o.data = .fields vs → ¬ (c = env.locals) := fun e d e' => by subst e'; exact notOwn_fields S.hp S.er e d (.inr (.inl rfl))
    have mono : ∀ {x : AV} {v : Value}, VR C μ s.heap x v → VR C μ h' x v := fun q => VR.mono' (P := (· = env.locals)) List.prefix_rfl st ht hf q
    have monos : ∀ {x : List AV} {v : List Value}, VRs C μ s.heap x v → VRs C μ h' x v := fun q => VRs.mono' (P := (· = env.locals)) List.prefix_rfl st ht hf q
    refine h _ ⟨?_, ⟨S.hp.len, S.hp.nd, ?_, ?_⟩, ⟨S.er.kind, ⟨_, n', ?_⟩, ?_, ?_, S.er.inj, S.er.globals, S.er.builtins⟩, S.fresh, S.noloc, S.lm, S.nocell, S.gens, S.os, ?_⟩ ⟨List.prefix_rfl, ?_, fun p q => absurd p q, ?_⟩
    · intro c o e
      exact st (S.keep c o e) fun e' => by subst e'; rw [S.noloc] at e; cases e
    · intro j zs e
      obtain ⟨l, c, ws, e', pl, q⟩ := S.hp.list e
      obtain ⟨k, p⟩ := id pl
      exact ⟨l, c, ws, e', ⟨k, st p fun e'' => PlainList.not_ns pl (e'' ▸ n)⟩, monos q⟩
    · intro j e
      obtain ⟨c, k, e', p⟩ := S.hp.dict e
      refine ⟨c, k, e', st p fun e'' => ?_⟩
      exact S.lm (e'' ▸ get_mem e')
    · intro y j z ey ky ez
      rcases hset ey ez with ⟨rfl, rfl⟩ | ⟨ne, ez⟩
      · exact ⟨u, if_pos rfl, mono hv⟩
      · obtain ⟨u', e', v'⟩ := q ey ky ez
        exact ⟨u', by rw [if_neg ne]; exact e', mono v'⟩
    · intro y ky
      obtain ⟨c, o, e, hc, q⟩ := S.er.cells ky
      have hcL : c ≠ env.locals := fun e' => by
        subst e'; obtain ⟨ob, eb, db⟩ := hc; obtain ⟨o', es, ep, ho, hd, _⟩ := n
        rw [eb] at ho; cases ho; rw [db] at hd; cases hd
      refine ⟨c, o, e, hc.sameBut hs hcL, fun {j z} ey ez => ?_⟩
      rcases hset ey ez with ⟨rfl, rfl⟩ | ⟨ne, ez⟩
      · rw [hk] at ky; rcases ky with ky | ky <;> cases ky
      · obtain ⟨u', e', v'⟩ := q ey ez
        exact ⟨u', e', mono v'⟩
    · intro y c e
      obtain ⟨o, hc⟩ := S.er.cell e
      have hcL : c ≠ env.locals := fun e' => by
        subst e'; obtain ⟨ob, eb, db⟩ := hc; obtain ⟨o', es, ep, ho, hd, _⟩ := n
        rw [eb] at ho; cases ho; rw [db] at hd; cases hd
      exact ⟨o, hc.sameBut hs hcL⟩
    · intro c z
      obtain ⟨o, e⟩ := S.zl z
      by_cases hc : c = env.locals
      · subst hc; obtain ⟨o', _, _, ho', _⟩ := n'; exact ⟨o', ho'⟩
      · exact ⟨o, st e hc⟩
    · intro c o e n
      exact st e fun e' => n (.inr (.inl e'))
    · intro c o e
      by_cases hc : c = env.locals
      · subst hc; obtain ⟨o', _, _, ho', _⟩ := n'; exact ⟨o', ho'⟩
      · exact ⟨o, st e hc⟩
  · obtain ⟨c₀, o₀, ec, hc₀, _⟩ := S.er.cells (.inl hk)
    refine wpAny_storeName_cell S.er.kind hk ec hc₀ fun h' hc' hs => ?_
    have own : Own μ env c₀ := .inr (.inr ⟨x, ec⟩)
    have st : ∀ {c : Addr} {o : Obj}, s.heap.get? c = some o → ¬ (c = c₀) → h'.get? c = some o := fun e n => (hs.2 _ n).trans e
    have ht : ∀ {c : Addr} {items : Array Value}, s.heap.IsTuple c items → ¬ (c = c₀) := fun t e => by subst e; exact notOwn_tuple S.hp S.er t own
    have hf : ∀ {c : Addr} {o : Obj} {vs : Array Value}, s.heap.get? c = some o → o.data = .fields vs → ¬ (c = c₀) := fun e d e' => by subst e'; exact notOwn_fields S.hp S.er e d own
    have mono : ∀ {x : AV} {v : Value}, VR C μ s.heap x v → VR C μ h' x v := fun q => VR.mono' (P := (· = c₀)) List.prefix_rfl st ht hf q
    have monos : ∀ {x : List AV} {v : List Value}, VRs C μ s.heap x v → VRs C μ h' x v := fun q => VRs.mono' (P := (· = c₀)) List.prefix_rfl st ht hf q
    obtain ⟨m, n, q⟩ := S.er.ns
    have hcL : env.locals ≠ c₀ := fun e' => by
      subst e'; obtain ⟨ob, eb, db⟩ := hc₀; obtain ⟨o', es, ep, ho, hd, _⟩ := n
      rw [eb] at ho; cases ho; rw [db] at hd; cases hd
    refine h _ ⟨?_, ⟨S.hp.len, S.hp.nd, ?_, ?_⟩, ⟨S.er.kind, ⟨m, n.sameBut hs hcL, ?_⟩, ?_, ?_, S.er.inj, S.er.globals, S.er.builtins⟩, S.fresh, S.noloc, S.lm, S.nocell, S.gens, S.os, ?_⟩ ⟨List.prefix_rfl, ?_, fun p q => absurd p q, ?_⟩
    · intro c o e
      exact st (S.keep c o e) fun e' => by subst e'; rw [S.nocell ec] at e; cases e
    · intro j zs e
      obtain ⟨l, c, ws, e', pl, q⟩ := S.hp.list e
      obtain ⟨k, p⟩ := id pl
      exact ⟨l, c, ws, e', ⟨k, st p fun e'' => PlainList.not_cell pl (e'' ▸ hc₀)⟩, monos q⟩
    · intro j e
      obtain ⟨c, k, e', p⟩ := S.hp.dict e
      refine ⟨c, k, e', st p fun e'' => ?_⟩
      subst e''
      obtain ⟨ob, eb, db⟩ := hc₀
      rw [p] at eb; cases eb; cases db
    · intro y j z ey ky ez
      rcases hset ey ez with ⟨rfl, rfl⟩ | ⟨ne, ez⟩
      · rw [hk] at ky; cases ky
      · obtain ⟨u', e', v'⟩ := q ey ky ez
        exact ⟨u', e', mono v'⟩
    · intro y ky
      obtain ⟨c, o, e, hc, q⟩ := S.er.cells ky
      by_cases hcc : c = c₀
      · have hyx : y = x := S.er.inj (hcc ▸ e) ec
        subst hyx
        refine ⟨c₀, some u, ec, hc', fun {j z} ey ez => ?_⟩
        rcases hset ey ez with ⟨_, rfl⟩ | ⟨ne, _⟩
        · exact ⟨u, rfl, mono hv⟩
        · exact absurd rfl ne
      · refine ⟨c, o, e, hc.sameBut hs hcc, fun {j z} ey ez => ?_⟩
        rcases hset ey ez with ⟨rfl, rfl⟩ | ⟨ne, ez⟩
        · rw [ec] at e; cases e; exact absurd rfl hcc
        · obtain ⟨u', e', v'⟩ := q ey ez
          exact ⟨u', e', mono v'⟩
    · intro y c e
      by_cases hcc : c = c₀
      · exact ⟨some u, hcc ▸ hc'⟩
      · obtain ⟨o, hc⟩ := S.er.cell e
        exact ⟨o, hc.sameBut hs hcc⟩
    · intro c z
      obtain ⟨o, e⟩ := S.zl z
      by_cases hc : c = c₀
      · subst hc; obtain ⟨ob, eb, _⟩ := hc'; exact ⟨ob, eb⟩
      · exact ⟨o, st e hc⟩
    · intro c o e n
      exact st e fun e' => n (e' ▸ own)
    · intro c o e
      by_cases hc : c = c₀
      · subst hc; obtain ⟨ob, eb, _⟩ := hc'; exact ⟨ob, eb⟩
      · exact ⟨o, st e hc⟩

theorem St.notZ (S : St C base b env Γ ρ μ H s) {a : Addr} (h : s.heap.get? a = none) : ¬ C.z a := fun z => by
  obtain ⟨o, e⟩ := S.zl z
  rw [h] at e; cases e
end
end Mine

namespace Mine
open PySem PySem.Calls PyProof.Rows

/-! The ledger's rules for a state of ours: every object but the frame's table is on the ledger. -/
noncomputable def allNews (h : Heap) (L : Addr) : List (Addr × Obj) := (List.range h.objs.size).filterMap fun a => if a = L then none else (h.get? a).map fun o => (a, o)
theorem get_empty (a : Addr) : ({} : Heap).get? a = none := by simp [Heap.get?]
theorem fr0 {h : Heap} {L : Addr} {m : Str → Option Value} (n : h.Ns L m) : Fr {} L h m := ⟨n, fun b o e => (by rw [get_empty] at e; cases e), Nat.zero_le _⟩
theorem mem_allNews {h : Heap} {L a : Addr} {o : Obj} (hne : a ≠ L) (e : h.get? a = some o) : (a, o) ∈ allNews h L := by
  unfold allNews
  rw [List.mem_filterMap]
  exact ⟨a, List.mem_range.mpr (Heap.lt_size e), by rw [if_neg hne, e]; rfl⟩
theorem news0 (h : Heap) (L : Addr) : News {} L h (allNews h L) := by
  intro p hp
  unfold allNews at hp
  rw [List.mem_filterMap] at hp
  obtain ⟨a, _, e⟩ := hp
  split at e
  · cases e
  · rename_i hne
    cases eo : h.get? a with
    | none => rw [eo] at e; cases e
    | some o => rw [eo] at e; cases e; exact ⟨eo, hne, get_empty _⟩
theorem news_keep {h h' : Heap} {L : Addr} {l : List (Addr × Obj)} (N : News {} L h' (l ++ allNews h L)) {a : Addr} {o : Obj} (hne : a ≠ L) (e : h.get? a = some o) : h'.get? a = some o :=
  (N (a, o) (List.mem_append_right _ (mem_allNews hne e))).1

structure AOk (A : Around) (n : Nat) : Prop where
  depth : A.depth + n + 60 < recursionLimit
  units : A.units + 4 * n + 400 < cLine
  handled : A.handled = none

section
variable {C : Cx} {μ : List Addr} {h h' base : Heap} {env : Env} {Γ : List Str} {ρ : AEnv} {H H' : AHeap} {b : Nat} {s s' : Shared} {A : Around} {E : Value → Shared → Prop} {Q : Value → Shared → Prop}

/-- what is wanted behind an expression -/
abbrev After (C : Cx) (base : Heap) (b : Nat) (env : Env) (Γ : List Str) (ρ : AEnv) (μ : List Addr) (s : Shared) (v : AV) (H' : AHeap) (Q : Value → Shared → Prop) : Prop :=
  ∀ (u : Value) (s' : Shared) (μ' : List Addr), Ext env μ μ' s.heap s'.heap → St C base b env Γ ρ μ' H' s' → VR C μ' s'.heap v u → Q u s'

theorem small_bits {i : Int} (h : small i = true) : Builtin.Int.intBits i ≤ 64 := by
  have h' : i.natAbs < 2 ^ 60 := of_decide_eq_true h
  exact intBits_le_64 (by (first | lia | omega)) (by (first | lia | omega))
theorem big_bits {i : Int} (h : i.natAbs < big) : Builtin.Int.intBits i ≤ 2 ^ 20 := by
  unfold Builtin.Int.intBits
  split
  · exact Nat.zero_le _
  · rename_i hn
    have hn' : i.natAbs ≠ 0 := by intro e; apply hn; rw [beq_iff_eq]; (first | lia | omega)
    have : i.natAbs.log2 < 5000 := (Nat.log2_lt hn').mpr h
    have h2 : (5000 : Nat) < 2 ^ 20 := by decide
    (first | lia | omega)
theorem mulOk_ok {a c : Int} (h : mulOk a c = true) : IntMulOk a c := by
  unfold mulOk at h
  simp only [Bool.or_eq_true, Bool.and_eq_true, decide_eq_true_eq] at h
  rcases h with (h | h) | h
  · exact .of_left (small_bits h)
  · exact .of_right (small_bits h)
  · exact .of_bits (big_bits h.1) (big_bits h.2)
theorem big_noPylong {x y : Int} (h : y.natAbs < big) : Builtin.divisionGoesByPylong x y = false := by
  refine PyProof.noPylong_of_log2 ?_
  by_cases h0 : y.natAbs = 0
  · rw [h0]; decide
  · have : y.natAbs.log2 < 5000 := (Nat.log2_lt h0).mpr h
    (first | lia | omega)
theorem lim_line {n : Nat} (h : n ≤ lim) : n ≤ sizeLine := Nat.le_trans h (by decide)

theorem IsList.of_plain {h : Heap} {a : Addr} {items : Array Value} (p : h.PlainList a items) : h.IsList a items := let ⟨n, e⟩ := p; ⟨_, e, rfl, n, rfl⟩

/-- what a rule of the ledger's brings: one new list, all else stays -/
theorem St.ledger (S : St C base b env Γ ρ μ H s) {m : Str → Option Value} {a : Addr} {xs : List AV} {vs : List Value} {h' : Heap} {n : Nat} {l : List (Addr × Obj)} (nm : s.heap.Ns env.locals m)
    (F : Fr {} env.locals h' m) (N : News {} env.locals h' (l ++ allNews s.heap env.locals)) (hl : (a, ({ cls := .type "list", data := .seq vs.toArray n } : Obj)) ∈ l)
    (ha : s.heap.get? a = none) (hv : VRs C μ s.heap xs vs) (hz : xs.length ≤ lim) : St C base b env Γ ρ (μ ++ [a]) (H ++ [.list xs]) { s with heap := h' } ∧ Ext env μ (μ ++ [a]) s.heap h' := by
  have k : ∀ {a : Addr} {o : Obj}, a ≠ env.locals → s.heap.get? a = some o → h'.get? a = some o := fun hne e => news_keep N hne e
  obtain ⟨S', X⟩ := S.growL (s' := { s with heap := h' }) nm F.ns k rfl rfl
  have hv' : VRs C μ h' xs vs := VRs.mono S.hp S.er X hv
  have hp : h'.PlainList a vs.toArray := ⟨n, (N _ (List.mem_append_left _ hl)).1⟩
  exact ⟨S'.track hp hv' (not_mem S ha) (base_none S ha) hz, X.trackX ha⟩

theorem VR.isInt {i : Int} {u : Value} (q : VR C μ h (.int i) u) : ∃ t, u = .int i t := by cases q; exact ⟨_, rfl⟩
theorem VR.isRef {r : Nat} {u : Value} (q : VR C μ h (.ref r) u) : ∃ a, u = .ref a ∧ μ[r]? = some a := by cases q; exact ⟨_, rfl, by assumption⟩

theorem VRs.replicate {xs : List AV} {vs : List Value} (q : VRs C μ h xs vs) : ∀ n : Nat, VRs C μ h (List.replicate n xs).flatten (List.replicate n vs).flatten
  | 0 => .nil
  | n + 1 => by simp only [List.replicate_succ, List.flatten_cons]; exact q.append (VRs.replicate q n)

theorem foldl_flat (items : Array Value) : ∀ (n : Nat) (acc : Array Value), List.foldl (fun x1 x2 => x1 ++ x2) acc (List.replicate n items) = (acc.toList ++ (List.replicate n items.toList).flatten).toArray
  | 0, acc => by simp
  | n + 1, acc => by simp only [List.replicate_succ, List.foldl_cons]; rw [foldl_flat items n]; simp

theorem binop_ok {op : Operator} {x y v : AV} {p q : Value} (S : St C base b env Γ ρ μ H s) (hx : VR C μ s.heap x p) (hy : VR C μ s.heap y q) (e : binop op x y H = .ok v H')
    (k : After C base b env Γ ρ μ s v H' Q) : wpAny (model C.prog C.w) A (binaryOp op p q) Q E s := by
  unfold binop at e
  split at e
  · split at e
    · obtain ⟨t, rfl⟩ := hx.isInt; obtain ⟨u, rfl⟩ := hy.isInt; cases e
      exact wpAny_add_int (k _ _ μ .refl (S.tok _) (.int _ _))
    · obtain ⟨a, rfl, ea⟩ := hx.isRef; obtain ⟨c, rfl, ec⟩ := hy.isRef
      split at e
      · rename_i xs ys e1 e2
        unfold alloc at e
        split at e
        · rename_i hz; cases e
          obtain ⟨l1, a', vs, ea', p1, q1⟩ := S.hp.list e1
          obtain ⟨l2, c', us, ec', p2, q2⟩ := S.hp.list e2
          rw [ea] at ea'; cases ea'; rw [ec] at ec'; cases ec'
          obtain ⟨m, nm, _⟩ := S.er.ns
          refine add_arrays (fr0 nm) (news0 _ _) (IsList.of_plain p1) (IsList.of_plain p2) (fun h' F N => ?_) ?_
          · obtain ⟨S', X⟩ := S.ledger (l := [_]) nm F N (.head _) (none_size _) (q1.append q2) hz
            exact k _ _ _ X S' (.ref (by rw [← S.hp.len]; simp))
          · simp only [List.size_toArray]
            rw [← q1.length, ← q2.length, ← List.length_append]; exact lim_line hz
        · cases e
      · cases e
    · cases e
  · split at e
    · obtain ⟨t, rfl⟩ := hx.isInt; obtain ⟨u, rfl⟩ := hy.isInt; cases e
      exact PyProof.Rows.sub_int (k _ _ μ .refl (S.tok _) (.int _ _))
    · cases e
  · split at e
    · obtain ⟨t, rfl⟩ := hx.isInt; obtain ⟨u, rfl⟩ := hy.isInt
      split at e
      · rename_i hm; cases e
        exact PyProof.Rows.mul_int (k _ _ μ .refl (S.tok _) (.int _ _)) (mulOk_ok hm)
      · cases e
    · obtain ⟨a, rfl, ea⟩ := hx.isRef; obtain ⟨u, rfl⟩ := hy.isInt
      split at e
      · rename_i n _ xs e1
        split at e
        · rename_i hn
          unfold alloc at e
          split at e
          · rename_i hz; cases e
            obtain ⟨l1, a', vs, ea', p1, q1⟩ := S.hp.list e1
            rw [ea] at ea'; cases ea'
            obtain ⟨j, p1⟩ := p1
            obtain ⟨m, nm, _⟩ := S.er.ns
            have hb : n.natAbs < 2 ^ 60 := of_decide_eq_true hn.1
            refine mul_list (fr0 nm) (news0 _ _) p1 (by (first | lia | omega)) (by (first | lia | omega)) ?_ (fun h' F N => ?_)
            · rw [List.size_toArray, ← q1.length, Nat.mul_comm]
              exact Nat.le_trans hn.2 (by decide)
            · have hfl : (List.foldl (fun x1 x2 => x1 ++ x2) #[] (List.replicate (if vs.toArray.isEmpty = true then 0 else n.toNat) vs.toArray)) = (List.replicate n.toNat vs).flatten.toArray := by
                rw [foldl_flat]
                cases vs with
                | nil => simp
                | cons z zs => simp
              rw [hfl] at N
              obtain ⟨S', X⟩ := S.ledger (l := [_]) nm F N (.head _) (none_size _) (q1.replicate n.toNat) hz
              exact k _ _ _ X S' (.ref (by rw [← S.hp.len]; simp))
          · cases e
        · cases e
      · cases e
    · cases e
  · split at e
    · obtain ⟨t, rfl⟩ := hx.isInt; obtain ⟨u, rfl⟩ := hy.isInt
      split at e
      · rename_i hm; cases e
        exact PyProof.Rows.floordiv_int hm.1 (k _ _ μ .refl (S.tok _) (.int _ _)) (.inl (big_noPylong hm.2))
      · cases e
    · cases e
  · split at e
    · obtain ⟨t, rfl⟩ := hx.isInt; obtain ⟨u, rfl⟩ := hy.isInt
      split at e
      · rename_i hm; cases e
        exact PyProof.Rows.mod_int hm (k _ _ μ .refl (S.tok _) (.int _ _))
      · cases e
    · cases e
  · split at e
    · obtain ⟨t, rfl⟩ := hx.isInt; obtain ⟨u, rfl⟩ := hy.isInt
      split at e
      · rename_i hm; cases e
        refine PyProof.Rows.pow_int hm.1 ?_ (k _ _ μ .refl (S.tok _) (.int _ _))
        have h1 := small_bits hm.2.2
        rename_i i j
        have h2 : (Builtin.Int.intBits i : Int) * j ≤ 64 * 64 := Int.mul_le_mul (by (first | lia | omega)) hm.2.1 hm.1 (by (first | lia | omega))
        (first | lia | omega)
      · cases e
    · cases e
  · cases e
end
end Mine

namespace Mine
open PySem PySem.Calls PyProof.Rows PySem.SeqAt

section
variable {C : Cx} {μ : List Addr} {h h' base : Heap} {env : Env} {Γ : List Str} {ρ : AEnv} {H H' : AHeap} {b : Nat} {s s' : Shared} {A : Around} {E : Value → Shared → Prop} {Q : Value → Shared → Prop}

theorem ints_are : ∀ {xs : List AV} {is : List Int} {vs : List Value}, intsOf xs = some is → VRs C μ h xs vs → IntsAre vs is
  | [], is, _, e, .nil => by cases e; exact .nil
  | .int i :: xs, is, _, e, .cons q r => by
    obtain ⟨t, rfl⟩ := q.isInt
    simp only [intsOf] at e
    cases e' : intsOf xs with
    | none => rw [e'] at e; cases e
    | some js => rw [e'] at e; cases e; exact .cons i t (ints_are e' r)
  | .none :: _, _, _, e, _ => by cases e
  | .bool _ :: _, _, _, e, _ => by cases e
  | .str _ :: _, _, _, e, _ => by cases e
  | .tup _ :: _, _, _, e, _ => by cases e
  | .ref _ :: _, _, _, e, _ => by cases e
  | .scr :: _, _, _, e, _ => by cases e
  | .fn _ :: _, _, _, e, _ => by cases e
  | .exc _ :: _, _, _, e, _ => by cases e

inductive All2 {α β : Type} (P : α → β → Prop) : List α → List β → Prop
  | nil : All2 P [] []
  | cons {x : α} {y : β} {xs : List α} {ys : List β} : P x y → All2 P xs ys → All2 P (x :: xs) (y :: ys)
theorem mapM_some {f : AV → Option PyData} : ∀ {xs : List AV} {ds : List PyData}, xs.mapM f = some ds → All2 (fun x d => f x = some d) xs ds
  | [], ds, e => by simp at e; subst e; exact .nil
  | x :: xs, ds, e => by
    rw [List.mapM_cons] at e
    cases e1 : f x with
    | none => rw [e1] at e; cases e
    | some d =>
      rw [e1] at e
      cases e2 : xs.mapM f with
      | none => rw [e2] at e; cases e
      | some es => rw [e2] at e; cases e; exact .cons e1 (mapM_some e2)

theorem rds_reads {n : Nat} (ih : ∀ {v : AV} {u : Value} {d : PyData}, VR C μ h v u → rd H n v = some d → (∃ as, Reads h u d as) ∧ d.canLay0 = true ∧ d.depth ≤ n) : ∀ {xs : List AV} {ds : List PyData}, All2 (fun x d => rd H n x = some d) xs ds → ∀ {vs : List Value}, VRs C μ h xs vs →
    (∃ as, ReadsAll h vs ds as) ∧ PyData.canLayAll0 ds = true ∧ PyData.depthAll ds ≤ n := by
  intro xs ds es
  induction es with
  | nil => intro vs q; cases q; exact ⟨⟨_, .nil⟩, rfl, Nat.zero_le _⟩
  | cons e _ ihs =>
    intro vs q
    cases q with
    | cons q r =>
      obtain ⟨⟨a1, r1⟩, c1, d1⟩ := ih q e
      obtain ⟨⟨a2, r2⟩, c2, d2⟩ := ihs r
      exact ⟨⟨_, .cons r1 r2⟩, by simp only [PyData.canLayAll0, c1, c2]; rfl, by simp only [PyData.depthAll]; (first | lia | omega)⟩
theorem list_map_ok {α β : Type} {o : Option (List α)} {f : List α → β} {d : β} (e : o.map f = some d) : ∃ ds, o = some ds ∧ d = f ds := by
  cases o with
  | none => cases e
  | some ds => cases e; exact ⟨ds, rfl, rfl⟩
theorem rd_lit {n : Nat} {v : AV} {d e : PyData} (h : ∀ n, rd H n v = some e) (q : rd H n v = some d) : d = e := by
  rw [h n] at q; cases q; rfl
theorem rd_reads (R : HeapR C μ H h) : ∀ (n : Nat) {v : AV} {u : Value} {d : PyData}, VR C μ h v u → rd H n v = some d → (∃ as, Reads h u d as) ∧ d.canLay0 = true ∧ d.depth ≤ n := by
  intro n
  induction n with
  | zero =>
    intro v u d q e
    cases q with
    | none => cases rd_lit (e := .none) (fun n => by cases n <;> rfl) e; exact ⟨⟨_, .none⟩, rfl, Nat.le_refl _⟩
    | bool c => cases rd_lit (e := .bool c) (fun n => by cases n <;> rfl) e; exact ⟨⟨_, .bool c⟩, rfl, Nat.le_refl _⟩
    | int i t => cases rd_lit (e := .int i) (fun n => by cases n <;> rfl) e; exact ⟨⟨_, .int i t⟩, rfl, Nat.le_refl _⟩
    | str x t =>
      have e : (if PyData.strOk x then some (PyData.str x) else none) = some d := e
      by_cases hs : PyData.strOk x = true
      · rw [if_pos hs] at e; cases e; exact ⟨⟨_, .str x t⟩, hs, Nat.le_refl _⟩
      · rw [if_neg hs] at e; cases e
    | _ => cases e
  | succ n ih =>
    intro v u d q e
    cases q with
    | none => cases rd_lit (e := .none) (fun n => by cases n <;> rfl) e; exact ⟨⟨_, .none⟩, rfl, Nat.zero_le _⟩
    | bool c => cases rd_lit (e := .bool c) (fun n => by cases n <;> rfl) e; exact ⟨⟨_, .bool c⟩, rfl, Nat.zero_le _⟩
    | int i t => cases rd_lit (e := .int i) (fun n => by cases n <;> rfl) e; exact ⟨⟨_, .int i t⟩, rfl, Nat.zero_le _⟩
    | str x t =>
      have e : (if PyData.strOk x then some (PyData.str x) else none) = some d := e
      by_cases hs : PyData.strOk x = true
      · rw [if_pos hs] at e; cases e; exact ⟨⟨_, .str x t⟩, hs, Nat.zero_le _⟩
      · rw [if_neg hs] at e; cases e
    | tup t nz hz q =>
      obtain ⟨ds, e1, rfl⟩ := list_map_ok e
      obtain ⟨⟨as, r⟩, c, dd⟩ := rds_reads ih (mapM_some e1) q
      obtain ⟨o, ho, hc, k, hd⟩ := t
      exact ⟨⟨_, .tuple ho hc hd (by simpa using r)⟩, c, Nat.succ_le_succ dd⟩
    | @ref r a ea =>
      have e : (match H[r]? with | some (.list xs) => (xs.mapM (rd H n)).map PyData.list | _ => none) = some d := e
      cases e1 : H[r]? with
      | none => rw [e1] at e; cases e
      | some o =>
        cases o with
        | dict => rw [e1] at e; cases e
        | list xs =>
          rw [e1] at e
          obtain ⟨ds, e2, rfl⟩ := list_map_ok e
          obtain ⟨_, a', vs, ea', ⟨k, p⟩, q⟩ := R.list e1
          rw [ea] at ea'; cases ea'
          obtain ⟨⟨as, r⟩, c, dd⟩ := rds_reads ih (mapM_some e2) q
          exact ⟨⟨_, .list p rfl rfl (by simpa using r)⟩, c, Nat.succ_le_succ dd⟩
    | _ => cases e

theorem rd_shaped (R : HeapR C μ H h) {v : AV} {u : Value} {d : PyData} (q : VR C μ h v u) (e : rd H 8 v = some d) : (∃ as, Reads h u d as) ∧ shaped d = true := by
  obtain ⟨r, c, l⟩ := rd_reads R 8 q e
  refine ⟨r, ?_⟩
  unfold shaped
  rw [c, Bool.true_and, decide_eq_true_eq]; (first | lia | omega)

theorem any_mem {is : List Int} {i : Int} : is.any (· == i) = decide (i ∈ is) := by
  rw [Bool.eq_iff_iff, List.any_eq_true, decide_eq_true_eq]
  exact ⟨fun ⟨x, hx, e⟩ => (eq_of_beq e) ▸ hx, fun hx => ⟨i, hx, beq_self_eq_true i⟩⟩

theorem eq_rd {x y : AV} {p q : Value} {d e : PyData} {n : Nat} (S : St C base b env Γ ρ μ H s) (hx : VR C μ s.heap x p) (hy : VR C μ s.heap y q) (ex : rd H 8 x = some d) (ey : rd H 8 y = some e) (a : AOk A n)
    (k : Q (.bool (PyData.eqv d e)) s) : wpAny (model C.prog C.w) A (compareOp .Eq p q) Q E s := by
  obtain ⟨⟨as, ra⟩, sa⟩ := rd_shaped S.hp hx ex
  obtain ⟨⟨bs, rb⟩, sb⟩ := rd_shaped S.hp hy ey
  exact compareEq_shaped ra rb sa sb (by have := a.units; (first | lia | omega)) k
theorem ne_rd {x y : AV} {p q : Value} {d e : PyData} {n : Nat} (S : St C base b env Γ ρ μ H s) (hx : VR C μ s.heap x p) (hy : VR C μ s.heap y q) (ex : rd H 8 x = some d) (ey : rd H 8 y = some e) (a : AOk A n)
    (k : Q (.bool (!PyData.eqv d e)) s) : wpAny (model C.prog C.w) A (compareOp .NotEq p q) Q E s := by
  obtain ⟨⟨as, ra⟩, sa⟩ := rd_shaped S.hp hx ex
  obtain ⟨⟨bs, rb⟩, sb⟩ := rd_shaped S.hp hy ey
  exact compareNe_shaped ra rb sa sb (by have := a.units; (first | lia | omega)) k

theorem eqOf_ok {x y : AV} {r : Bool} {p q : Value} {n : Nat} (S : St C base b env Γ ρ μ H s) (hx : VR C μ s.heap x p) (hy : VR C μ s.heap y q) (e : eqOf x y H = some r) (a : AOk A n)
    (k : Q (.bool r) s) : wpAny (model C.prog C.w) A (compareOp .Eq p q) Q E s := by
  unfold eqOf at e
  split at e
  · rename_i d f e1 e2; cases e; exact eq_rd S hx hy e1 e2 a k
  · cases e
theorem neOf_ok {x y : AV} {r : Bool} {p q : Value} {n : Nat} (S : St C base b env Γ ρ μ H s) (hx : VR C μ s.heap x p) (hy : VR C μ s.heap y q) (e : (eqOf x y H).map (!·) = some r) (a : AOk A n)
    (k : Q (.bool r) s) : wpAny (model C.prog C.w) A (compareOp .NotEq p q) Q E s := by
  unfold eqOf at e
  split at e
  · rename_i d f e1 e2; cases e; exact ne_rd S hx hy e1 e2 a k
  · cases e
theorem inOf_spec {x y : AV} {r : Bool} {p q : Value} (S : St C base b env Γ ρ μ H s) (hx : VR C μ s.heap x p) (hy : VR C μ s.heap y q) (e : inOf x y H = some r) :
    ∃ (i : Int) (t : _) (c : Addr) (vs : List Value) (is : List Int), p = .int i t ∧ q = .ref c ∧ s.heap.IsList c vs.toArray ∧ IntsAre vs is ∧ r = decide (i ∈ is) := by
  unfold inOf at e
  split at e
  · obtain ⟨t, rfl⟩ := hx.isInt; obtain ⟨c, rfl, ec⟩ := hy.isRef
    split at e
    · rename_i xs e1
      cases e2 : intsOf xs with
      | none => rw [e2] at e; cases e
      | some is =>
        rw [e2] at e; cases e
        obtain ⟨_, a', vs, ea', p1, q1⟩ := S.hp.list e1
        rw [ec] at ea'; cases ea'
        exact ⟨_, t, c, vs, is, rfl, rfl, IsList.of_plain p1, ints_are e2 q1, rfl⟩
    · cases e
  · cases e
theorem cmpop_ok {op : CmpOp} {x y : AV} {r : Bool} {p q : Value} {n : Nat} (S : St C base b env Γ ρ μ H s) (hx : VR C μ s.heap x p) (hy : VR C μ s.heap y q) (e : cmpop op x y H = some r) (a : AOk A n)
    (k : Q (.bool r) s) : wpAny (model C.prog C.w) A (compareOp op p q) Q E s := by
  unfold cmpop at e
  split at e
  · split at e
    · obtain ⟨t, rfl⟩ := hx.isInt; obtain ⟨u, rfl⟩ := hy.isInt; cases e; exact PyProof.Rows.lt_int k
    · cases e
  · split at e
    · obtain ⟨t, rfl⟩ := hx.isInt; obtain ⟨u, rfl⟩ := hy.isInt; cases e; exact PyProof.Rows.le_int k
    · cases e
  · split at e
    · obtain ⟨t, rfl⟩ := hx.isInt; obtain ⟨u, rfl⟩ := hy.isInt; cases e; exact PyProof.Rows.gt_int k
    · cases e
  · split at e
    · obtain ⟨t, rfl⟩ := hx.isInt; obtain ⟨u, rfl⟩ := hy.isInt; cases e; exact PyProof.Rows.ge_int k
    · cases e
  · split at e
    · obtain ⟨t, rfl⟩ := hx.isInt; obtain ⟨u, rfl⟩ := hy.isInt; cases e; exact PyProof.Rows.eq_int k
    · exact eqOf_ok S hx hy e a k
  · split at e
    · obtain ⟨t, rfl⟩ := hx.isInt; obtain ⟨u, rfl⟩ := hy.isInt; cases e; exact PyProof.Rows.ne_int k
    · exact neOf_ok S hx hy e a k
  · obtain ⟨i, t, c, vs, is, rfl, rfl, p1, q1, rfl⟩ := inOf_spec S hx hy e
    exact in_list_ints p1 q1 (by rw [any_mem]; exact k)
  · cases e2 : inOf x y H with
    | none => rw [e2] at e; cases e
    | some r' =>
      rw [e2] at e; cases e
      obtain ⟨i, t, c, vs, is, rfl, rfl, p1, q1, rfl⟩ := inOf_spec S hx hy e2
      exact notin_list_ints p1 q1 (by rw [any_mem]; exact k)
  · split at e
    · cases hy
      unfold isNoneK at e
      split at e
      · cases hx; cases e; exact is_none_none k
      · cases hx; cases e; exact is_none_ne (by intro x; cases x) k
      · cases hx; cases e; exact is_none_ne (by intro x; cases x) k
      · cases hx; cases e; exact is_none_ne (by intro x; cases x) k
      · cases e
    · cases e
  · split at e
    · cases hy
      unfold isNoneK at e
      split at e
      · cases hx; cases e; exact isnot_none_none k
      · cases hx; cases e; exact isnot_none_ne (by intro x; cases x) k
      · cases hx; cases e; exact isnot_none_ne (by intro x; cases x) k
      · cases hx; cases e; exact isnot_none_ne (by intro x; cases x) k
      · cases e
    · cases e
end
end Mine

namespace Mine
open PySem PySem.Calls PyProof.Rows PySem.SeqAt

section
variable {C : Cx} {μ : List Addr} {h h' base : Heap} {env : Env} {Γ : List Str} {ρ : AEnv} {H H' : AHeap} {b : Nat} {s s' : Shared} {A : Around} {E : Value → Shared → Prop} {Q : Value → Shared → Prop} {n : Nat}
variable {strF : PyData → Option Str}

/-- everything stays, ints may be new -/
theorem After.grow {v : AV} {u : Value} (S : St C base b env Γ ρ μ H s) (k : After C base b env Γ ρ μ s v H Q) {h' : Heap} {tk : Nat} (g : ∀ {a : Addr} {o : Obj}, s.heap.get? a = some o → h'.get? a = some o)
    (q : VR C μ h' v u) : Q u { s with heap := h', toks := tk } :=
  k u { s with heap := h', toks := tk } μ (Ext.grow g) (S.grow (s' := { s with heap := h', toks := tk }) g rfl rfl) q
theorem After.led {v : AV} {u : Value} (S : St C base b env Γ ρ μ H s) (k : After C base b env Γ ρ μ s v H Q) {m : Str → Option Value} (nm : s.heap.Ns env.locals m) {h' : Heap} {tk : Nat}
    (F : Fr {} env.locals h' m) (N : News {} env.locals h' (allNews s.heap env.locals)) (q : VR C μ h' v u) : Q u { s with heap := h', toks := tk } := by
  obtain ⟨S', X⟩ := S.growL (s' := { s with heap := h', toks := tk }) nm F.ns (fun hne e => news_keep (l := []) N hne e) rfl rfl
  exact k u _ μ X S' q
/-- a new list at a new place, all else stays -/
theorem After.list {xs : List AV} {vs : List Value} {a : Addr} {n : Nat} (S : St C base b env Γ ρ μ H s) (k : After C base b env Γ ρ μ s (.ref H.length) (H ++ [.list xs]) Q) {h' : Heap} {tk : Nat} (g : ∀ {a : Addr} {o : Obj}, s.heap.get? a = some o → h'.get? a = some o)
    (ha : s.heap.get? a = none) (hl : h'.get? a = some { cls := .type "list", data := .seq vs.toArray n }) (hv : VRs C μ h' xs vs) (hz : xs.length ≤ lim) : Q (.ref a) { s with heap := h', toks := tk } := by
  have S' := (S.grow (s' := { s with heap := h', toks := tk }) g rfl rfl).track (a := a) (vs := vs) ⟨n, hl⟩ hv (not_mem S ha) (base_none S ha) hz
  exact k _ _ _ (Ext.track ha g) S' (.ref (by rw [← S.hp.len]; simp))

theorem VRs.one {x : AV} {us : List Value} (q : VRs C μ h [x] us) : ∃ u, us = [u] ∧ VR C μ h x u := by
  cases q with | cons a r => cases r; exact ⟨_, rfl, a⟩
theorem VRs.two {x y : AV} {us : List Value} (q : VRs C μ h [x, y] us) : ∃ u w, us = [u, w] ∧ VR C μ h x u ∧ VR C μ h y w := by
  cases q with | cons a r => cases r with | cons c r => cases r; exact ⟨_, _, rfl, a, c⟩

theorem dictOr {r : Nat} {a : Addr} (R : HeapR C μ H h) (e : μ[r]? = some a) : ∃ o, h.get? a = some o ∧ ((∃ xs, H[r]? = some (.list xs)) ∧ o.cls = .type "list" ∨ H[r]? = some .dict ∧ o.cls = .type "dict") := by
  obtain ⟨o, eo⟩ := R.get e
  cases o with
  | list xs => obtain ⟨_, a', vs, e', ⟨n, p⟩, _⟩ := R.list eo; rw [e] at e'; cases e'; exact ⟨_, p, .inl ⟨⟨xs, eo⟩, rfl⟩⟩
  | dict => obtain ⟨a', n, e', p⟩ := R.dict eo; rw [e] at e'; cases e'; exact ⟨_, p, .inr ⟨eo, rfl⟩⟩

/-- a list's or a tuple's items -/
inductive SeqR (C : Cx) (μ : List Addr) (h : Heap) (xs : List AV) (u : Value) : Prop
  | mk (l : xs.length ≤ lim) (a : Addr) (o : Obj) (vs : List Value) (k : Nat) (T : String) (e : u = .ref a) (t : T = "list" ∨ T = "tuple") (g : h.get? a = some o) (c : o.cls = .type T) (d : o.data = .seq (List.toArray vs) k) (q : VRs C μ h xs vs) : SeqR C μ h xs u
theorem items_seq (R : HeapR C μ H h) {v : AV} {u : Value} {xs : List AV} (q : VR C μ h v u) (e : items v H = some xs) :
    SeqR C μ h xs u := by
  unfold items at e
  split at e
  · cases e
    cases q with
    | tup t _ l r => obtain ⟨o, ho, hc, k, hd⟩ := t; exact ⟨l, _, o, _, k, "tuple", rfl, .inr rfl, ho, hc, hd, r⟩
  · obtain ⟨a, rfl, ea⟩ := q.isRef
    split at e
    · rename_i ys e1; cases e
      obtain ⟨l, a', vs, ea', ⟨k, p⟩, r⟩ := R.list e1
      rw [ea] at ea'; cases ea'
      exact ⟨l, a, _, vs, k, "list", rfl, .inl rfl, p, rfl, rfl, r⟩
    · cases e
  · cases e

inductive BoolsAre : List Value → List Bool → Prop
  | nil : BoolsAre [] []
  | cons (c : Bool) {vs : List Value} {cs : List Bool} : BoolsAre vs cs → BoolsAre (.bool c :: vs) (c :: cs)
theorem bools_are : ∀ {xs : List AV} {is : List Bool} {vs : List Value}, boolsOf xs = some is → VRs C μ h xs vs → BoolsAre vs is
  | [], is, _, e, .nil => by cases e; exact .nil
  | .bool i :: xs, is, _, e, .cons q r => by
    cases q
    simp only [boolsOf] at e
    cases e' : boolsOf xs with
    | none => rw [e'] at e; cases e
    | some js => rw [e'] at e; cases e; exact .cons i (bools_are e' r)
  | .none :: _, _, _, e, _ => by cases e
  | .int _ :: _, _, _, e, _ => by cases e
  | .str _ :: _, _, _, e, _ => by cases e
  | .tup _ :: _, _, _, e, _ => by cases e
  | .ref _ :: _, _, _, e, _ => by cases e
  | .scr :: _, _, _, e, _ => by cases e
  | .fn _ :: _, _, _, e, _ => by cases e
  | .exc _ :: _, _, _, e, _ => by cases e
theorem BoolsAre.get : ∀ {vs : List Value} {cs : List Bool}, BoolsAre vs cs → ∀ {i : Nat} {v : Value}, vs[i]? = some v → v = .bool (cs.getD i false)
  | _, _, .nil, _, _, e => by simp at e
  | _, _, .cons c r, 0, v, e => by simp at e; subst e; rfl
  | _, _, .cons c r, i + 1, v, e => by simp at e; simpa using r.get e
theorem BoolsAre.length : ∀ {vs : List Value} {cs : List Bool}, BoolsAre vs cs → vs.length = cs.length
  | _, _, .nil => rfl
  | _, _, .cons c r => by simp [r.length]
theorem all_range (cs : List Bool) : (List.range cs.length).all (fun i => cs.getD i false) = cs.all id := by
  rw [Bool.eq_iff_iff, List.all_eq_true, List.all_eq_true]
  constructor
  · intro q x hx
    obtain ⟨i, hi, rfl⟩ := List.mem_iff_getElem.mp hx
    have := q i (List.mem_range.mpr hi)
    simpa [List.getD_eq_getElem?_getD, hi] using this
  · intro q i hi
    have hi' := List.mem_range.mp hi
    have := q _ (List.getElem_mem hi')
    simpa [List.getD_eq_getElem?_getD, hi'] using this

theorem IntsAre_of {vs : List Value} {is : List Int} (q : IntsAre vs is) : VRs C μ h (is.map .int) vs := by
  induction q with
  | nil => exact .nil
  | cons n t _ ih => exact .cons (.int n t) ih

theorem rangeL_get {a c : Int} {i : Nat} (hi : i < (c - a).toNat) : (rangeL a c)[i]? = some (.int (a + i)) := by
  unfold rangeL
  rw [List.getElem?_map, List.getElem?_range hi]; rfl
theorem rangeL_length {a c : Int} : (rangeL a c).length = (c - a).toNat := by unfold rangeL; simp

theorem bad_ok {α : Type} {v : α} {H' : AHeap} {P : Prop} (e : (Res.bad : Res α) = .ok v H') : P := by cases e

structure Scr (C : Cx) (base : Heap) : Prop where
  scr : ∃ svs : List Value, base.IsList C.sa svs.toArray ∧ IntsAre svs C.sc ∧ C.sc.length ≤ lim

theorem isList_keeps {h h' : Heap} {a : Addr} {items : Array Value} (x : h.IsList a items) (k : ∀ o, h.get? a = some o → h'.get? a = some o) : h'.IsList a items := let ⟨o, e, r⟩ := x; ⟨o, k o e, r⟩

theorem len_ok {x v : AV} {u : Value} (G : Scr C base) (S : St C base b env Γ ρ μ H s) (hx : VR C μ s.heap x u) (e : prim strF C.sc .len [x] H = .ok v H')
    (k : After C base b env Γ ρ μ s v H' Q) : wpAny (model C.prog C.w) A (call (.builtin "len") [u]) Q E s := by
  by_cases hs : x = .scr
  · subst hs
    cases hx
    rw [p_lenS] at e
    cases e
    obtain ⟨svs, l, hi, hz⟩ := G.scr
    have l' : s.heap.IsList C.sa svs.toArray := isList_keeps l fun o => S.keep _ o
    have hlen : svs.length = C.sc.length := hi.length
    refine call_len_list l' ?_ (k _ _ μ .refl (S.tok _) ?_)
    · rw [List.size_toArray, hlen]
      have : C.sc.length < 2 ^ 63 := Nat.lt_of_le_of_lt hz (by decide)
      (first | lia | omega)
    · rw [List.size_toArray, hlen]; exact .int _ _
  · have e : (match items x H with | some xs => Res.ok (AV.int xs.length) H | none => .bad) = .ok v H' := by cases x <;> first | exact e | exact absurd rfl hs
    split at e
    · rename_i xs e1; cases e
      obtain ⟨hz, a, o, vs, j, T, rfl, hT, ho, hc, hd, q⟩ := items_seq S.hp hx e1
      have hsz : ((List.toArray vs).size : Int) < 2 ^ 63 := by
        rw [List.size_toArray, ← q.length]
        have : xs.length < 2 ^ 63 := Nat.lt_of_le_of_lt hz (by decide)
        (first | lia | omega)
      rcases hT with rfl | rfl
      · refine call_len_list ⟨o, ho, hc, j, hd⟩ hsz (k _ _ μ .refl (S.tok _) ?_)
        rw [List.size_toArray, ← q.length]; exact .int _ _
      · refine PyProof.Rows.len_tuple ⟨o, ho, hc, j, hd⟩ hsz (k _ _ μ .refl (S.tok _) ?_)
        rw [List.size_toArray, ← q.length]; exact .int _ _
    · cases e

theorem list_ok {x v : AV} {u : Value} (S : St C base b env Γ ρ μ H s) (hx : VR C μ s.heap x u) (e : prim strF C.sc .list [x] H = .ok v H')
    (k : After C base b env Γ ρ μ s v H' Q) : wpAny (model C.prog C.w) A (call (.type "list") [u]) Q E s := by
  rw [p_list] at e
  split at e
  · rename_i xs e1
    unfold alloc at e
    split at e
    · rename_i hz; cases e
      obtain ⟨_, a, o, vs, j, T, rfl, hT, ho, hc, hd, q⟩ := items_seq S.hp hx e1
      refine call_list_seq a hT ho hc hd (fun h' c' g hl => ?_) ?_
      · exact After.list S k (tk := s.toks) (fun e => g _ _ e) (none_size _) hl (q.keeps fun e => g _ _ e) hz
      · rw [List.size_toArray, ← q.length]; exact lim_line hz
    · cases e
  · cases e

theorem min2_ok {x y v : AV} {u w : Value} (S : St C base b env Γ ρ μ H s) (a : AOk A n) (hx : VR C μ s.heap x u) (hy : VR C μ s.heap y w) (e : prim strF C.sc .min2 [x, y] H = .ok v H')
    (k : After C base b env Γ ρ μ s v H' Q) : wpAny (model C.prog C.w) A (call (.builtin "min") [u, w]) Q E s := by
  cases x with
  | int i =>
    cases y with
    | int j =>
      obtain ⟨t, rfl⟩ := hx.isInt; obtain ⟨t', rfl⟩ := hy.isInt
      have e' : Res.ok (AV.int (min i j)) H = .ok v H' := e
      cases e'
      obtain ⟨m, nm, _⟩ := S.er.ns
      refine min_two_N a.handled (fr0 nm) (news0 _ _) fun h' tk F N => ?_
      have hm : (if j < i then j else i) = min i j := by split <;> (first | lia | omega)
      rw [hm]
      exact After.led S k nm F N (.int _ _)
    | _ => exact bad_ok (v := v) (H' := H') e
  | _ => exact bad_ok (v := v) (H' := H') e
theorem max2_ok {x y v : AV} {u w : Value} (S : St C base b env Γ ρ μ H s) (a : AOk A n) (hx : VR C μ s.heap x u) (hy : VR C μ s.heap y w) (e : prim strF C.sc .max2 [x, y] H = .ok v H')
    (k : After C base b env Γ ρ μ s v H' Q) : wpAny (model C.prog C.w) A (call (.builtin "max") [u, w]) Q E s := by
  cases x with
  | int i =>
    cases y with
    | int j =>
      obtain ⟨t, rfl⟩ := hx.isInt; obtain ⟨t', rfl⟩ := hy.isInt
      have e' : Res.ok (AV.int (max i j)) H = .ok v H' := e
      cases e'
      obtain ⟨m, nm, _⟩ := S.er.ns
      refine max_two_N a.handled (fr0 nm) (news0 _ _) fun h' tk F N => ?_
      have hm : (if j > i then j else i) = max i j := by split <;> (first | lia | omega)
      rw [hm]
      exact After.led S k nm F N (.int _ _)
    | _ => exact bad_ok (v := v) (H' := H') e
  | _ => exact bad_ok (v := v) (H' := H') e
end
end Mine

namespace Mine
open PySem PySem.Calls PyProof.Rows PySem.SeqAt

section
variable {C : Cx} {μ : List Addr} {h h' base : Heap} {env : Env} {Γ : List Str} {ρ : AEnv} {H H' : AHeap} {b : Nat} {s s' : Shared} {A : Around} {E : Value → Shared → Prop} {Q : Value → Shared → Prop} {n : Nat}
variable {strF : PyData → Option Str}

theorem IntsAre_get : ∀ {vs : List Value} {is : List Int}, IntsAre vs is → ∀ {i : Nat} {v : Value}, vs[i]? = some v → ∃ t, v = .int (is.getD i 0) t
  | _, _, .nil, _, _, e => by simp at e
  | _, _, .cons c t r, 0, v, e => by simp at e; subst e; exact ⟨t, rfl⟩
  | _, _, .cons c t r, i + 1, v, e => by simp at e; simpa using IntsAre_get r e

inductive PairR (C : Cx) (μ : List Addr) (h : Heap) (x y : AV) (u : Value) : Prop
  | mk (a : Addr) (p r : Value) (e : u = .ref a) (t : h.IsTuple a #[p, r]) (v : VR C μ h x p) (w : VR C μ h y r) : PairR C μ h x y u
theorem pairOf {x y : AV} {u : Value} (q : VR C μ h (.tup [x, y]) u) : PairR C μ h x y u := by
  cases q with
  | tup t _ l vs => obtain ⟨p, r, rfl, h1, h2⟩ := vs.two; exact ⟨_, p, r, rfl, t, h1, h2⟩

theorem all_ok {r : Nat} {xs : List AV} {cs : List Bool} {u : Value} (S : St C base b env Γ ρ μ H s) (a : AOk A n) (hx : VR C μ s.heap (.ref r) u) (e1 : H[r]? = some (.list xs)) (e2 : boolsOf xs = some cs)
    (k : After C base b env Γ ρ μ s (.bool (cs.all id)) H Q) : wpAny (model C.prog C.w) A (call (.builtin "all") [u]) Q E s := by
  obtain ⟨c, rfl, ec⟩ := hx.isRef
  obtain ⟨_, a', vs, ea', p1, q1⟩ := S.hp.list e1
  rw [ec] at ea'; cases ea'
  have hb := bools_are e2 q1
  have hlt : c < s.heap.objs.size := by obtain ⟨_, ho⟩ := p1; exact Heap.lt_size ho
  refine call_all_walk (wpAny_pyIter_list (IsList.of_plain p1) ?_)
  refine ⟨_, _, _, _, _, _, fun i => cs.getD i false, rfl, Walks.list (A := A.in1) a.handled _ c (Nat.ne_of_lt hlt) vs.toArray, ⟨⟨_, Heap.get?_push_size _ rfl, rfl, rfl⟩, (IsList.of_plain p1).push _⟩, ?_, fun h' tk hk => ?_⟩
  · intro i v s Q E e q
    have := hb.get (by simpa using e)
    subst this
    exact wpAny_truthy_bool q
  · have g : ∀ {a : Addr} {o : Obj}, s.heap.get? a = some o → h'.get? a = some o := fun {a o} e => hk a o (by simp; exact Nat.ne_of_lt (Heap.lt_size e)) (Heap.get?_push_of_some _ e)
    refine After.grow S k g ?_
    rw [List.size_toArray, hb.length, all_range]
    exact .bool _

theorem insertI_perm (x : Int) : ∀ l : List Int, (insertI x l).Perm (x :: l)
  | [] => List.Perm.refl _
  | y :: r => by
    unfold insertI
    split
    · exact List.Perm.refl _
    · exact ((insertI_perm x r).cons y).trans (List.Perm.swap x y r)
theorem sortI_perm : ∀ l : List Int, (sortI l).Perm l
  | [] => List.Perm.refl _
  | x :: r => (insertI_perm x _).trans ((sortI_perm r).cons x)
theorem insertI_sorted (x : Int) : ∀ {l : List Int}, l.Pairwise (· ≤ ·) → (insertI x l).Pairwise (· ≤ ·)
  | [], _ => by simp [insertI]
  | y :: r, q => by
    unfold insertI
    split
    · rename_i hxy
      rw [List.pairwise_cons] at q ⊢
      refine ⟨fun z hz => ?_, by rw [List.pairwise_cons]; exact q⟩
      rcases List.mem_cons.mp hz with rfl | hz
      · exact hxy
      · exact Int.le_trans hxy (q.1 z hz)
    · rename_i hxy
      rw [List.pairwise_cons] at q ⊢
      refine ⟨fun z hz => ?_, insertI_sorted x q.2⟩
      have := (insertI_perm x r).mem_iff.mp hz
      rcases List.mem_cons.mp this with rfl | hz
      · (first | lia | omega)
      · exact q.1 z hz
theorem sortI_sorted : ∀ l : List Int, (sortI l).Pairwise (· ≤ ·)
  | [] => .nil
  | x :: r => insertI_sorted x (sortI_sorted r)

theorem sorted_same : ∀ {a b : List Int}, a.Perm b → a.Pairwise (· ≤ ·) → b.Pairwise (· ≤ ·) → a = b
  | [], b, p, _, _ => (List.Perm.eq_nil p.symm).symm
  | x :: a, b, p, ha, hb => by
    cases b with
    | nil => exact absurd p.symm.length_eq (by simp)
    | cons y b =>
      have h1 := List.pairwise_cons.mp ha
      have h2 := List.pairwise_cons.mp hb
      have e : x = y := by
        have q1 : x ∈ y :: b := p.subset List.mem_cons_self
        have q2 : y ∈ x :: a := p.symm.subset List.mem_cons_self
        rcases List.mem_cons.mp q1 with q | q
        · exact q
        · rcases List.mem_cons.mp q2 with r | r
          · exact r.symm
          · have := h2.1 x q; have := h1.1 y r; (first | lia | omega)
      subst e
      rw [sorted_same (List.Perm.cons_inv p) h1.2 h2.2]
theorem sorted_ok {r : Nat} {xs : List AV} {is : List Int} {u : Value} (S : St C base b env Γ ρ μ H s) (hx : VR C μ s.heap (.ref r) u) (e1 : H[r]? = some (.list xs)) (e2 : intsOf xs = some is) (h64 : xs.length < 64)
    (k : After C base b env Γ ρ μ s (.ref H.length) (H ++ [.list ((sortI is).map .int)]) Q) : wpAny (model C.prog C.w) A (call (.builtin "sorted") [u]) Q E s := by
  obtain ⟨c, rfl, ec⟩ := hx.isRef
  obtain ⟨hz, a', vs, ea', p1, q1⟩ := S.hp.list e1
  rw [ec] at ea'; cases ea'
  obtain ⟨m, nm, _⟩ := S.er.ns
  have hi := ints_are e2 q1
  refine sorted_N (fr0 nm) (news0 _ _) (IsList.of_plain p1) hi (by rw [← q1.length]; exact h64) fun h' vs' ns' e F N hI' hp hs' => ?_
  have hns : ns' = sortI is := sorted_same (hp.trans (sortI_perm is).symm) hs' (sortI_sorted is)
  subst hns
  have hlen : ((sortI is).map AV.int).length ≤ lim := by
    rw [List.length_map, (sortI_perm is).length_eq, ← hi.length, ← q1.length]; exact hz
  obtain ⟨S', X⟩ := S.ledger (l := [_]) (n := e) nm F N (by exact .head _) (none_ge (Nat.le_succ _)) (IntsAre_of hI') hlen
  exact k _ _ _ X S' (.ref (by rw [← S.hp.len]; simp))

theorem listRange_ok {c : Int} {r : Addr} {t u v : Tok} (S : St C base b env Γ ρ μ H s) (a : AOk A n) (hr : IsRange s.heap r 0 c 1 t u v) (hc : inR c = true)
    (k : After C base b env Γ ρ μ s (.ref H.length) (H ++ [.list (rangeL 0 c)]) Q) : wpAny (model C.prog C.w) A (call (.type "list") [.ref r]) Q E s := by
  have hc1 : -1000 ≤ c ∧ c ≤ 1000 := of_decide_eq_true hc
  have hsize : Builtin.Range.rangeSize 0 c 1 = ((c - 0).toNat : Int) := by
    unfold Builtin.Range.rangeSize
    simp
    split
    · (first | lia | omega)
    · (first | lia | omega)
  refine call_list_range a.handled hr ?_ hsize (by (first | lia | omega)) fun h' tk acc' c' g hl hi => ?_
  · exact small_one (by decide) (by decide) (by (first | lia | omega)) (by (first | lia | omega))
  · have hv : VRs C μ h' (rangeL 0 c) acc'.toList := by
      refine VRs.of_get ?_ fun i x w e1 e2 => ?_
      · rw [rangeL_length, Array.length_toList, hi.1]
      · have hi' : i < (c - 0).toNat := by rw [← rangeL_length]; exact (List.getElem?_eq_some_iff.mp e1).1
        rw [rangeL_get hi'] at e1
        cases e1
        obtain ⟨t', rfl⟩ := hi.2 i w (by simpa using e2)
        simp
        exact .int _ _
    refine After.list (n := c') (vs := acc'.toList) S k (fun e => g _ _ e) (none_size _) (by simpa using hl) hv ?_
    rw [rangeL_length]
    have : (c - 0).toNat ≤ 1000 := by (first | lia | omega)
    exact Nat.le_trans this (by decide)

theorem isInt_ok {x : AV} {r : Bool} {u : Value} (S : St C base b env Γ ρ μ H s) (hx : VR C μ s.heap x u) (e : isIntK x = some r) (k : After C base b env Γ ρ μ s (.bool r) H Q) :
    wpAny (model C.prog C.w) A (call (.builtin "isinstance") [u, .type "int"]) Q E s := by
  have yes : r = true → Q (.bool true) s := fun hr => by subst hr; exact k _ _ μ .refl S (.bool _)
  have no : r = false → Q (.bool false) { s with toks := s.toks + 1 } := fun hr => by subst hr; exact k _ _ μ .refl (S.tok _) (.bool _)
  cases hx <;> simp [isIntK] at e <;> subst e
  · exact IsiPair.NoneType_int (no rfl)
  · exact IsiPair.bool_int (yes rfl)
  · exact IsiPair.int_int (yes rfl)
  · exact IsiPair.str_int (no rfl)
  · rename_i t _ _ _; obtain ⟨o, ho, hc, _⟩ := t; exact IsiPair.tuple_int ho hc (no rfl)
  · rename_i ea
    obtain ⟨o, ho, ⟨_, hc⟩ | ⟨_, hc⟩⟩ := dictOr S.hp ea
    · exact IsiPair.list_int ho hc (no rfl)
    · exact IsiPair.dict_int ho hc (no rfl)
theorem isBool_ok {x : AV} {r : Bool} {u : Value} (S : St C base b env Γ ρ μ H s) (hx : VR C μ s.heap x u) (e : isBoolK x = some r) (k : After C base b env Γ ρ μ s (.bool r) H Q) :
    wpAny (model C.prog C.w) A (call (.builtin "isinstance") [u, .type "bool"]) Q E s := by
  have yes : r = true → Q (.bool true) s := fun hr => by subst hr; exact k _ _ μ .refl S (.bool _)
  have no : r = false → Q (.bool false) { s with toks := s.toks + 1 } := fun hr => by subst hr; exact k _ _ μ .refl (S.tok _) (.bool _)
  cases hx <;> simp [isBoolK] at e <;> subst e
  · exact IsiPair.NoneType_bool (no rfl)
  · exact IsiPair.bool_bool (yes rfl)
  · exact IsiPair.int_bool (no rfl)
  · exact IsiPair.str_bool (no rfl)
  · rename_i t _ _ _; obtain ⟨o, ho, hc, _⟩ := t; exact IsiPair.tuple_bool ho hc (no rfl)
  · rename_i ea
    obtain ⟨o, ho, ⟨_, hc⟩ | ⟨_, hc⟩⟩ := dictOr S.hp ea
    · exact IsiPair.list_bool ho hc (no rfl)
    · exact IsiPair.dict_bool ho hc (no rfl)
theorem isTuple_ok {x : AV} {r : Bool} {u : Value} (S : St C base b env Γ ρ μ H s) (hx : VR C μ s.heap x u) (e : isTupleK x = some r) (k : After C base b env Γ ρ μ s (.bool r) H Q) :
    wpAny (model C.prog C.w) A (call (.builtin "isinstance") [u, .type "tuple"]) Q E s := by
  have yes : r = true → Q (.bool true) s := fun hr => by subst hr; exact k _ _ μ .refl S (.bool _)
  have no : r = false → Q (.bool false) { s with toks := s.toks + 1 } := fun hr => by subst hr; exact k _ _ μ .refl (S.tok _) (.bool _)
  cases hx <;> simp [isTupleK] at e <;> subst e
  · exact IsiPair.NoneType_tuple (no rfl)
  · exact IsiPair.bool_tuple (no rfl)
  · exact IsiPair.int_tuple (no rfl)
  · exact IsiPair.str_tuple (no rfl)
  · rename_i t _ _ _; obtain ⟨o, ho, hc, _⟩ := t; exact IsiPair.tuple_tuple ho hc (yes rfl)
  · rename_i ea
    obtain ⟨o, ho, ⟨_, hc⟩ | ⟨_, hc⟩⟩ := dictOr S.hp ea
    · exact IsiPair.list_tuple ho hc (no rfl)
    · exact IsiPair.dict_tuple ho hc (no rfl)
theorem isList_ok {x : AV} {r : Bool} {u : Value} (S : St C base b env Γ ρ μ H s) (hx : VR C μ s.heap x u) (e : isListK x H = some r) (k : After C base b env Γ ρ μ s (.bool r) H Q) :
    wpAny (model C.prog C.w) A (call (.builtin "isinstance") [u, .type "list"]) Q E s := by
  have yes : r = true → Q (.bool true) s := fun hr => by subst hr; exact k _ _ μ .refl S (.bool _)
  have no : r = false → Q (.bool false) { s with toks := s.toks + 1 } := fun hr => by subst hr; exact k _ _ μ .refl (S.tok _) (.bool _)
  cases hx with
  | none => simp [isListK] at e; exact IsiPair.NoneType_list (no e)
  | bool => simp [isListK] at e; exact IsiPair.bool_list (no e)
  | int => simp [isListK] at e; exact IsiPair.int_list (no e)
  | str => simp [isListK] at e; exact IsiPair.str_list (no e)
  | tup t => simp [isListK] at e; obtain ⟨o, ho, hc, _⟩ := t; exact IsiPair.tuple_list ho hc (no e)
  | ref ea =>
    obtain ⟨o, ho, ⟨⟨xs, e1⟩, hc⟩ | ⟨e1, hc⟩⟩ := dictOr S.hp ea
    · simp [isListK, e1] at e; exact IsiPair.list_list ho hc (yes e)
    · simp [isListK, e1] at e; exact IsiPair.dict_list ho hc (no e)
  | scr => simp [isListK] at e
  | fn => simp [isListK] at e
  | exc => simp [isListK] at e
end
end Mine

namespace Mine
open PySem PySem.Calls PyProof.Rows PySem.SeqAt

noncomputable def biVals : List (Str × Value) := [("len", .builtin "len"), ("range", .type "range"), ("list", .type "list"), ("tuple", .type "tuple"), ("sorted", .builtin "sorted"), ("set", .type "set"), ("min", .builtin "min"), ("max", .builtin "max"),
  ("sum", .builtin "sum"), ("all", .builtin "all"), ("isinstance", .builtin "isinstance"), ("int", .type "int"), ("bool", .type "bool"), ("str", .type "str"), ("zip", .type "zip"), ("ValueError", .type "ValueError")]

inductive DefR (T : Tab) (base : Heap) (a : Addr) (f : FnI) : Prop
  | mk (o : Obj) (fd : FuncData) (body : List Stmt) (h1 : base.get? a = some o) (h2 : o.data = .func fd) (h3 : fd.body = .stmts body) (h4 : fd.globals = mainGlobals) (h5 : fd.closure = []) (h6 : fd.defaults = .none) (h7 : fd.builtins = builtinsNs)
    (h8 : base.CodeRec fd.code fd.qualname) (h9 : chkFn T f fd.params body fd.scope = true) : DefR T base a f
structure Gnd (C : Cx) (T : Tab) (base : Heap) : Prop where
  scr : Scr C base
  g : base.Ns mainGlobals C.mg
  b : base.Ns builtinsNs C.mb
  bi : ∀ {x : Str} {v : Value}, biVals.lookup x = some v → C.mg x = none ∧ C.mb x = some v
  fn : ∀ {k : Nat} {x : Str}, T.fns.lookup k = some x → C.mg x = some (.ref (C.fa k)) ∧ ∃ o fd, base.get? (C.fa k) = some o ∧ o.data = .func fd
  gint : ∀ {k : Nat} {x : Str} {i : Int}, T.gints.lookup k = some (x, i) → ∃ t, C.mg x = some (.int i t)
  exc : ∀ {k : Nat} {x : Str}, T.excs.lookup k = some x → C.mg x = some (C.ea k)
  nolimit : base.NoLimit
  defs : ∀ {k : Nat} {f : FnI}, T.defs.lookup k = some f → DefR T base (C.fa k) f

inductive GetOk {α β : Type} (r : Res α) (f : α → AHeap → Res β) (v : β) (H' : AHeap) : Prop
  | mk (a : α) (H1 : AHeap) (e1 : r = .ok a H1) (e2 : f a H1 = .ok v H') : GetOk r f v H'
theorem Res.get_ok {α β : Type} {r : Res α} {f : α → AHeap → Res β} {v : β} {H' : AHeap} (e : r.get f = .ok v H') : GetOk r f v H' := by
  cases r with
  | ok a H1 => exact ⟨a, H1, rfl, e⟩
  | exc c H1 => cases e
  | bad => cases e
theorem Res.thn_ok {α β : Type} {r : Res α} {f : α → AHeap → Res β} {v : β} {H' : AHeap} (e : r.thn f = .ok v H') : GetOk r f v H' := by
  cases r with
  | ok a H1 => exact ⟨a, H1, rfl, e⟩
  | exc c H1 => cases e
  | bad => cases e

section
variable (C : Cx) (T : Tab) (n b : Nat) (Γ : List Str) (S : Scope)
/-- the tree e does what d says -/
structure EvOk (e : Expr) (d : AEnv → AHeap → Res AV) : Prop where
  ok : ∀ {base : Heap} {env : Env} {ρ : AEnv} {μ : List Addr} {H H' : AHeap} {s : Shared} {A : Around} {E : Value → Shared → Prop} {Q : Value → Shared → Prop} {v : AV},
    Gnd C T base → env.scope = S → St C base b env Γ ρ μ H s → AOk A n → d ρ H = .ok v H' → After C base b env Γ ρ μ s v H' Q → wpAny (model C.prog C.w) A (eval e env) Q E s
structure TrOk (e : Expr) (d : AEnv → AHeap → Res Bool) : Prop where
  ok : ∀ {base : Heap} {env : Env} {ρ : AEnv} {μ : List Addr} {H H' : AHeap} {s : Shared} {A : Around} {E : Value → Shared → Prop} {Q : Bool → Shared → Prop} {v : Bool},
    Gnd C T base → env.scope = S → St C base b env Γ ρ μ H s → AOk A n → d ρ H = .ok v H' → (∀ s' μ', Ext env μ μ' s.heap s'.heap → St C base b env Γ ρ μ' H' s' → Q v s') →
    wpAny (model C.prog C.w) A (isTrue e env (eval e env)) Q E s
structure EsOk (es : List Expr) (d : AEnv → AHeap → Res (List AV)) : Prop where
  ok : ∀ {base : Heap} {env : Env} {ρ : AEnv} {μ : List Addr} {H H' : AHeap} {s : Shared} {A : Around} {E : Value → Shared → Prop} {Q : List Value → Shared → Prop} {vs : List AV} {pos : Pos},
    Gnd C T base → env.scope = S → St C base b env Γ ρ μ H s → AOk A n → d ρ H = .ok vs H' → (∀ us s' μ', Ext env μ μ' s.heap s'.heap → St C base b env Γ ρ μ' H' s' → VRs C μ' s'.heap vs us → Q us s') →
    wpAny (model C.prog C.w) A (spliced (backTo pos (starEach es env))) Q E s
end

theorem starEach_cons {e : Expr} {r : List Expr} {env : Env} (h : notStar e = true) : starEach (e :: r) env = (false, eval e env) :: starEach r env := by
  cases e <;> first | rfl | cases h

section
variable {C : Cx} {T : Tab} {n b : Nat} {Γ : List Str} {S : Scope}

theorem EvOk.const {e : Expr} {d : AEnv → AHeap → Res AV} {v : AV} (hd : ∀ ρ H, d ρ H = .ok v H)
    (he : ∀ {env : Env} {A : Around} {E Q} {s : Shared} {μ : List Addr}, (∀ u tk, VR C μ s.heap v u → Q u { s with toks := tk }) → wpAny (model C.prog C.w) A (eval e env) Q E s) : EvOk C T n b Γ S e d := by
  refine ⟨?_⟩
  intro base env ρ μ H H' s A E Q v' G hS st a ed k
  rw [hd] at ed; cases ed
  exact he (μ := μ) fun u tk q => k u _ μ .refl (st.tok tk) q

theorem EvOk.cNone {k : Nat} {pos : Pos} {d : AEnv → AHeap → Res AV} (hd : ∀ ρ H, d ρ H = .ok .none H) : EvOk C T n b Γ S (.Constant .none k pos) d :=
  .const hd fun {_ _ _ _ s _} k => wpAny_Constant_none (k _ s.toks .none)
theorem EvOk.cBool {c : Bool} {k : Nat} {pos : Pos} {d : AEnv → AHeap → Res AV} (hd : ∀ ρ H, d ρ H = .ok (.bool c) H) : EvOk C T n b Γ S (.Constant (.bool c) k pos) d :=
  .const hd fun {_ _ _ _ s _} k => wpAny_Constant_bool (k _ s.toks (.bool _))
theorem EvOk.cInt {c : Int} {k : Nat} {pos : Pos} {d : AEnv → AHeap → Res AV} (hd : ∀ ρ H, d ρ H = .ok (.int c) H) : EvOk C T n b Γ S (.Constant (.int c) k pos) d :=
  .const hd fun {_ _ _ _ s _} k => wpAny_Constant_int (k _ _ (.int _ _))
theorem isVarK_cases {S : Scope} {x : Str} (h : isVarK S x = true) : (kindIn S x = some .local ∨ kindIn S x = some .cell ∨ kindIn S x = some .free) ∧ (x == ("__debug__" : Str)) = false ∧ (x == ("__classdict__" : Str)) = false := by
  unfold isVarK at h
  simp only [Bool.and_eq_true, Bool.or_eq_true, beq_iff_eq, Bool.not_eq_true'] at h
  obtain ⟨⟨(h1 | h1) | h1, h2⟩, h3⟩ := h
  · exact ⟨.inl h1, h2, h3⟩
  · exact ⟨.inr (.inl h1), h2, h3⟩
  · exact ⟨.inr (.inr h1), h2, h3⟩
theorem EvOk.var {x : Str} {pos : Pos} {i : Nat} {d : AEnv → AHeap → Res AV} (hs : slot Γ x = some i) (hk : isVarK S x = true)
    (hd : ∀ ρ H, d ρ H = (match ρ[i]? with | some (some v) => .ok v H | _ => .bad)) : EvOk C T n b Γ S (.Name x pos) d := by
  refine ⟨?_⟩
  intro base env ρ μ H H' s A E Q v G hS st a ed k
  rw [hd] at ed
  split at ed
  · rename_i w ew; cases ed
    obtain ⟨hk, h1, h2⟩ := isVarK_cases hk
    refine wpAny_Name ?_ h1
    rw [← hS] at hk
    rcases hk with hk | hk | hk
    · obtain ⟨m, nm, q⟩ := st.er.ns
      obtain ⟨u, eu, vu⟩ := q hs hk ew
      exact wpAny_loadName_local st.er.kind hk nm eu (k u s μ .refl st vu)
    · obtain ⟨c, o, ec, hc, q⟩ := st.er.cells (.inl hk)
      obtain ⟨u, rfl, vu⟩ := q hs ew
      exact wpAny_loadName_cell st.er.kind hk ec hc (k u s μ .refl st vu)
    · obtain ⟨c, o, ec, hc, q⟩ := st.er.cells (.inr hk)
      obtain ⟨u, rfl, vu⟩ := q hs ew
      exact wpAny_loadName_free st.er.kind hk ec hc (k u s μ .refl st vu) h2
  · cases ed

theorem isGlob_cases {S : Scope} {x : Str} (h : isGlob S x = true) : kindIn S x = some .globalImplicit ∧ (x == ("__debug__" : Str)) = false := by
  unfold isGlob at h
  simp only [Bool.and_eq_true, beq_iff_eq, Bool.not_eq_true'] at h
  exact h

section
variable {base : Heap} {env : Env} {ρ : AEnv} {μ : List Addr} {H H' : AHeap} {s : Shared} {A : Around} {E : Value → Shared → Prop} {Q : Value → Shared → Prop}
theorem glob_ok {x : Str} {pos : Pos} {u : Value} (G : Gnd C T base) (hS : env.scope = S) (st : St C base b env Γ ρ μ H s) (hg : isGlob S x = true) (hx : C.mg x = some u) (k : Q u s) : wpAny (model C.prog C.w) A (eval (.Name x pos) env) Q E s := by
  obtain ⟨h1, h2⟩ := isGlob_cases hg
  rw [← hS] at h1
  refine Name_function_global st.er.kind h1 (loadGlobal_global (mg := C.mg) ?_ hx k) h2
  rw [st.er.globals]; exact G.g.keeps st.keep
theorem builtin_ok {x : Str} {pos : Pos} {u : Value} (G : Gnd C T base) (hS : env.scope = S) (st : St C base b env Γ ρ μ H s) (hg : isGlob S x = true) (hx : biVals.lookup x = some u) (k : Q u s) : wpAny (model C.prog C.w) A (eval (.Name x pos) env) Q E s := by
  obtain ⟨h1, h2⟩ := isGlob_cases hg
  obtain ⟨h3, h4⟩ := G.bi hx
  rw [← hS] at h1
  refine Name_function_global st.er.kind h1 (loadGlobal_builtin (mg := C.mg) (mb := C.mb) ?_ h3 ?_ h4 k) h2
  · rw [st.er.globals]; exact G.g.keeps st.keep
  · rw [st.er.builtins]; exact G.b.keeps st.keep
end

theorem EvOk.gint {x : Str} {pos : Pos} {k : Nat} {i : Int} {d : AEnv → AHeap → Res AV} (hx : T.gints.lookup k = some (x, i)) (hg : isGlob S x = true) (hd : ∀ ρ H, d ρ H = .ok (.int i) H) : EvOk C T n b Γ S (.Name x pos) d := by
  refine ⟨?_⟩
  intro base env ρ μ H H' s A E Q v G hS st a ed q
  rw [hd] at ed; cases ed
  obtain ⟨t, e⟩ := G.gint hx
  exact glob_ok G hS st hg e (q _ _ μ .refl st (.int i t))

/-- two trees, one behind the other -/
theorem two_ok {l r : Expr} {d1 d2 : AEnv → AHeap → Res AV} (h1 : EvOk C T n b Γ S l d1) (h2 : EvOk C T n b Γ S r d2)
    {base : Heap} {env : Env} {ρ : AEnv} {μ : List Addr} {H H1 H2 : AHeap} {s : Shared} {A : Around} {E : Value → Shared → Prop} {Q : Value → Value → Shared → Prop} {v w : AV}
    (G : Gnd C T base) (hS : env.scope = S) (st : St C base b env Γ ρ μ H s) (a : AOk A n) (e1 : d1 ρ H = .ok v H1) (e2 : d2 ρ H1 = .ok w H2)
    (k : ∀ p q s' μ', Ext env μ μ' s.heap s'.heap → St C base b env Γ ρ μ' H2 s' → VR C μ' s'.heap v p → VR C μ' s'.heap w q → Q p q s') :
    wpAny (model C.prog C.w) A (eval l env) (fun p s₁ => wpAny (model C.prog C.w) A (eval r env) (fun q s₂ => Q p q s₂) E s₁) E s :=
  h1.ok G hS st a e1 fun p s1 μ1 X1 S1 V1 => h2.ok G hS S1 a e2 fun q s2 μ2 X2 S2 V2 => k p q s2 μ2 (X1.trans X2) S2 (V1.mono S1.hp S1.er X2) V2

theorem EvOk.bin {l r : Expr} {op : Operator} {pos : Pos} {d d1 d2 : AEnv → AHeap → Res AV} (h1 : EvOk C T n b Γ S l d1) (h2 : EvOk C T n b Γ S r d2)
    (hd : ∀ ρ H, d ρ H = (d1 ρ H).get fun v H => (d2 ρ H).get fun w H => binop op v w H) : EvOk C T n b Γ S (.BinOp l op r pos) d := by
  refine ⟨?_⟩
  intro base env ρ μ H H' s A E Q v G hS st a ed k
  rw [hd] at ed
  obtain ⟨x, H1, e1, ed⟩ := Res.get_ok ed
  obtain ⟨y, H2, e2, ed⟩ := Res.get_ok ed
  refine wpAny_BinOp (two_ok h1 h2 G hS st a e1 e2 fun p q s' μ' X S' V W => ?_)
  exact binop_ok S' V W ed fun u s'' μ'' X' S'' V' => k u s'' μ'' (X.trans X') S'' V'
theorem EvOk.not {x : Expr} {pos : Pos} {d d1 : AEnv → AHeap → Res AV} (h1 : EvOk C T n b Γ S x d1) (hd : ∀ ρ H, d ρ H = (d1 ρ H).get fun v H => (match v with | .bool i => .ok (.bool (!i)) H | _ => .bad)) : EvOk C T n b Γ S (.UnaryOp .Not x pos) d := by
  refine ⟨?_⟩
  intro base env ρ μ H H' s A E Q v G hS st a ed k
  rw [hd] at ed
  obtain ⟨x, H1, e1, ed⟩ := Res.get_ok ed
  split at ed
  · cases ed
    refine wpAny_UnaryOp (h1.ok G hS st a e1 fun u s' μ' X S' V => ?_)
    cases V
    refine wpAny_bind (wpAny_truthy_bool (wpAny_pure ?_))
    exact k _ _ μ' X S' (.bool _)
  · cases ed
theorem EvOk.ite {t x y : Expr} {pos : Pos} {d d1 d2 : AEnv → AHeap → Res AV} {dt : AEnv → AHeap → Res Bool} (ht : TrOk C T n b Γ S t dt) (h1 : EvOk C T n b Γ S x d1) (h2 : EvOk C T n b Γ S y d2)
    (hd : ∀ ρ H, d ρ H = (dt ρ H).get fun t H => if t then d1 ρ H else d2 ρ H) : EvOk C T n b Γ S (.IfExp t x y pos) d := by
  refine ⟨?_⟩
  intro base env ρ μ H H' s A E Q v G hS st a ed k
  rw [hd] at ed
  obtain ⟨c, H1, e1, ed⟩ := Res.get_ok ed
  refine wpAny_IfExp (ht.ok G hS st a e1 fun s' μ' X S' => ?_)
  cases c with
  | true =>
    simp only [if_true] at ed ⊢
    exact h1.ok G hS S' a ed fun u s'' μ'' X' S'' V => k u s'' μ'' (X.trans X') S'' V
  | false =>
    simp only [Bool.false_eq_true, if_false] at ed ⊢
    exact h2.ok G hS S' a ed fun u s'' μ'' X' S'' V => k u s'' μ'' (X.trans X') S'' V

theorem EsOk.nilE {d : AEnv → AHeap → Res (List AV)} (hd : ∀ ρ H, d ρ H = .ok [] H) : EsOk C T n b Γ S [] d := by
  refine ⟨?_⟩
  intro base env ρ μ H H' s A E Q vs pos G hS st a ed k
  rw [hd] at ed; cases ed
  exact wpAny_pure (k _ _ μ .refl st .nil)
theorem EsOk.consE {e : Expr} {es : List Expr} {d1 : AEnv → AHeap → Res AV} {d d2 : AEnv → AHeap → Res (List AV)} (hn : notStar e = true) (h1 : EvOk C T n b Γ S e d1) (h2 : EsOk C T n b Γ S es d2)
    (hd : ∀ ρ H, d ρ H = (d1 ρ H).thn fun v H => (d2 ρ H).thn fun vs H => .ok (v :: vs) H) : EsOk C T n b Γ S (e :: es) d := by
  refine ⟨?_⟩
  intro base env ρ μ H H' s A E Q vs pos G hS st a ed k
  rw [hd] at ed
  obtain ⟨x, H1, e1, ed⟩ := Res.thn_ok ed
  obtain ⟨y, H2, e2, ed⟩ := Res.thn_ok ed
  cases ed
  refine wpAny_items_cons (h1.ok G hS st a e1 fun p s1 μ1 X1 S1 V1 => h2.ok G hS S1 a e2 fun q s2 μ2 X2 S2 V2 => ?_) (starEach_cons hn)
  exact k _ s2 μ2 (X1.trans X2) S2 (.cons (V1.mono S1.hp S1.er X2) V2)

theorem EvOk.mkList {es : List Expr} {pos : Pos} {d : AEnv → AHeap → Res AV} {d1 : AEnv → AHeap → Res (List AV)} (h1 : EsOk C T n b Γ S es d1) (hd : ∀ ρ H, d ρ H = (d1 ρ H).thn fun vs H => alloc vs H) : EvOk C T n b Γ S (.List es pos) d := by
  refine ⟨?_⟩
  intro base env ρ μ H H' s A E Q v G hS st a ed k
  rw [hd] at ed
  obtain ⟨vs, H1, e1, ed⟩ := Res.thn_ok ed
  unfold alloc at ed
  split at ed
  · rename_i hz; cases ed
    refine wpAny_List_spliced (h1.ok G hS st a e1 fun us s' μ' X S' V => ⟨?_, ?_⟩)
    · rw [← V.length]; exact lim_line hz
    · exact k _ _ _ (X.trans .newList) (S'.newList V hz) (.ref (by rw [← S'.hp.len]; simp))
  · cases ed
theorem EvOk.mkTuple {es : List Expr} {j : Nat} {pos : Pos} {d : AEnv → AHeap → Res AV} {d1 : AEnv → AHeap → Res (List AV)} (h1 : EsOk C T n b Γ S es d1) (hd : ∀ ρ H, d ρ H = (d1 ρ H).get fun vs H => tupOf vs H) : EvOk C T n b Γ S (.Tuple es j pos) d := by
  refine ⟨?_⟩
  intro base env ρ μ H H' s A E Q v G hS st a ed k
  rw [hd] at ed
  obtain ⟨vs, H1, e1, ed⟩ := Res.get_ok ed
  unfold tupOf at ed
  split at ed
  · rename_i hz; cases ed
    refine wpAny_Tuple_spliced (h1.ok G hS st a e1 fun us s' μ' X S' V => ⟨?_, ?_⟩)
    · rw [← V.length]; exact lim_line hz
    · have g : ∀ {a : Addr} {o : Obj}, s'.heap.get? a = some o → (s'.heap.push { cls := .type "tuple", data := .seq us.toArray }).get? a = some o := fun e => Heap.get?_push_of_some _ e
      exact k _ _ μ' (X.trans (Ext.grow g)) (S'.push _) (.tup ⟨_, Heap.get?_push_size _ rfl, rfl, _, rfl⟩ (S'.notZ (none_size _)) hz (V.keeps g))
  · cases ed
theorem notSet_marks {op : CmpOp} {e : Expr} (h : notSet e = true) : behindInMarks op e = false := by
  cases e <;> first | rfl | cases h
theorem EvOk.cmp {l r : Expr} {op : CmpOp} {pos : Pos} {d d1 d2 : AEnv → AHeap → Res AV} (hr : notSet r = true) (h1 : EvOk C T n b Γ S l d1) (h2 : EvOk C T n b Γ S r d2)
    (hd : ∀ ρ H, d ρ H = (d1 ρ H).get fun v H => (d2 ρ H).get fun w H => (match cmpop op v w H with | some r => .ok (.bool r) H | none => .bad)) : EvOk C T n b Γ S (.Compare l [op] [r] pos) d := by
  refine ⟨?_⟩
  intro base env ρ μ H H' s A E Q v G hS st a ed k
  rw [hd] at ed
  obtain ⟨x, H1, e1, ed⟩ := Res.get_ok ed
  obtain ⟨y, H2, e2, ed⟩ := Res.get_ok ed
  split at ed
  · rename_i r er; cases ed
    refine wpAny_Compare1 (two_ok h1 h2 G hS st a e1 e2 fun p q s' μ' X S' V W => ?_) (notSet_marks hr)
    exact cmpop_ok S' V W er a (k _ _ μ' X S' (.bool _))
  · cases ed
theorem TrOk.cmp {l r : Expr} {op : CmpOp} {pos : Pos} {d1 d2 : AEnv → AHeap → Res AV} {d : AEnv → AHeap → Res Bool} (hr : notSet r = true) (h1 : EvOk C T n b Γ S l d1) (h2 : EvOk C T n b Γ S r d2)
    (hd : ∀ ρ H, d ρ H = (d1 ρ H).get fun v H => (d2 ρ H).get fun w H => (match cmpop op v w H with | some r => .ok r H | none => .bad)) : TrOk C T n b Γ S (.Compare l [op] [r] pos) d := by
  refine ⟨?_⟩
  intro base env ρ μ H H' s A E Q v G hS st a ed k
  rw [hd] at ed
  obtain ⟨x, H1, e1, ed⟩ := Res.get_ok ed
  obtain ⟨y, H2, e2, ed⟩ := Res.get_ok ed
  split at ed
  · rename_i r er; cases ed
    refine wpAny_isTrue_Compare1 (two_ok h1 h2 G hS st a e1 e2 fun p q s' μ' X S' V W => ?_) (notSet_marks hr)
    exact cmpop_ok S' V W er a (wpAny_truthy_bool (k _ μ' X S'))
  · cases ed
theorem EvOk.cmp2 {l r1 r2 : Expr} {o1 o2 : CmpOp} {pos : Pos} {d d1 d2 d3 : AEnv → AHeap → Res AV} (hr : notSet r2 = true) (h1 : EvOk C T n b Γ S l d1) (h2 : EvOk C T n b Γ S r1 d2) (h3 : EvOk C T n b Γ S r2 d3)
    (hd : ∀ ρ H, d ρ H = (d1 ρ H).get fun v H => (d2 ρ H).get fun w H => (match cmpop o1 v w H with
      | some true => (d3 ρ H).get fun u H => (match cmpop o2 w u H with | some r => .ok (.bool r) H | none => .bad)
      | some false => .ok (.bool false) H
      | none => .bad)) : EvOk C T n b Γ S (.Compare l [o1, o2] [r1, r2] pos) d := by
  refine ⟨?_⟩
  intro base env ρ μ H H' s A E Q v G hS st a ed k
  rw [hd] at ed
  obtain ⟨x, H1, e1, ed⟩ := Res.get_ok ed
  obtain ⟨y, H2, e2, ed⟩ := Res.get_ok ed
  rw [arm_eval_Compare]
  refine wpAny_bind (h1.ok G hS st a e1 fun p s1 μ1 X1 S1 V1 => ?_)
  simp only [evalEach, markedEach, markedBehindIn, notSet_marks hr, compareChain]
  refine wpAny_bind (wpAny_holding (h2.ok G hS S1 a e2 fun q s2 μ2 X2 S2 V2 => wpAny_bind (wpAny_standAt (wpAny_bind (wpAny_holding ?_)))))
  have V1' := V1.mono S1.hp S1.er X2
  split at ed
  · rename_i er
    refine cmpop_ok S2 V1' V2 er a (wpAny_bind (wpAny_release (wpAny_bind (wpAny_holding (wpAny_truthy_bool ?_)))))
    simp only [if_true]
    obtain ⟨z, H3, e3, ed⟩ := Res.get_ok ed
    refine wpAny_bind (wpAny_holding (h3.ok G hS S2 a e3 fun u s3 μ3 X3 S3 V3 => wpAny_bind (wpAny_standAt (wpAny_operating ?_))))
    split at ed
    · rename_i r er'; cases ed
      exact cmpop_ok S3 (V2.mono S2.hp S2.er X3) V3 er' a (k _ _ μ3 ((X1.trans X2).trans X3) S3 (.bool _))
    · cases ed
  · rename_i er; cases ed
    refine cmpop_ok S2 V1' V2 er a (wpAny_bind (wpAny_release (wpAny_bind (wpAny_holding (wpAny_truthy_bool ?_)))))
    simp only [Bool.false_eq_true, if_false]
    exact wpAny_pure (k _ _ μ2 (X1.trans X2) S2 (.bool _))
  · cases ed
end
end Mine

namespace Mine
open PySem PySem.Calls PyProof.Rows PySem.SeqAt

section
variable (C : Cx) (T : Tab) (n b : Nat) (Γ : List Str) (S : Scope)
structure BoOk (op : BoolOp) (es : List Expr) (d : AEnv → AHeap → Res AV) : Prop where
  ok : ∀ {base : Heap} {env : Env} {ρ : AEnv} {μ : List Addr} {H H' : AHeap} {s : Shared} {A : Around} {E : Value → Shared → Prop} {Q : Value → Shared → Prop} {v : AV} {pos : Pos},
    Gnd C T base → env.scope = S → St C base b env Γ ρ μ H s → AOk A n → d ρ H = .ok v H' → After C base b env Γ ρ μ s v H' Q → wpAny (model C.prog C.w) A (boolOp pos op (evalEach es env)) Q E s
structure AtOk (op : BoolOp) (es : List Expr) (d : AEnv → AHeap → Res Bool) : Prop where
  ok : ∀ {base : Heap} {env : Env} {ρ : AEnv} {μ : List Addr} {H H' : AHeap} {s : Shared} {A : Around} {E : Value → Shared → Prop} {Q : Bool → Shared → Prop} {v : Bool},
    Gnd C T base → env.scope = S → St C base b env Γ ρ μ H s → AOk A n → d ρ H = .ok v H' → (∀ s' μ', Ext env μ μ' s.heap s'.heap → St C base b env Γ ρ μ' H' s' → Q v s') →
    wpAny (model C.prog C.w) A (allTrue op es env) Q E s
end

section
variable {C : Cx} {T : Tab} {n b : Nat} {Γ : List Str} {S : Scope}

theorem TrOk.ofEv {e : Expr} {d : AEnv → AHeap → Res Bool} {d1 : AEnv → AHeap → Res AV} (he : ∀ env whole, isTrue e env whole = (do let v ← whole; standAt e.pos; holding [v] (truthy v))) (h : EvOk C T n b Γ S e d1)
    (hd : ∀ ρ H, d ρ H = (d1 ρ H).get fun v H => (match v with | .bool t => .ok t H | _ => .bad)) : TrOk C T n b Γ S e d := by
  refine ⟨?_⟩
  intro base env ρ μ H H' s A E Q v G hS st a ed k
  rw [hd] at ed
  obtain ⟨x, H1, e1, ed⟩ := Res.get_ok ed
  split at ed
  · cases ed
    refine wpAny_isTrue_value (h.ok G hS st a e1 fun u s' μ' X S' V => ?_) (he _ _)
    cases V
    exact wpAny_truthy_bool (k _ _ X S')
  · cases ed
theorem TrOk.not {x : Expr} {pos : Pos} {d d1 : AEnv → AHeap → Res Bool} (h : TrOk C T n b Γ S x d1) (hd : ∀ ρ H, d ρ H = (d1 ρ H).get fun v H => .ok (!v) H) : TrOk C T n b Γ S (.UnaryOp .Not x pos) d := by
  refine ⟨?_⟩
  intro base env ρ μ H H' s A E Q v G hS st a ed k
  rw [hd] at ed
  obtain ⟨x, H1, e1, ed⟩ := Res.get_ok ed
  cases ed
  exact wpAny_isTrue_Not (h.ok G hS st a e1 fun s' μ' X S' => k _ _ X S')
theorem TrOk.cmp2 {l r1 r2 : Expr} {o1 o2 : CmpOp} {pos : Pos} {d1 d2 d3 : AEnv → AHeap → Res AV} {d : AEnv → AHeap → Res Bool} (hr : notSet r2 = true) (h1 : EvOk C T n b Γ S l d1) (h2 : EvOk C T n b Γ S r1 d2) (h3 : EvOk C T n b Γ S r2 d3)
    (hd : ∀ ρ H, d ρ H = (d1 ρ H).get fun v H => (d2 ρ H).get fun w H => (match cmpop o1 v w H with
      | some true => (d3 ρ H).get fun u H => (match cmpop o2 w u H with | some r => .ok r H | none => .bad)
      | some false => .ok false H
      | none => .bad)) : TrOk C T n b Γ S (.Compare l [o1, o2] [r1, r2] pos) d := by
  refine ⟨?_⟩
  intro base env ρ μ H H' s A E Q v G hS st a ed k
  rw [hd] at ed
  obtain ⟨x, H1, e1, ed⟩ := Res.get_ok ed
  obtain ⟨y, H2, e2, ed⟩ := Res.get_ok ed
  rw [arm_isTrue_Compare]
  refine wpAny_bind (h1.ok G hS st a e1 fun p s1 μ1 X1 S1 V1 => ?_)
  simp only [evalEach, markedEach, markedBehindIn, notSet_marks hr, testChain]
  refine wpAny_bind (wpAny_holding (h2.ok G hS S1 a e2 fun q s2 μ2 X2 S2 V2 => wpAny_bind (wpAny_standAt (wpAny_bind (wpAny_holding ?_)))))
  have V1' := V1.mono S1.hp S1.er X2
  split at ed
  · rename_i er
    refine cmpop_ok S2 V1' V2 er a (wpAny_bind (wpAny_release (wpAny_bind (wpAny_holding (wpAny_truthy_bool ?_)))))
    simp only [if_true]
    obtain ⟨z, H3, e3, ed⟩ := Res.get_ok ed
    refine wpAny_bind (wpAny_holding (h3.ok G hS S2 a e3 fun u s3 μ3 X3 S3 V3 => wpAny_bind (wpAny_standAt (wpAny_bind (wpAny_operating ?_)))))
    split at ed
    · rename_i r er'; cases ed
      exact cmpop_ok S3 (V2.mono S2.hp S2.er X3) V3 er' a (wpAny_holding (wpAny_truthy_bool (k _ μ3 ((X1.trans X2).trans X3) S3)))
    · cases ed
  · rename_i er; cases ed
    refine cmpop_ok S2 V1' V2 er a (wpAny_bind (wpAny_release (wpAny_bind (wpAny_holding (wpAny_truthy_bool ?_)))))
    simp only [Bool.false_eq_true, if_false]
    exact wpAny_pure (k _ μ2 (X1.trans X2) S2)
  · cases ed

theorem BoOk.one {op : BoolOp} {e : Expr} {d d1 : AEnv → AHeap → Res AV} (h : EvOk C T n b Γ S e d1) (hd : ∀ ρ H, d ρ H = d1 ρ H) : BoOk C T n b Γ S op [e] d := by
  refine ⟨?_⟩
  intro base env ρ μ H H' s A E Q v pos G hS st a ed k
  rw [hd] at ed
  exact h.ok G hS st a ed k
theorem BoOk.andE {e e' : Expr} {es : List Expr} {d d1 d2 : AEnv → AHeap → Res AV} (h : EvOk C T n b Γ S e d1) (h2 : BoOk C T n b Γ S .And (e' :: es) d2)
    (hd : ∀ ρ H, d ρ H = (d1 ρ H).get fun v H => (match v with
      | .bool false => .ok (.bool false) H
      | .bool true => d2 ρ H
      | _ => .bad)) : BoOk C T n b Γ S .And (e :: e' :: es) d := by
  refine ⟨?_⟩
  intro base env ρ μ H H' s A E Q v pos G hS st a ed k
  rw [hd] at ed
  obtain ⟨x, H1, e1, ed⟩ := Res.get_ok ed
  show wpAny _ _ (boolOp pos .And (eval e env :: eval e' env :: evalEach es env)) Q E s
  rw [boolOp]
  · refine wpAny_bind (h.ok G hS st a e1 fun u s' μ' X S' V => wpAny_bind (wpAny_standAt (wpAny_bind (wpAny_holding ?_))))
    split at ed
    · cases ed; cases V
      exact wpAny_truthy_bool (wpAny_pure (k _ _ μ' X S' (.bool _)))
    · cases V
      refine wpAny_truthy_bool ?_
      exact h2.ok (pos := pos) G hS S' a ed fun u s'' μ'' X' S'' V => k u s'' μ'' (X.trans X') S'' V
    · cases ed
  · intro h; cases h
theorem BoOk.orE {e e' : Expr} {es : List Expr} {d d1 d2 : AEnv → AHeap → Res AV} (h : EvOk C T n b Γ S e d1) (h2 : BoOk C T n b Γ S .Or (e' :: es) d2)
    (hd : ∀ ρ H, d ρ H = (d1 ρ H).get fun v H => (match v with
      | .bool true => .ok (.bool true) H
      | .bool false => d2 ρ H
      | _ => .bad)) : BoOk C T n b Γ S .Or (e :: e' :: es) d := by
  refine ⟨?_⟩
  intro base env ρ μ H H' s A E Q v pos G hS st a ed k
  rw [hd] at ed
  obtain ⟨x, H1, e1, ed⟩ := Res.get_ok ed
  show wpAny _ _ (boolOp pos .Or (eval e env :: eval e' env :: evalEach es env)) Q E s
  rw [boolOp]
  · refine wpAny_bind (h.ok G hS st a e1 fun u s' μ' X S' V => wpAny_bind (wpAny_standAt (wpAny_bind (wpAny_holding ?_))))
    split at ed
    · cases ed; cases V
      exact wpAny_truthy_bool (wpAny_pure (k _ _ μ' X S' (.bool _)))
    · cases V
      refine wpAny_truthy_bool ?_
      exact h2.ok (pos := pos) G hS S' a ed fun u s'' μ'' X' S'' V => k u s'' μ'' (X.trans X') S'' V
    · cases ed
  · intro h; cases h
theorem EvOk.boolOp {op : BoolOp} {es : List Expr} {pos : Pos} {d : AEnv → AHeap → Res AV} (h : BoOk C T n b Γ S op es d) : EvOk C T n b Γ S (.BoolOp op es pos) d := by
  refine ⟨?_⟩
  intro base env ρ μ H H' s A E Q v G hS st a ed k
  rw [arm_eval_BoolOp]
  exact h.ok G hS st a ed k

theorem AtOk.nilA {d : AEnv → AHeap → Res Bool} (hd : ∀ ρ H, d ρ H = .ok true H) : AtOk C T n b Γ S .And [] d := by
  refine ⟨?_⟩
  intro base env ρ μ H H' s A E Q v G hS st a ed k
  rw [hd] at ed; cases ed
  exact wpAny_allTrue_And_nil (k _ μ .refl st)
theorem AtOk.nilO {d : AEnv → AHeap → Res Bool} (hd : ∀ ρ H, d ρ H = .ok false H) : AtOk C T n b Γ S .Or [] d := by
  refine ⟨?_⟩
  intro base env ρ μ H H' s A E Q v G hS st a ed k
  rw [hd] at ed; cases ed
  exact wpAny_allTrue_Or_nil (k _ μ .refl st)
theorem AtOk.andE {e : Expr} {es : List Expr} {d d1 d2 : AEnv → AHeap → Res Bool} (h : TrOk C T n b Γ S e d1) (h2 : AtOk C T n b Γ S .And es d2) (hd : ∀ ρ H, d ρ H = (d1 ρ H).get fun v H => if v then d2 ρ H else .ok false H) :
    AtOk C T n b Γ S .And (e :: es) d := by
  refine ⟨?_⟩
  intro base env ρ μ H H' s A E Q v G hS st a ed k
  rw [hd] at ed
  obtain ⟨c, H1, e1, ed⟩ := Res.get_ok ed
  refine wpAny_allTrue_And_cons (h.ok G hS st a e1 fun s' μ' X S' => ?_)
  cases c with
  | true => simp only [if_true] at ed ⊢; exact h2.ok G hS S' a ed fun s'' μ'' X' S'' => k s'' μ'' (X.trans X') S''
  | false => simp only [Bool.false_eq_true, if_false] at ed ⊢; cases ed; exact k _ _ X S'
theorem AtOk.orE {e : Expr} {es : List Expr} {d d1 d2 : AEnv → AHeap → Res Bool} (h : TrOk C T n b Γ S e d1) (h2 : AtOk C T n b Γ S .Or es d2) (hd : ∀ ρ H, d ρ H = (d1 ρ H).get fun v H => if v then .ok true H else d2 ρ H) :
    AtOk C T n b Γ S .Or (e :: es) d := by
  refine ⟨?_⟩
  intro base env ρ μ H H' s A E Q v G hS st a ed k
  rw [hd] at ed
  obtain ⟨c, H1, e1, ed⟩ := Res.get_ok ed
  refine wpAny_allTrue_Or_cons (h.ok G hS st a e1 fun s' μ' X S' => ?_)
  cases c with
  | true => simp only [if_true] at ed ⊢; cases ed; exact k _ _ X S'
  | false => simp only [Bool.false_eq_true, if_false] at ed ⊢; exact h2.ok G hS S' a ed fun s'' μ'' X' S'' => k s'' μ'' (X.trans X') S''
theorem TrOk.boolOp {op : BoolOp} {es : List Expr} {pos : Pos} {d : AEnv → AHeap → Res Bool} (h : AtOk C T n b Γ S op es d) : TrOk C T n b Γ S (.BoolOp op es pos) d := by
  refine ⟨?_⟩
  intro base env ρ μ H H' s A E Q v G hS st a ed k
  exact wpAny_isTrue_BoolOp (h.ok G hS st a ed k)

/-! items -/
theorem at_spec {n : Nat} {k : Int} {j : Nat} (h : at? n k = some j) : j < n ∧ ((0 ≤ k ∧ k < n ∧ j = k.toNat) ∨ (k < 0 ∧ -(n : Int) ≤ k ∧ j = (k + n).toNat)) := by
  unfold at? at h
  split at h
  · rename_i h1; cases h; exact ⟨by (first | lia | omega), .inl ⟨h1.1, h1.2, rfl⟩⟩
  · split at h
    · rename_i h1; cases h; exact ⟨by (first | lia | omega), .inr ⟨h1.1, h1.2, rfl⟩⟩
    · cases h
theorem subscripted_int {slice : Expr} {a : Addr} {k : Int} {t : Tok} (hn : notSlice slice = true) : subscripted slice false (.ref a) (.int k t) = operate [.ref a, .int k t] (getItem (.ref a) (.int k t)) := by
  cases slice <;> first | rfl | cases hn

theorem seqIndex_at {n j : Nat} {k : Int} (hj : j < n) (h : (0 ≤ k ∧ k < n ∧ j = k.toNat) ∨ (k < 0 ∧ -(n : Int) ≤ k ∧ j = (k + n).toNat)) : seqIndex? k n = some j := by
  unfold seqIndex?
  rcases h with ⟨h1, h2, rfl⟩ | ⟨h1, h2, rfl⟩
  · have : ¬ k < 0 := by (first | lia | omega)
    simp only [this, if_false]
    rw [if_pos (by simp; (first | lia | omega))]
  · simp only [h1, if_true]
    rw [if_pos (by simp; (first | lia | omega))]
theorem EvOk.idx {v i : Expr} {pos : Pos} {d d1 d2 : AEnv → AHeap → Res AV} (hn : notSlice i = true) (h1 : EvOk C T n b Γ S v d1) (h2 : EvOk C T n b Γ S i d2)
    (hd : ∀ ρ H, d ρ H = (d1 ρ H).get fun v H => (d2 ρ H).get fun w H => itemOf C.sc v w H) : EvOk C T n b Γ S (.Subscript v i pos) d := by
  refine ⟨?_⟩
  intro base env ρ μ H H' s A E Q v' G hS st a ed k
  rw [hd] at ed
  obtain ⟨x, H1, e1, ed⟩ := Res.get_ok ed
  obtain ⟨y, H2, e2, ed⟩ := Res.get_ok ed
  refine Subscript_ (two_ok h1 h2 G hS st a e1 e2 fun p q s' μ' X S' V W => ?_)
  unfold itemOf at ed
  split at ed
  · rename_i k'
    obtain ⟨t, rfl⟩ := W.isInt
    split at ed
    · split at ed
      · rename_i hk; cases ed; cases V
        obtain ⟨svs, l, hi, hz⟩ := G.scr.scr
        have l' : s'.heap.IsList C.sa svs.toArray := isList_keeps l fun o => S'.keep _ o
        have hlen : svs.length = C.sc.length := hi.length
        have hlt : k'.toNat < svs.length := by (first | lia | omega)
        obtain ⟨t', et⟩ := IntsAre_get hi (List.getElem?_eq_getElem hlt)
        have hfit : C.sc.length < 2 ^ 63 := Nat.lt_of_le_of_lt hz (by decide)
        refine tail_any l'.typeIs slot_list_getitem.lookup (wpAny_getItem_list l' hk.1 (by (first | lia | omega)) (x := .int (C.sc.getD k'.toNat 0) t') ?_ (k _ _ μ' X S' (.int _ _))) (subscripted_int hn)
        rw [List.getElem?_toArray, List.getElem?_eq_getElem hlt, et]
      · cases ed
    · split at ed
      · rename_i xs ex
        split at ed
        · rename_i j ej
          split at ed
          · rename_i z ez; cases ed
            obtain ⟨hz, a', o, vs, c, Ty, rfl, hT, ho, hc, hd', q⟩ := items_seq S'.hp V ex
            obtain ⟨u, eu, vu⟩ := q.get ez
            have hlim : xs.length < 2 ^ 63 := Nat.lt_of_le_of_lt hz (by decide)
            have hl := q.length
            obtain ⟨hj, hcase⟩ := at_spec ej
            rcases hT with rfl | rfl
            · have hl' : s'.heap.IsList a' (List.toArray vs) := ⟨o, ho, hc, c, hd'⟩
              refine tail_any hl'.typeIs slot_list_getitem.lookup ?_ (subscripted_int hn)
              rcases hcase with ⟨h3, h4, rfl⟩ | ⟨h3, h4, rfl⟩
              · exact wpAny_getItem_list hl' h3 (by (first | lia | omega)) (by simpa using eu) (k _ _ μ' X S' vu)
              · exact wpAny_getItem_list_neg hl' h3 (by simp; (first | lia | omega)) (by (first | lia | omega)) (by simpa [← hl] using eu) (k _ _ μ' X S' vu)
            · have hl' : IsTup s'.heap a' (List.toArray vs) := ⟨o, ho, hc, c, hd'⟩
              refine item_tupleT hl' (by (first | lia | omega)) (by (first | lia | omega)) (j := j) ?_ eu (k _ _ μ' X S' vu) (subscripted_int hn)
              rw [← hl]
              exact seqIndex_at hj hcase
          · cases ed
        · cases ed
      · cases ed
  · cases ed
end
end Mine

namespace Mine
open PySem PySem.Calls PyProof.Rows PySem.SeqAt

section
variable (C : Cx) (T : Tab) (n b : Nat) (Γ : List Str) (S : Scope)
structure PtOk (o : Option Expr) (d : AEnv → AHeap → Res (Option Int)) : Prop where
  ok : ∀ {base : Heap} {env : Env} {ρ : AEnv} {μ : List Addr} {H H' : AHeap} {s : Shared} {A : Around} {E : Value → Shared → Prop} {Q : Value → Shared → Prop} {v : Option Int},
    Gnd C T base → env.scope = S → St C base b env Γ ρ μ H s → AOk A n → d ρ H = .ok v H' → (∀ u s' μ', Ext env μ μ' s.heap s'.heap → St C base b env Γ ρ μ' H' s' → IsPart u v → Q u s') → wpAny (model C.prog C.w) A (evalPart o env) Q E s
end
section
variable {C : Cx} {T : Tab} {n b : Nat} {Γ : List Str} {S : Scope}
theorem PtOk.no {d : AEnv → AHeap → Res (Option Int)} (hd : ∀ ρ H, d ρ H = .ok none H) : PtOk C T n b Γ S none d := by
  refine ⟨?_⟩
  intro base env ρ μ H H' s A E Q v G hS st a ed k
  rw [hd] at ed; cases ed
  exact wpAny_evalPart_none (k _ _ μ .refl st .none)
theorem PtOk.yes {e : Expr} {d : AEnv → AHeap → Res (Option Int)} {d1 : AEnv → AHeap → Res AV} (h : EvOk C T n b Γ S e d1) (hd : ∀ ρ H, d ρ H = (d1 ρ H).get fun v H => (match v with | .int i => .ok (some i) H | _ => .bad)) : PtOk C T n b Γ S (some e) d := by
  refine ⟨?_⟩
  intro base env ρ μ H H' s A E Q v G hS st a ed k
  rw [hd] at ed
  obtain ⟨x, H1, e1, ed⟩ := Res.get_ok ed
  split at ed
  · cases ed
    refine wpAny_evalPart_some (h.ok G hS st a e1 fun u s' μ' X S' V => ?_)
    obtain ⟨t, rfl⟩ := V.isInt
    exact k _ _ μ' X S' (.int _ _)
  · cases ed

theorem cutAt_clip (n : Nat) (i : Int) : clipAt n i = cutAt n i := rfl
theorem cut_pick {xs : List AV} {vs : List Value} {μ : List Addr} {h : Heap} (q : VRs C μ h xs vs) (lo hi : Option Int) : VRs C μ h (cut xs lo hi) (slicePick vs.toArray lo hi none).toList := by
  rw [slicePick_plain]
  have hl := q.length
  have e1 : (lo.elim 0 (clipAt vs.toArray.size)) = (match lo with | some i => cutAt xs.length i | none => 0) := by
    cases lo <;> simp [cutAt_clip, hl]
  have e2 : (hi.elim vs.toArray.size (clipAt vs.toArray.size)) = (match hi with | some i => cutAt xs.length i | none => xs.length) := by
    cases hi <;> simp [cutAt_clip, hl]
  rw [e1, e2]
  unfold cut
  simp only [← List.drop_take]
  exact (q.take _).drop _

theorem EvOk.slice {v : Expr} {lo hi : Option Expr} {p pos : Pos} {d d1 : AEnv → AHeap → Res AV} {dl dh : AEnv → AHeap → Res (Option Int)} (h1 : EvOk C T n b Γ S v d1) (hl : PtOk C T n b Γ S lo dl) (hh : PtOk C T n b Γ S hi dh)
    (hd : ∀ ρ H, d ρ H = (d1 ρ H).get fun v H => (dl ρ H).get fun l H => (dh ρ H).get fun h H => (match v with
      | .ref r => (match H[r]? with
        | some (.list xs) => alloc (cut xs l h) H
        | _ => .bad)
      | _ => .bad)) : EvOk C T n b Γ S (.Subscript v (.Slice lo hi none p) pos) d := by
  refine ⟨?_⟩
  intro base env ρ μ H H' s A E Q v' G hS st a ed k
  rw [hd] at ed
  obtain ⟨x, H1, e1, ed⟩ := Res.get_ok ed
  obtain ⟨l, H2, e2, ed⟩ := Res.get_ok ed
  obtain ⟨h, H3, e3, ed⟩ := Res.get_ok ed
  refine Subscript_ (h1.ok G hS st a e1 fun q s1 μ1 X1 S1 V1 => wpAny_Slice (hl.ok G hS S1 a e2 fun vl s2 μ2 X2 S2 P2 => hh.ok G hS S2 a e3 fun vh s3 μ3 X3 S3 P3 => wpAny_evalPart_none ?_))
  split at ed
  · rename_i r
    split at ed
    · rename_i xs ex
      unfold alloc at ed
      split at ed
      · rename_i hz; cases ed
        obtain ⟨c, rfl, ec⟩ := ((V1.mono S1.hp S1.er X2).mono S2.hp S2.er X3).isRef
        obtain ⟨hz', a', vs, ea', p1, q1⟩ := S3.hp.list ex
        rw [ec] at ea'; cases ea'
        have S4 := S3.push { cls := .type "slice", data := .fields #[vl, vh, .none] }
        have X4 : Ext env μ3 μ3 s3.heap (s3.heap.push { cls := .type "slice", data := .fields #[vl, vh, .none] }) := Ext.push _
        have p4 : (s3.heap.push { cls := .type "slice", data := .fields #[vl, vh, .none] }).IsList c vs.toArray := (IsList.of_plain p1).push _
        refine tail_any (ops := [.ref s3.heap.objs.size, .ref c]) p4.typeIs slot_list_getitem.lookup ?_ rfl
        refine wpAny_getItem_list_slice (s := { s3 with heap := _ }) p4 ⟨_, Heap.get?_push_size _ rfl, rfl, rfl⟩ P2 P3 .none (by intro e; cases e) ?_ (by rw [List.size_toArray, ← q1.length]; exact lim_line hz')
        have q4 : VRs C μ3 (s3.heap.push { cls := .type "slice", data := .fields #[vl, vh, .none] }) (cut xs l h) (slicePick vs.toArray l h none).toList := cut_pick (q1.keeps fun e => Heap.get?_push_of_some _ e) l h
        have S5 := S4.newList q4 hz
        simp only [Array.toArray_toList] at S5
        exact k _ _ _ ((((X1.trans X2).trans X3).trans X4).trans .newList) S5 (.ref (by rw [← S3.hp.len]; simp))
      · cases ed
    · cases ed
  · cases ed

theorem isL_spec {v : AV} {H : AHeap} (h : isL v H = true) : ∃ r xs, v = .ref r ∧ H[r]? = some (.list xs) := by
  unfold isL at h
  split at h
  · split at h
    · exact ⟨_, _, rfl, by assumption⟩
    · cases h
  · cases h
theorem push_list (vs : List Value) (x : Value) : vs.toArray.push x = (vs ++ [x]).toArray := by simp
theorem EvOk.append {o y : Expr} {ap pos : Pos} {d d1 d2 : AEnv → AHeap → Res AV} (hb : ∀ env, attributeBase o "append" env (eval o env) = eval o env) (hy : notStar y = true) (hline : (ap.endLine == pos.line) = true)
    (h1 : EvOk C T n b Γ S o d1) (h2 : EvOk C T n b Γ S y d2)
    (hd : ∀ ρ H, d ρ H = (d1 ρ H).get fun v H => if isL v H then (d2 ρ H).get fun w H => appendTo b v w H else .bad) : EvOk C T n b Γ S (.Call (.Attribute o "append" ap) [y] [] pos) d := by
  refine ⟨?_⟩
  intro base env ρ μ H H' s A E Q v' G hS st a ed k
  rw [hd] at ed
  obtain ⟨x, H1, e1, ed⟩ := Res.get_ok ed
  split at ed
  · rename_i hL
    obtain ⟨z, H2, e2, ed⟩ := Res.get_ok ed
    have htrees : backTo pos (starEach [y] env) = [(false, eval y env)] := by rw [starEach_cons hy]; rfl
    refine wpAny_Call_append (hb env) (by rw [htrees]; rfl) hline htrees (h1.ok G hS st a e1 fun p s1 μ1 X1 S1 V1 => ?_)
    obtain ⟨r, ys, rfl, ey⟩ := isL_spec hL
    obtain ⟨c, rfl, ec⟩ := V1.isRef
    obtain ⟨_, a', ws, ea', ⟨j, p1⟩, _⟩ := S1.hp.list ey
    rw [ec] at ea'; cases ea'
    refine ⟨c, _, rfl, ⟨_, _, p1, rfl, rfl, rfl⟩, h2.ok G hS S1 a e2 fun q s2 μ2 X2 S2 V2 => ?_⟩
    unfold appendTo at ed
    simp only at ed
    split at ed
    · rename_i xs ex
      split at ed
      · rename_i hc; cases ed
        have ec2 := get_prefix X2.pre ec
        obtain ⟨hz', a', vs, ea', p1, q1⟩ := S2.hp.list ex
        rw [ec2] at ea'; cases ea'
        refine wpAny_list_append_plain p1 (fun h' pl hs => ?_) (by rw [List.size_toArray, ← q1.length]; exact lim_line hz')
        rw [push_list] at pl
        obtain ⟨S3, X3⟩ := S2.turn ex ec2 hc.1 pl hs (q1.append (.cons V2 .nil)) (by simp; (first | lia | omega))
        exact k _ _ _ ((X1.trans X2).trans X3) S3 .none
      · cases ed
    · cases ed
  · cases ed

end
end Mine

namespace Mine
open PySem PySem.Calls PyProof.Rows PySem.SeqAt

/-- a def's call, by what the interpreter says of it -/
structure CallOk (C : Cx) (T : Tab) (n : Nat) (cf : Nat → List AV → AHeap → Res AV) : Prop where
  ok : ∀ {k : Nat} {base : Heap} {b : Nat} {env : Env} {Γ : List Str} {ρ : AEnv} {μ : List Addr} {H H' : AHeap} {s : Shared} {A : Around} {E : Value → Shared → Prop} {Q : Value → Shared → Prop} {vs : List AV} {us : List Value} {v : AV},
    Gnd C T base → St C base b env Γ ρ μ H s → AOk A n → VRs C μ s.heap vs us → cf k vs H = .ok v H' → After C base b env Γ ρ μ s v H' Q → wpAny (model C.prog C.w) A (call (.ref (C.fa k)) us) Q E s

section
variable {C : Cx} {T : Tab} {n b : Nat} {Γ : List Str} {S : Scope} {cf : Nat → List AV → AHeap → Res AV} {strF : PyData → Option Str}
variable {base : Heap} {env : Env} {ρ : AEnv} {μ : List Addr} {H H' : AHeap} {s : Shared} {A : Around} {E : Value → Shared → Prop} {Q : Value → Shared → Prop}

theorem noStars : ∀ {es : List Expr} {pos : Pos}, es.all notStar = true → (backTo pos (starEach es env)).any (·.1) = false
  | [], _, _ => rfl
  | e :: r, pos, h => by
    simp only [List.all_cons, Bool.and_eq_true] at h
    rw [starEach_cons h.1]
    show (false || (backTo pos (starEach r env)).any (·.1)) = false
    rw [noStars h.2]; rfl

theorem args_ok {e : Expr} {r : List Expr} {f : Value} {pos : Pos} {Q : Args → Shared → Prop} (hn : notStar e = true) (h : wpAny (model C.prog C.w) A (spliced (backTo pos (starEach (e :: r) env))) (fun us s' => Q ⟨us, []⟩ s') E s) :
    wpAny (model C.prog C.w) A (evalArgs f true (backTo pos (starEach (e :: r) env)) []) Q E s := by
  rw [starEach_cons hn] at h ⊢
  exact evalArgs_plain h

theorem EvOk.userCall {x : Str} {e : Expr} {r : List Expr} {k : Nat} {np pos : Pos} {d : AEnv → AHeap → Res AV} {d1 : AEnv → AHeap → Res (List AV)} (hcf : CallOk C T n cf) (hx : T.fns.lookup k = some x) (hg : isGlob S x = true)
    (hn : (e :: r).all notStar = true) (h1 : EsOk C T n b Γ S (e :: r) d1) (hd : ∀ ρ H, d ρ H = (d1 ρ H).get fun vs H => cf k vs H) : EvOk C T n b Γ S (.Call (.Name x np) (e :: r) [] pos) d := by
  refine ⟨?_⟩
  intro base env ρ μ H H' s A E Q v' G hS st a ed q
  rw [hd] at ed
  obtain ⟨vs, H1, e1, ed⟩ := Res.get_ok ed
  obtain ⟨hx1, o, fd, ho, hfd⟩ := G.fn hx
  refine wpAny_Call_ofName (glob_ok G hS st hg hx1 ?_)
  show wpAny _ _ (callWith pos (.ref (C.fa k)) [] (backTo pos (starEach (e :: r) env)) []) _ _ _
  have hne : notStar e = true := by simp only [List.all_cons, Bool.and_eq_true] at hn; exact hn.1
  refine callWith_function (args_ok hne (h1.ok G hS st a e1 fun us s' μ' X S' V => ⟨⟨S'.keep _ _ ho, hfd⟩, ?_⟩))
  exact hcf.ok G S' a V ed fun u s'' μ'' X' S'' V' => q u s'' μ'' (X.trans X') S'' V'

/-- a built-in's call: the name, the arguments, the call -/
theorem EvOk.callB {x : Str} {id : String} {e : Expr} {r : List Expr} {np pos : Pos} {d : AEnv → AHeap → Res AV} {d1 : AEnv → AHeap → Res (List AV)} {f : List AV → AHeap → Res AV} (hx : biVals.lookup x = some (.builtin id)) (hg : isGlob S x = true)
    (hn : (e :: r).all notStar = true) (h1 : EsOk C T n b Γ S (e :: r) d1) (hd : ∀ ρ H, d ρ H = (d1 ρ H).get f)
    (hc : ∀ {base : Heap} {env : Env} {ρ : AEnv} {μ : List Addr} {H H' : AHeap} {s : Shared} {A : Around} {E : Value → Shared → Prop} {Q : Value → Shared → Prop} {vs : List AV} {us : List Value} {v : AV},
      Gnd C T base → St C base b env Γ ρ μ H s → AOk A n → VRs C μ s.heap vs us → f vs H = .ok v H' → After C base b env Γ ρ μ s v H' Q → wpAny (model C.prog C.w) A (call (.builtin id) us) Q E s) :
    EvOk C T n b Γ S (.Call (.Name x np) (e :: r) [] pos) d := by
  refine ⟨?_⟩
  intro base env ρ μ H H' s A E Q v' G hS st a ed q
  rw [hd] at ed
  obtain ⟨vs, H1, e1, ed⟩ := Res.get_ok ed
  refine wpAny_Call_ofName (builtin_ok G hS st hg hx ?_)
  have hne : notStar e = true := by simp only [List.all_cons, Bool.and_eq_true] at hn; exact hn.1
  refine callWith_builtin (noStars hn) (args_ok hne (h1.ok G hS st a e1 fun us s' μ' X S' V => ?_))
  exact hc G S' a V ed fun u s'' μ'' X' S'' V' => q u s'' μ'' (X.trans X') S'' V'
theorem EvOk.callT {x : Str} {Ty : String} {e : Expr} {r : List Expr} {np pos : Pos} {d : AEnv → AHeap → Res AV} {d1 : AEnv → AHeap → Res (List AV)} {f : List AV → AHeap → Res AV} (hx : biVals.lookup x = some (.type Ty)) (hg : isGlob S x = true)
    (hn : (e :: r).all notStar = true) (h1 : EsOk C T n b Γ S (e :: r) d1) (hd : ∀ ρ H, d ρ H = (d1 ρ H).get f)
    (hc : ∀ {base : Heap} {env : Env} {ρ : AEnv} {μ : List Addr} {H H' : AHeap} {s : Shared} {A : Around} {E : Value → Shared → Prop} {Q : Value → Shared → Prop} {vs : List AV} {us : List Value} {v : AV},
      Gnd C T base → St C base b env Γ ρ μ H s → AOk A n → VRs C μ s.heap vs us → f vs H = .ok v H' → After C base b env Γ ρ μ s v H' Q → wpAny (model C.prog C.w) A (call (.type Ty) us) Q E s) :
    EvOk C T n b Γ S (.Call (.Name x np) (e :: r) [] pos) d := by
  refine ⟨?_⟩
  intro base env ρ μ H H' s A E Q v' G hS st a ed q
  rw [hd] at ed
  obtain ⟨vs, H1, e1, ed⟩ := Res.get_ok ed
  refine wpAny_Call_ofName (builtin_ok G hS st hg hx ?_)
  have hne : notStar e = true := by simp only [List.all_cons, Bool.and_eq_true] at hn; exact hn.1
  refine PySem.callWith_type (noStars hn) (args_ok hne (h1.ok G hS st a e1 fun us s' μ' X S' V => ?_))
  exact hc G S' a V ed fun u s'' μ'' X' S'' V' => q u s'' μ'' (X.trans X') S'' V'
/-- isinstance with a built-in class -/
theorem EvOk.callI {f g : Str} {Ty : String} {x : Expr} {np gp pos : Pos} {d d1 : AEnv → AHeap → Res AV} {fv : AV → AHeap → Res AV} (hf : biVals.lookup f = some (.builtin "isinstance")) (hg : isGlob S f = true)
    (hgn : biVals.lookup g = some (.type Ty)) (hgg : isGlob S g = true) (hn : notStar x = true) (h1 : EvOk C T n b Γ S x d1) (hd : ∀ ρ H, d ρ H = (d1 ρ H).get fv)
    (hc : ∀ {base : Heap} {env : Env} {ρ : AEnv} {μ : List Addr} {H H' : AHeap} {s : Shared} {A : Around} {E : Value → Shared → Prop} {Q : Value → Shared → Prop} {w : AV} {u : Value} {v : AV},
      St C base b env Γ ρ μ H s → VR C μ s.heap w u → fv w H = .ok v H' → After C base b env Γ ρ μ s v H' Q → wpAny (model C.prog C.w) A (call (.builtin "isinstance") [u, .type Ty]) Q E s) :
    EvOk C T n b Γ S (.Call (.Name f np) [x, .Name g gp] [] pos) d := by
  refine ⟨?_⟩
  intro base env ρ μ H H' s A E Q v' G hS st a ed q
  rw [hd] at ed
  obtain ⟨w, H1, e1, ed⟩ := Res.get_ok ed
  refine wpAny_Call_ofName (builtin_ok G hS st hg hf ?_)
  have hall : ([x, .Name g gp] : List Expr).all notStar = true := by simp only [List.all_cons, hn]; rfl
  refine callWith_builtin (noStars hall) (args_ok hn (wpAny_items_cons (h1.ok G hS st a e1 fun u s' μ' X S' V => ?_) (starEach_cons hn)))
  refine wpAny_items_cons (builtin_ok G hS S' hgg hgn (wpAny_items_nil ?_)) (starEach_cons rfl)
  exact hc S' V ed fun u s'' μ'' X' S'' V' => q u s'' μ'' (X.trans X') S'' V'
end
end Mine

namespace Mine
open PySem PySem.Calls PyProof.Rows PySem.SeqAt

/-! the places that a loop's own iterator holds -/
abbrev Cx.withZ (C : Cx) (z : Addr → Prop) : Cx := { C with z := z }

section
variable {C : Cx} {μ μ' : List Addr} {h h' base : Heap} {env : Env} {Γ : List Str} {ρ : AEnv} {H H' : AHeap} {b : Nat} {s s' : Shared} {z : Addr → Prop} {P : Addr → Prop}

mutual
theorem VR.mapZ (p : μ <+: μ') (st : ∀ {a : Addr} {o : Obj}, h.get? a = some o → ¬ C.z a → (∃ its, h.IsTuple a its) ∨ (∃ vs, o.data = .fields vs) → h'.get? a = some o) (hz : ∀ {a : Addr} {o : Obj}, h.get? a = some o → ¬ C.z a → ¬ z a) :
    ∀ {x : AV} {v : Value}, VR C μ h x v → VR (C.withZ z) μ' h' x v
  | _, _, .none => .none
  | _, _, .bool b => .bool b
  | _, _, .int i t => .int i t
  | _, _, .str s t => .str s t
  | _, _, .tup t nz l q => .tup (IsTuple.stays t fun _ e => st e nz (.inl ⟨_, t⟩)) (let ⟨_, e, _⟩ := t; hz e nz) l (VRs.mapZ p st hz q)
  | _, _, .ref e => .ref (get_prefix p e)
  | _, _, .scr => .scr
  | _, _, .fn k => .fn k
  | _, _, .exc e nz hc hd => .exc (st e nz (.inr hd)) (hz e nz) hc hd
theorem VRs.mapZ (p : μ <+: μ') (st : ∀ {a : Addr} {o : Obj}, h.get? a = some o → ¬ C.z a → (∃ its, h.IsTuple a its) ∨ (∃ vs, o.data = .fields vs) → h'.get? a = some o) (hz : ∀ {a : Addr} {o : Obj}, h.get? a = some o → ¬ C.z a → ¬ z a) :
    ∀ {xs : List AV} {vs : List Value}, VRs C μ h xs vs → VRs (C.withZ z) μ' h' xs vs
  | _, _, .nil => .nil
  | _, _, .cons a r => .cons (VR.mapZ p st hz a) (VRs.mapZ p st hz r)
end

theorem EnvR.mapZ (N : EnvR C μ h env Γ ρ) (hL : ∀ m, h.Ns env.locals m → h'.Ns env.locals m)
    (hc : ∀ (x : Str) (c : Addr) (o : Obj), env.cells.lookup x = some c → h.get? c = some o → h'.get? c = some o) (hv : ∀ {x : AV} {v : Value}, VR C μ h x v → VR (C.withZ z) μ' h' x v) : EnvR (C.withZ z) μ' h' env Γ ρ where
  kind := N.kind
  ns := by
    obtain ⟨m, n, q⟩ := N.ns
    exact ⟨m, hL m n, fun e k r => let ⟨u, e', v⟩ := q e k r; ⟨u, e', hv v⟩⟩
  cells := fun k => by
    obtain ⟨c, o, e, ⟨ob, eb, db⟩, q⟩ := N.cells k
    exact ⟨c, o, e, ⟨ob, hc _ c ob e eb, db⟩, fun e r => let ⟨u, e', v⟩ := q e r; ⟨u, e', hv v⟩⟩
  cell := fun e => let ⟨o, ob, eb, db⟩ := N.cell e; ⟨o, ob, hc _ _ ob e eb, db⟩
  inj := N.inj
  globals := N.globals
  builtins := N.builtins

/-- all stays but what lies at J; the places z are shut out from here on -/
theorem St.mapZ (S : St C base b env Γ ρ μ H s) (J : Addr → Prop) (k : ∀ {a : Addr} {o : Obj}, ¬ J a → s.heap.get? a = some o → s'.heap.get? a = some o) (hJo : ∀ {a : Addr}, J a → ¬ Own μ env a) (hJb : ∀ {a : Addr}, J a → base.get? a = none)
    (hJz : ∀ {a : Addr}, J a → C.z a ∨ s.heap.get? a = none) (hz : ∀ {a : Addr} {o : Obj}, s.heap.get? a = some o → ¬ C.z a → ¬ z a) (hl : ∀ {a : Addr}, z a → ∃ o, s'.heap.get? a = some o) (hg : s'.gens = s.gens) (ho : s'.os = s.os) :
    St (C.withZ z) base b env Γ ρ μ H s' := by
  have st : ∀ {a : Addr} {o : Obj}, s.heap.get? a = some o → ¬ C.z a → (∃ its, s.heap.IsTuple a its) ∨ (∃ vs, o.data = .fields vs) → s'.heap.get? a = some o := fun {a o} e nz _ =>
    k (fun j => by rcases hJz j with q | q; exact nz q; rw [q] at e; cases e) e
  have mono : ∀ {x : AV} {v : Value}, VR C μ s.heap x v → VR (C.withZ z) μ s'.heap x v := fun q => VR.mapZ List.prefix_rfl st hz q
  have monos : ∀ {x : List AV} {v : List Value}, VRs C μ s.heap x v → VRs (C.withZ z) μ s'.heap x v := fun q => VRs.mapZ List.prefix_rfl st hz q
  refine ⟨?_, ⟨S.hp.len, S.hp.nd, ?_, ?_⟩, S.er.mapZ ?_ ?_ mono, S.fresh, S.noloc, S.lm, S.nocell, hg.trans S.gens, ho.trans S.os, hl⟩
  · intro c o e
    exact k (fun j => by rw [hJb j] at e; cases e) (S.keep c o e)
  · intro i xs e
    obtain ⟨l, c, ws, e', ⟨n, p⟩, q⟩ := S.hp.list e
    exact ⟨l, c, ws, e', ⟨n, k (fun j => hJo j (.inl (get_mem e'))) p⟩, monos q⟩
  · intro i e
    obtain ⟨c, n, e', p⟩ := S.hp.dict e
    exact ⟨c, n, e', k (fun j => hJo j (.inl (get_mem e'))) p⟩
  · intro m n
    exact n.at fun o e => k (fun j => hJo j (.inr (.inl rfl))) e
  · intro x c o e1 e2
    exact k (fun j => hJo j (.inr (.inr ⟨x, e1⟩))) e2

theorem Ext.but {J : Addr → Prop} (X : Ext env μ μ' h h') {h'' : Heap} (hJ : ∀ {a : Addr}, J a → h.get? a = none) (k : ∀ {a : Addr} {o : Obj}, ¬ J a → h'.get? a = some o → h''.get? a = some o) : Ext env μ μ' h h'' where
  pre := X.pre
  stay := fun {a o} e n => k (fun j => by rw [hJ j] at e; cases e) (X.stay e n)
  new := X.new
  live := fun {a o} e => by
    obtain ⟨o', e'⟩ := X.live e
    exact ⟨o', k (fun j => by rw [hJ j] at e; cases e) e'⟩

theorem Gnd.toZ {T : Tab} (G : Gnd C T base) : Gnd (C.withZ z) T base := ⟨⟨G.scr.scr⟩, G.g, G.b, G.bi, G.fn, G.gint, G.exc, G.nolimit, G.defs⟩
abbrev Cx.plus (C : Cx) (J : Addr → Prop) : Cx := C.withZ fun a => C.z a ∨ J a

/-- a walk over items: what it holds (J), what it watches (ws); nm: a plain name may be its target -/
structure Walk (C : Cx) (base : Heap) (it : Value) (J : Addr → Prop) (ws : List (Nat × List AV)) (nm : Bool) (R : List AV → List Addr → Heap → Prop) (M : List AV → Value → List Addr → Heap → Prop) : Prop where
  frame : ∀ {μ μ' : List Addr} {h h' : Heap} {l : List AV}, R l μ h → μ <+: μ' → (∀ {a : Addr} {o : Obj}, h.get? a = some o → (∃ its, h.IsTuple a its) ∨ (∃ vs, o.data = .fields vs) → h'.get? a = some o) → R l μ' h'
  off : ∀ {env : Env} {b : Nat} {Γ : List Str} {ρ : AEnv} {μ : List Addr} {H : AHeap} {s : Shared} {l : List AV}, St C base b env Γ ρ μ H s → R l μ s.heap → ∀ {a : Addr}, J a → ¬ Own μ env a
  live : ∀ {μ : List Addr} {h : Heap} {l : List AV}, R l μ h → ∀ {a : Addr}, J a → ∃ o, h.get? a = some o
  self : ∀ {μ : List Addr} {s : Shared} {l : List AV} {A : Around} {E : Value → Shared → Prop} {Q : Value → Shared → Prop}, R l μ s.heap → Q it s → wpAny (model C.prog C.w) A (pyIter it) Q E s
  liveM : ∀ {μ : List Addr} {h : Heap} {l : List AV} {u : Value}, M l u μ h → ∀ {a : Addr}, J a → ∃ o, h.get? a = some o
  item : ∀ {env : Env} {b : Nat} {Γ : List Str} {ρ : AEnv} {μ : List Addr} {H : AHeap} {s : Shared} {A : Around} {E : Value → Shared → Prop} {Q : Option Value → Shared → Prop} {v : AV} {l : List AV} {n : Nat},
    St C base b env Γ ρ μ H s → AOk A n → (∀ {a : Addr}, J a → C.z a) → (∀ w ∈ ws, H[w.1]? = some (.list w.2)) → R (v :: l) μ s.heap →
    (∀ u h' tk, (∀ {a : Addr} {o : Obj}, ¬ J a → s.heap.get? a = some o → h'.get? a = some o) → VR C μ h' v u → M l u μ h' → Q (some u) { s with heap := h', toks := tk }) →
    wpAny (model C.prog C.w) A (pyNext it) Q E s
  plain : nm = true → ∀ {μ : List Addr} {h : Heap} {l : List AV} {u : Value}, M l u μ h → R l μ h
  own : ∀ {μ : List Addr} {s : Shared} {l : List AV} {a : Addr} {A : Around} {E : Value → Shared → Prop} {Q : Unit → Shared → Prop} {elts : List Expr} {x1 : Nat} {pos : Pos}, M l (.ref a) μ s.heap →
    (∀ h', (∀ {a : Addr} {o : Obj}, ¬ J a → s.heap.get? a = some o → h'.get? a = some o) → R l μ h' → Q () { s with heap := h' }) → wpAny (model C.prog C.w) A (letOwnedTupleGo (.Tuple elts x1 pos) it (.ref a)) Q E s
  done : ∀ {env : Env} {b : Nat} {Γ : List Str} {ρ : AEnv} {μ : List Addr} {H : AHeap} {s : Shared} {A : Around} {E : Value → Shared → Prop} {Q : Option Value → Shared → Prop} {n : Nat},
    St C base b env Γ ρ μ H s → AOk A n → (∀ {a : Addr}, J a → C.z a) → (∀ w ∈ ws, H[w.1]? = some (.list w.2)) → R [] μ s.heap →
    (∀ h' tk, (∀ {a : Addr} {o : Obj}, ¬ J a → s.heap.get? a = some o → h'.get? a = some o) → Q none { s with heap := h', toks := tk }) → wpAny (model C.prog C.w) A (pyNext it) Q E s

theorem Walk.frameX {it : Value} {J : Addr → Prop} {ws : List (Nat × List AV)} {nm : Bool} {R : List AV → List Addr → Heap → Prop} {M : List AV → Value → List Addr → Heap → Prop} {l : List AV} (W : Walk C base it J ws nm R M)
    {env' : Env} {Γ : List Str} (S : St C base b env' Γ ρ μ H s) (r : R l μ s.heap) (X : Ext env' μ μ' s.heap s'.heap) : R l μ' s'.heap :=
  W.frame r X.pre fun {a o} e k => X.stay e (by
    rcases k with ⟨its, t⟩ | ⟨vs, d⟩
    · exact notOwn_tuple S.hp S.er t
    · exact notOwn_fields S.hp S.er e d)

/-- a walker that owns no tuple -/
theorem own_fields {elts : List Expr} {x1 : Nat} {pos : Pos} {I a : Addr} {Ty : String} {o : Obj} {vs : Array Value} {A : Around} {E : Value → Shared → Prop} {Q : Unit → Shared → Prop} (ho : s.heap.get? I = some o) (hc : o.cls = .type Ty) (hd : o.data = .fields vs)
    (hn : (["enumerate", "zip", "dict_itemiterator", "dict_reverseitemiterator", "odict_iterator", "itertools.zip_longest", "itertools.pairwise"].contains Ty) = false) (hQ : Q () s) :
    wpAny (model C.prog C.w) A (letOwnedTupleGo (.Tuple elts x1 pos) (.ref I) (.ref a)) Q E s := by
  unfold letOwnedTupleGo
  refine wpAny_bind (wpAny_load ho ?_)
  rw [hc, hd]
  simp only [hn, Bool.false_and]
  exact wpAny_pure hQ

theorem VR.butJ {J : Addr → Prop} (hJ : ∀ {a : Addr}, J a → C.z a) (k : ∀ {a : Addr} {o : Obj}, ¬ J a → h.get? a = some o → h'.get? a = some o) {x : AV} {v : Value} (q : VR C μ h x v) : VR C μ h' x v :=
  VR.mapZ (z := C.z) List.prefix_rfl (fun e nz _ => k (fun j => nz (hJ j)) e) (fun _ nz => nz) q
theorem VRs.butJ {J : Addr → Prop} (hJ : ∀ {a : Addr}, J a → C.z a) (k : ∀ {a : Addr} {o : Obj}, ¬ J a → h.get? a = some o → h'.get? a = some o) {x : List AV} {v : List Value} (q : VRs C μ h x v) : VRs C μ h' x v :=
  VRs.mapZ (z := C.z) List.prefix_rfl (fun e nz _ => k (fun j => nz (hJ j)) e) (fun _ nz => nz) q

theorem VRs.dropCons {xs l : List AV} {v : AV} {i : Nat} (e : xs.drop i = v :: l) : xs[i]? = some v ∧ xs.drop (i + 1) = l := by
  have h1 : xs[i]? = some v := by
    have : (xs.drop i)[0]? = some v := by rw [e]; rfl
    simpa using this
  refine ⟨h1, ?_⟩
  have : (xs.drop i).drop 1 = l := by rw [e]; rfl
  simpa [List.drop_drop, Nat.add_comm] using this

/-- over a tracked list -/
theorem Walk.list {I a : Addr} {r : Nat} {xs : List AV} (hne : a ≠ I) : Walk C base (.ref I) (· = I) [(r, xs)] true
    (fun l μ h => ∃ i, h.IsListIter I a i ∧ μ[r]? = some a ∧ xs.drop i = l ∧ i ≤ xs.length) (fun l _ μ h => ∃ i, h.IsListIter I a i ∧ μ[r]? = some a ∧ xs.drop i = l ∧ i ≤ xs.length) where
  frame := fun {μ μ' h h' l} R p st => by
    obtain ⟨i, ⟨o, ho, hc, hd⟩, ea, e, hi⟩ := R
    exact ⟨i, ⟨o, st ho (.inr ⟨_, hd⟩), hc, hd⟩, get_prefix p ea, e, hi⟩
  off := fun {env b Γ ρ μ H s l} S R {a'} j => by
    subst j
    obtain ⟨i, ⟨o, ho, hc, hd⟩, _⟩ := R
    exact notOwn_fields S.hp S.er ho hd
  live := fun {μ h l} R {a'} j => by subst j; obtain ⟨i, ⟨o, ho, _⟩, _⟩ := R; exact ⟨o, ho⟩
  self := fun {μ s l A E Q} R k => by obtain ⟨i, hit, _⟩ := R; exact wpAny_pyIter_listiter hit k
  liveM := fun {μ h l u} R {a'} j => by subst j; obtain ⟨i, ⟨o, ho, _⟩, _⟩ := R; exact ⟨o, ho⟩
  item := fun {env b Γ ρ μ H s A E Q v l n} S a' hJ hw R k => by
    obtain ⟨i, hit, ea, e, hi⟩ := R
    have eH := hw _ (List.mem_singleton.mpr rfl)
    obtain ⟨_, a2, vs, ea2, p, q⟩ := S.hp.list eH
    rw [ea] at ea2; cases ea2
    obtain ⟨ex, el⟩ := VRs.dropCons e
    obtain ⟨u, eu, vu⟩ := q.get ex
    refine wpAny_pyNext_list_item hit (IsList.of_plain p) (by simpa using eu) fun h' hit' hs => ?_
    have kk : ∀ {a : Addr} {o : Obj}, ¬ (a = I) → s.heap.get? a = some o → h'.get? a = some o := fun n e => (hs.2 _ n).trans e
    exact k u h' s.toks kk (vu.butJ hJ kk) ⟨i + 1, hit', ea, el, (List.getElem?_eq_some_iff.mp ex).1⟩
  plain := fun _ {μ h l u} R => R
  own := fun {μ s l a' A E Q elts x1 pos} R k => by
    obtain ⟨i, ⟨o, ho, hc, hd⟩, r⟩ := R
    exact own_fields ho hc hd (by decide) (k s.heap (fun _ e => e) ⟨i, ⟨o, ho, hc, hd⟩, r⟩)
  done := fun {env b Γ ρ μ H s A E Q n} S a' hJ hw R k => by
    obtain ⟨i, hit, ea, e, hi⟩ := R
    have eH := hw _ (List.mem_singleton.mpr rfl)
    obtain ⟨_, a2, vs, ea2, p, q⟩ := S.hp.list eH
    rw [ea] at ea2; cases ea2
    have hlen : i = xs.length := by
      have := congrArg List.length e
      simp at this; (first | lia | omega)
    refine wpAny_pyNext_list_end a'.handled hit (IsList.of_plain p) (by simp [← q.length, hlen]) fun h' he => ?_
    exact k h' s.toks fun n e => he _ _ n e

/-- over a tuple -/
theorem Walk.tuple {I t : Addr} {xs : List AV} {items : List Value} (hne : t ≠ I) : Walk C base (.ref I) (· = I) [] true
    (fun l μ h => ∃ i, h.IsTupleIter I t i ∧ h.IsTuple t items.toArray ∧ ¬ C.z t ∧ VRs C μ h xs items ∧ xs.drop i = l ∧ i ≤ xs.length)
    (fun l _ μ h => ∃ i, h.IsTupleIter I t i ∧ h.IsTuple t items.toArray ∧ ¬ C.z t ∧ VRs C μ h xs items ∧ xs.drop i = l ∧ i ≤ xs.length) where
  frame := fun {μ μ' h h' l} R p st => by
    obtain ⟨i, ⟨o, ho, hc, hd⟩, ht, hz, q, e, hi⟩ := R
    exact ⟨i, ⟨o, st ho (.inr ⟨_, hd⟩), hc, hd⟩, IsTuple.stays ht fun _ e => st e (.inl ⟨_, ht⟩), hz, VRs.mapZ (z := C.z) p (fun e _ k => st e k) (fun _ nz => nz) q, e, hi⟩
  off := fun {env b Γ ρ μ H s l} S R {a'} j => by
    subst j
    obtain ⟨i, ⟨o, ho, hc, hd⟩, _⟩ := R
    exact notOwn_fields S.hp S.er ho hd
  live := fun {μ h l} R {a'} j => by subst j; obtain ⟨i, ⟨o, ho, _⟩, _⟩ := R; exact ⟨o, ho⟩
  self := fun {μ s l A E Q} R k => by obtain ⟨i, hit, _⟩ := R; exact wpAny_pyIter_tupleiter hit k
  liveM := fun {μ h l u} R {a'} j => by subst j; obtain ⟨i, ⟨o, ho, _⟩, _⟩ := R; exact ⟨o, ho⟩
  item := fun {env b Γ ρ μ H s A E Q v l n} S a' hJ hw R k => by
    obtain ⟨i, hit, ht, hz, q, e, hi⟩ := R
    obtain ⟨ex, el⟩ := VRs.dropCons e
    obtain ⟨u, eu, vu⟩ := q.get ex
    refine wpAny_pyNext_tuple_item hit ht (by simpa using eu) fun h' hit' hs => ?_
    have kk : ∀ {a : Addr} {o : Obj}, ¬ (a = I) → s.heap.get? a = some o → h'.get? a = some o := fun n e => (hs.2 _ n).trans e
    exact k u h' s.toks kk (vu.butJ hJ kk) ⟨i + 1, hit', IsTuple.stays ht fun _ e => kk hne e, hz, q.butJ hJ kk, el, (List.getElem?_eq_some_iff.mp ex).1⟩
  plain := fun _ {μ h l u} R => R
  own := fun {μ s l a' A E Q elts x1 pos} R k => by
    obtain ⟨i, ⟨o, ho, hc, hd⟩, r⟩ := R
    exact own_fields ho hc hd (by decide) (k s.heap (fun _ e => e) ⟨i, ⟨o, ho, hc, hd⟩, r⟩)
  done := fun {env b Γ ρ μ H s A E Q n} S a' hJ hw R k => by
    obtain ⟨i, hit, ht, hz, q, e, hi⟩ := R
    have hlen : i = xs.length := by
      have := congrArg List.length e
      simp at this; (first | lia | omega)
    refine wpAny_pyNext_tuple_end a'.handled hit ht (by simp [← q.length, hlen]) fun h' he => ?_
    exact k h' s.toks fun n e => he _ _ n e

theorem rangeL_nil {a c : Int} (h : c ≤ a) : rangeL a c = [] := by unfold rangeL; rw [show (c - a).toNat = 0 by (first | lia | omega)]; rfl
/-- over a range -/
theorem Walk.range {I : Addr} : Walk C base (.ref I) (· = I) [] true
    (fun l μ h => ∃ x left, IsRangeIter h I x left 1 ∧ rangeL x (x + left) = l) (fun l _ μ h => ∃ x left, IsRangeIter h I x left 1 ∧ rangeL x (x + left) = l) where
  frame := fun {μ μ' h h' l} R p st => by
    obtain ⟨x, left, ho, e⟩ := R
    exact ⟨x, left, st ho (.inr ⟨_, rfl⟩), e⟩
  off := fun {env b Γ ρ μ H s l} S R {a'} j => by
    subst j
    obtain ⟨x, left, ho, e⟩ := R
    exact notOwn_fields S.hp S.er ho rfl
  live := fun {μ h l} R {a'} j => by subst j; obtain ⟨x, left, ho, _⟩ := R; exact ⟨_, ho⟩
  self := fun {μ s l A E Q} R k => by obtain ⟨x, left, hit, _⟩ := R; exact wpAny_pyIter_rangeiter hit k
  liveM := fun {μ h l u} R {a'} j => by subst j; obtain ⟨x, left, ho, _⟩ := R; exact ⟨_, ho⟩
  item := fun {env b Γ ρ μ H s A E Q v l n} S a' hJ hw R k => by
    obtain ⟨x, left, ho, e⟩ := R
    have hlt : 0 < left := by
      rcases Int.lt_or_le 0 left with h | h
      · exact h
      · rw [rangeL_nil (by (first | lia | omega))] at e; cases e
    rw [rangeL_cons (by (first | lia | omega))] at e
    cases e
    refine wpAny_pyNext_range_item ho hlt fun h' hit' hs => ?_
    have kk : ∀ {a : Addr} {o : Obj}, ¬ (a = I) → s.heap.get? a = some o → h'.get? a = some o := fun n e => (hs.2 _ n).trans e
    refine k _ h' _ kk (.int _ _) ⟨x + 1, left - 1, hit', ?_⟩
    rw [show x + 1 + (left - 1) = x + left by (first | lia | omega)]
  plain := fun _ {μ h l u} R => R
  own := fun {μ s l a' A E Q elts x1 pos} R k => by
    obtain ⟨x, left, ho, e⟩ := R
    exact own_fields ho rfl rfl (by decide) (k s.heap (fun _ e => e) ⟨x, left, ho, e⟩)
  done := fun {env b Γ ρ μ H s A E Q n} S a' hJ hw R k => by
    obtain ⟨x, left, ho, e⟩ := R
    have hge : left ≤ 0 := by
      rcases Int.lt_or_le 0 left with h | h
      · rw [rangeL_cons (by (first | lia | omega))] at e; cases e
      · exact h
    refine wpAny_pyNext_range_end a'.handled ho hge fun h' he => ?_
    exact k h' s.toks fun n e => he _ _ n e
end
end Mine

namespace Mine
open PySem PySem.Calls PyProof.Rows PySem.SeqAt

section
variable (C : Cx) (T : Tab) (n b : Nat) (Γ : List Str) (S : Scope)
/-- what is walked over -/
structure ItOk (nm : Bool) (e : Expr) (d : AEnv → AHeap → Res (List AV × List (Nat × List AV))) : Prop where
  ok : ∀ {base : Heap} {env : Env} {ρ : AEnv} {μ : List Addr} {H H' : AHeap} {s : Shared} {A : Around} {E : Value → Shared → Prop} {Q : Value → Shared → Prop} {p : List AV × List (Nat × List AV)},
    Gnd C T base → env.scope = S → St C base b env Γ ρ μ H s → AOk A n → d ρ H = .ok p H' →
    (∀ (it : Value) (s' : Shared) (μ' : List Addr) (J : Addr → Prop) (R : List AV → List Addr → Heap → Prop) (M : List AV → Value → List Addr → Heap → Prop), Ext env μ μ' s.heap s'.heap → (∀ {a : Addr}, J a → s.heap.get? a = none) →
      (∀ {a : Addr}, J a → base.get? a = none) → St (C.plus J) base b env Γ ρ μ' H' s' → Walk (C.plus J) base it J p.2 nm R M → R p.1 μ' s'.heap → (∀ w ∈ p.2, H'[w.1]? = some (.list w.2)) → Q it s') →
    wpAny (model C.prog C.w) A (eval e env) (fun x s₁ => wpAny (model C.prog C.w) A (pyIter x) Q E s₁) E s
end

section
variable {C : Cx} {T : Tab} {n b : Nat} {Γ : List Str} {S : Scope} {nm : Bool}
variable {base : Heap} {env : Env} {ρ : AEnv} {μ : List Addr} {H H' : AHeap} {s : Shared} {A : Around} {E : Value → Shared → Prop} {Q : Value → Shared → Prop}

theorem notOwn_none (S : St C base b env Γ ρ μ H s) {a : Addr} (h : s.heap.get? a = none) : ¬ Own μ env a := by
  rintro (q | q | ⟨x, q⟩)
  · obtain ⟨o, e⟩ := S.hp.live q; rw [h] at e; cases e
  · subst q; obtain ⟨m, ⟨o, _, _, ho, _⟩, _⟩ := S.er.ns; rw [h] at ho; cases ho
  · obtain ⟨_, o, ho, _⟩ := S.er.cell q; rw [h] at ho; cases ho

/-- a new object is shut out -/
theorem St.shut (S : St C base b env Γ ρ μ H s) (o : Obj) (hf : o.isFreed = false) : St (C.plus (· = s.heap.objs.size)) base b env Γ ρ μ H { s with heap := s.heap.push o } := by
  refine S.mapZ (· = s.heap.objs.size) (s' := { s with heap := s.heap.push o }) (fun _ e => Heap.get?_push_of_some _ e) (fun j => ?_) (fun j => ?_) (fun j => .inr ?_) (fun {a o'} e nz => ?_) (fun {a} z => ?_) rfl rfl
  · subst j; exact notOwn_none S (none_size _)
  · subst j; exact base_none S (none_size _)
  · subst j; exact none_size _
  · rintro (q | q)
    · exact nz q
    · subst q; rw [none_size] at e; cases e
  · rcases z with q | q
    · obtain ⟨o', e⟩ := S.zl q; exact ⟨o', Heap.get?_push_of_some _ e⟩
    · subst q; exact ⟨o, Heap.get?_push_size _ hf⟩

theorem ItOk.of {e : Expr} {d : AEnv → AHeap → Res (List AV × List (Nat × List AV))} {d1 : AEnv → AHeap → Res AV} (h : EvOk C T n b Γ S e d1)
    (hd : ∀ ρ H, d ρ H = (d1 ρ H).get fun v H => (match v with
      | .tup vs => .ok (vs, []) H
      | .ref r => (match H[r]? with | some (.list xs) => .ok (xs, [(r, xs)]) H | _ => .bad)
      | _ => .bad)) : ItOk C T n b Γ S true e d := by
  refine ⟨?_⟩
  intro base env ρ μ H H' s A E Q p G hS st a ed k
  rw [hd] at ed
  obtain ⟨x, H1, e1, ed⟩ := Res.get_ok ed
  refine h.ok G hS st a e1 fun u s' μ' X S' V => ?_
  split at ed
  · cases ed
    cases V with
    | tup t nz l q =>
      rename_i t' items
      have hlt : t' ≠ s'.heap.objs.size := fun e => by obtain ⟨o, ho, _⟩ := t; rw [e, none_size] at ho; cases ho
      refine wpAny_pyIter_tuple t ?_
      have k0 : ∀ {a : Addr} {o : Obj}, s'.heap.get? a = some o → (s'.heap.push { cls := .type "tuple_iterator", data := .fields #[.ref t', .int 0 0] }).get? a = some o := fun e => Heap.get?_push_of_some _ e
      refine k _ _ μ' (· = s'.heap.objs.size) _ _ (X.trans (Ext.push _)) (fun j => ?_) (fun j => ?_) (S'.shut _ rfl) (Walk.tuple (xs := _) (items := items) hlt) ⟨0, ⟨_, Heap.get?_push_size _ rfl, rfl, rfl⟩, IsTuple.stays t fun _ e => k0 e, ?_, ?_, rfl, Nat.zero_le _⟩ (by simp)
      · subst j
        cases e : s.heap.get? s'.heap.objs.size with
        | none => rfl
        | some o => obtain ⟨o', e'⟩ := X.live e; rw [none_size] at e'; cases e'
      · subst j; exact base_none S' (none_size _)
      · rintro (z | z)
        · exact nz z
        · exact hlt z
      · refine VRs.mapZ List.prefix_rfl (fun e _ _ => k0 e) (fun {a o} e nz => ?_) q
        rintro (z | z)
        · exact nz z
        · subst z; rw [none_size] at e; cases e
  · split at ed
    · rename_i r _ xs ex; cases ed
      obtain ⟨c, rfl, ec⟩ := V.isRef
      obtain ⟨_, a', vs, ea', p1, q1⟩ := S'.hp.list ex
      rw [ec] at ea'; cases ea'
      have hlt : c ≠ s'.heap.objs.size := fun e => by obtain ⟨_, ho⟩ := p1; rw [e, none_size] at ho; cases ho
      refine wpAny_pyIter_list (IsList.of_plain p1) ?_
      refine k _ _ μ' (· = s'.heap.objs.size) _ _ (X.trans (Ext.push _)) (fun j => ?_) (fun j => ?_) (S'.shut _ rfl) (Walk.list (r := r) (xs := xs) hlt) ⟨0, ⟨_, Heap.get?_push_size _ rfl, rfl, rfl⟩, ec, rfl, Nat.zero_le _⟩ ?_
      · subst j
        cases e : s.heap.get? s'.heap.objs.size with
        | none => rfl
        | some o => obtain ⟨o', e'⟩ := X.live e; rw [none_size] at e'; cases e'
      · subst j; exact base_none S' (none_size _)
      · intro w hw; simp at hw; subst hw; exact ex
    · cases ed
  · cases ed

theorem inR_spec {i : Int} (h : inR i = true) : -1000 ≤ i ∧ i ≤ 1000 := of_decide_eq_true h
/-- the walk over a range that was made -/
theorem range_ok {r : Addr} {x y : Int} {t u v : Tok} {ws : List (Nat × List AV)} {s0 : Shared} {μ0 : List Addr} (st : St C base b env Γ ρ μ H s) (hr : IsRange s.heap r x y 1 t u v) (hx : inR x = true) (hy : inR y = true) (X : Ext env μ0 μ s0.heap s.heap)
    (k : ∀ (it : Value) (s' : Shared) (μ' : List Addr) (J : Addr → Prop) (R : List AV → List Addr → Heap → Prop) (M : List AV → Value → List Addr → Heap → Prop), Ext env μ0 μ' s0.heap s'.heap → (∀ {a : Addr}, J a → s0.heap.get? a = none) →
      (∀ {a : Addr}, J a → base.get? a = none) → St (C.plus J) base b env Γ ρ μ' H s' → Walk (C.plus J) base it J [] true R M → R (rangeL x y) μ' s'.heap → (∀ w ∈ ([] : List (Nat × List AV)), H[w.1]? = some (.list w.2)) → Q it s') :
    wpAny (model C.prog C.w) A (pyIter (.ref r)) Q E s := by
  have hx' := inR_spec hx
  have hy' := inR_spec hy
  refine wpAny_pyIter_range hr (small_one (by (first | lia | omega)) (by (first | lia | omega)) (by (first | lia | omega)) (by (first | lia | omega))) ?_
  refine k _ _ μ (· = s.heap.objs.size) _ _ (X.trans (Ext.push _)) (fun j => ?_) (fun j => ?_) (st.shut _ rfl) Walk.range ⟨x, Builtin.Range.rangeSize x y 1, Heap.get?_push_size _ rfl, ?_⟩ (by simp)
  · subst j
    cases e : s0.heap.get? s.heap.objs.size with
    | none => rfl
    | some o => obtain ⟨o', e'⟩ := X.live e; rw [none_size] at e'; cases e'
  · subst j; exact base_none st (none_size _)
  · rw [rangeSize_one]
    split
    · rw [show x + (y - x) = y by (first | lia | omega)]
    · rw [rangeL_nil (by (first | lia | omega)), rangeL_nil (by (first | lia | omega))]

theorem ItOk.range1 {f : Str} {e : Expr} {np pos : Pos} {d : AEnv → AHeap → Res (List AV × List (Nat × List AV))} {d1 : AEnv → AHeap → Res AV} (hf : biVals.lookup f = some (.type "range")) (hg : isGlob S f = true) (hn : notStar e = true) (h : EvOk C T n b Γ S e d1)
    (hd : ∀ ρ H, d ρ H = (d1 ρ H).get fun v H => (match v with | .int k => if inR k then .ok (rangeL 0 k, []) H else .bad | _ => .bad)) : ItOk C T n b Γ S true (.Call (.Name f np) [e] [] pos) d := by
  refine ⟨?_⟩
  intro base env ρ μ H H' s A E Q p G hS st a ed k
  rw [hd] at ed
  obtain ⟨x, H1, e1, ed⟩ := Res.get_ok ed
  split at ed
  · rename_i j _
    split at ed
    · rename_i hr; cases ed
      refine wpAny_Call_ofName (builtin_ok G hS st hg hf ?_)
      refine PySem.callWith_type (noStars (by simp only [List.all_cons, hn]; rfl)) (args_ok hn (wpAny_items_cons (h.ok G hS st a e1 fun u s' μ' X S' V => wpAny_items_nil ?_) (starEach_cons hn)))
      obtain ⟨t, rfl⟩ := V.isInt
      refine call_range_1 ?_
      exact range_ok (ws := []) ((S'.tok (s'.toks + 1 + 1)).push _) (IsRange.new _ _ _ _ _ _ _) (by decide) hr (X.trans (Ext.push _)) fun it s'' μ'' J R M X2 h1 h2 h3 h4 h5 h6 => k it s'' μ'' J R M X2 h1 h2 h3 h4 h5 h6
    · cases ed
  · cases ed
end
end Mine

namespace Mine
open PySem PySem.Calls PyProof.Rows PySem.SeqAt

/-- what is wanted behind a statement -/
noncomputable def FlowP (C : Cx) (base : Heap) (b : Nat) (env : Env) (Γ : List Str) (μ : List Addr) (s : Shared) (r : SR) (Q : Flow → Shared → Prop) : Prop := match r with
  | .next ρ' H' => ∀ s' μ', Ext env μ μ' s.heap s'.heap → St C base b env Γ ρ' μ' H' s' → Q .next s'
  | .ret v H' => ∀ u s' μ', Ext env μ μ' s.heap s'.heap → St C base b env Γ [] μ' H' s' → VR C μ' s'.heap v u → Q (.ret u) s'
  | .exc _ _ => False
  | .bad => False

section
variable (C : Cx) (T : Tab) (n b : Nat) (Γ : List Str) (S : Scope)
structure SOk (st : Stmt) (d : AEnv → AHeap → SR) : Prop where
  ok : ∀ {base : Heap} {env : Env} {ρ : AEnv} {μ : List Addr} {H : AHeap} {s : Shared} {A : Around} {E : Value → Shared → Prop} {Q : Flow → Shared → Prop},
    Gnd C T base → env.scope = S → St C base b env Γ ρ μ H s → AOk A n → FlowP C base b env Γ μ s (d ρ H) Q → wpAny (model C.prog C.w) A (exec st env) Q E s
structure SsOk (ss : List Stmt) (d : AEnv → AHeap → SR) : Prop where
  ok : ∀ {base : Heap} {env : Env} {ρ : AEnv} {μ : List Addr} {H : AHeap} {s : Shared} {A : Around} {E : Value → Shared → Prop} {Q : Flow → Shared → Prop},
    Gnd C T base → env.scope = S → St C base b env Γ ρ μ H s → AOk A n → FlowP C base b env Γ μ s (d ρ H) Q → wpAny (model C.prog C.w) A (execs ss env) Q E s
end

section
variable {C : Cx} {T : Tab} {n b : Nat} {Γ : List Str} {S : Scope} {nm : Bool}
variable {base : Heap} {env : Env} {ρ : AEnv} {μ μ' : List Addr} {H H' : AHeap} {s s' : Shared} {A : Around} {E : Value → Shared → Prop} {Q : Flow → Shared → Prop}

theorem EnvR.forget {h : Heap} (N : EnvR C μ h env Γ ρ) : EnvR C μ h env Γ [] where
  kind := N.kind
  ns := let ⟨m, nm, _⟩ := N.ns; ⟨m, nm, fun _ _ e => by simp at e⟩
  cells := fun k => let ⟨c, o, e, hc, _⟩ := N.cells k; ⟨c, o, e, hc, fun _ e => by simp at e⟩
  cell := N.cell
  inj := N.inj
  globals := N.globals
  builtins := N.builtins
theorem St.forget (S : St C base b env Γ ρ μ H s) : St C base b env Γ [] μ H s := ⟨S.keep, S.hp, S.er.forget, S.fresh, S.noloc, S.lm, S.nocell, S.gens, S.os, S.zl⟩

theorem FlowP.trans {r : SR} (X : Ext env μ μ' s.heap s'.heap) (k : FlowP C base b env Γ μ s r Q) : FlowP C base b env Γ μ' s' r Q := by
  cases r with
  | next ρ' H' => exact fun s'' μ'' X' S' => k s'' μ'' (X.trans X') S'
  | ret v H' => exact fun u s'' μ'' X' S' V => k u s'' μ'' (X.trans X') S' V
  | exc c H' => exact k
  | bad => exact k

theorem SsOk.nilS {d : AEnv → AHeap → SR} (hd : ∀ ρ H, d ρ H = .next ρ H) : SsOk C T n b Γ S [] d := by
  refine ⟨?_⟩
  intro base env ρ μ H s A E Q G hS st a k
  rw [hd] at k
  exact wpAny_execs_nil (k _ _ .refl st)
theorem SsOk.consS {st : Stmt} {ss : List Stmt} {d d1 d2 : AEnv → AHeap → SR} (h1 : SOk C T n b Γ S st d1) (h2 : SsOk C T n b Γ S ss d2)
    (hd : ∀ ρ H, d ρ H = (match d1 ρ H with | .next ρ H => d2 ρ H | r => r)) : SsOk C T n b Γ S (st :: ss) d := by
  refine ⟨?_⟩
  intro base env ρ μ H s A E Q G hS st a k
  rw [hd] at k
  refine wpAny_execs_cons (h1.ok G hS st a ?_)
  cases e : d1 ρ H with
  | next ρ' H' => rw [e] at k; exact fun s' μ' X S' => h2.ok G hS S' a (k.trans X)
  | ret v H' => rw [e] at k; exact fun u s' μ' X S' V => k u s' μ' X S' V
  | exc c H' => rw [e] at k; exact k
  | bad => rw [e] at k; exact k

theorem notComp_swaps {v t : Expr} {l : Nat} (h : notComp v = true) : swapsWith v (some t) l env = pure false := by
  cases v <;> first | rfl | cases h
theorem SOk.assignN {x : Str} {i : Nat} {v : Expr} {px pos : Pos} {d : AEnv → AHeap → SR} {d1 : AEnv → AHeap → Res AV} (hx : slot Γ x = some i) (hk : isStoreK S x = true) (hv : notComp v = true) (h : EvOk C T n b Γ S v d1)
    (hd : ∀ ρ H, d ρ H = (match d1 ρ H with | .ok v H => .next (ρ.set i (some v)) H | _ => .bad)) : SOk C T n b Γ S (.Assign [.Name x px] v pos) d := by
  refine ⟨?_⟩
  intro base env ρ μ H s A E Q G hS st a k
  rw [hd] at k
  cases e : d1 ρ H with
  | ok w H1 =>
    rw [e] at k
    refine wpAny_Assign_Name (h.ok G hS st a e fun u s' μ' X S' V => ?_) (notComp_swaps hv)
    have hk' : env.kindOf x = some .local ∨ env.kindOf x = some .cell := by
      unfold isStoreK at hk; rw [← hS] at hk
      simpa [kindIn, Env.kindOf] using hk
    exact S'.bind hx hk' V fun s'' S'' X' => k s'' μ' (X.trans X') S''
  | exc c H1 => rw [e] at k; exact k.elim
  | bad => rw [e] at k; exact k.elim

theorem SOk.ite {t : Expr} {body els : List Stmt} {pos : Pos} {d d1 d2 : AEnv → AHeap → SR} {dt : AEnv → AHeap → Res Bool} (ht : TrOk C T n b Γ S t dt) (h1 : SsOk C T n b Γ S body d1) (h2 : SsOk C T n b Γ S els d2)
    (hd : ∀ ρ H, d ρ H = (match dt ρ H with | .ok true H => d1 ρ H | .ok false H => d2 ρ H | _ => .bad)) : SOk C T n b Γ S (.If t body els pos) d := by
  refine ⟨?_⟩
  intro base env ρ μ H s A E Q G hS st a k
  rw [hd] at k
  cases e : dt ρ H with
  | ok c H1 =>
    rw [e] at k
    refine wpAny_If (ht.ok G hS st a e fun s' μ' X S' => ?_)
    cases c with
    | true => simp only [if_true]; exact h1.ok G hS S' a (FlowP.trans X k)
    | false => simp only [Bool.false_eq_true, if_false]; exact h2.ok G hS S' a (FlowP.trans X k)
  | exc c H1 => rw [e] at k; exact k.elim
  | bad => rw [e] at k; exact k.elim

theorem SOk.ret {v : Expr} {pos : Pos} {d : AEnv → AHeap → SR} {d1 : AEnv → AHeap → Res AV} (h : EvOk C T n b Γ S v d1) (hd : ∀ ρ H, d ρ H = (match d1 ρ H with | .ok v H => .ret v H | .exc c H => .exc c H | .bad => .bad)) : SOk C T n b Γ S (.Return (some v) pos) d := by
  refine ⟨?_⟩
  intro base env ρ μ H s A E Q G hS st a k
  rw [hd] at k
  cases e : d1 ρ H with
  | ok w H1 => rw [e] at k; exact wpAny_Return_some (h.ok G hS st a e fun u s' μ' X S' V => k u s' μ' X S'.forget V)
  | exc c H1 => rw [e] at k; exact k.elim
  | bad => rw [e] at k; exact k.elim
theorem SOk.expr {v : Expr} {pos : Pos} {d : AEnv → AHeap → SR} {d1 : AEnv → AHeap → Res AV} (hv : notComp v = true) (h : EvOk C T n b Γ S v d1) (hd : ∀ ρ H, d ρ H = (match d1 ρ H with | .ok _ H => .next ρ H | .exc c H => .exc c H | .bad => .bad)) : SOk C T n b Γ S (.Expr v pos) d := by
  refine ⟨?_⟩
  intro base env ρ μ H s A E Q G hS st a k
  rw [hd] at k
  cases e : d1 ρ H with
  | ok w H1 =>
    rw [e] at k
    refine wpAny_Expr_any (h.ok G hS st a e fun u s' μ' X S' V => k s' μ' X S') ?_ ?_
    · unfold interactive; rw [st.er.kind]; rfl
    · cases v <;> first | rfl | cases hv
  | exc c H1 => rw [e] at k; exact k.elim
  | bad => rw [e] at k; exact k.elim

theorem SOk.whl {t : Expr} {body : List Stmt} {pos : Pos} {m : Nat} {d db : AEnv → AHeap → SR} {dt : AEnv → AHeap → Res Bool} (ht : TrOk C T n b Γ S t dt) (hb : SsOk C T n b Γ S body db)
    (hd : ∀ ρ H, d ρ H = whileL dt db m ρ H) : SOk C T n b Γ S (.While t body [] pos) d := by
  refine ⟨?_⟩
  intro base env ρ μ H s A E Q G hS st a k
  rw [hd] at k
  refine wpAny_While (codeAny_whileLoop (fun j s' => ∃ ρ' μ' H', St C base b env Γ ρ' μ' H' s' ∧ Ext env μ μ' s.heap s'.heap ∧ FlowP C base b env Γ μ s (whileL dt db j ρ' H') Q) ?_ m ⟨ρ, μ, H, st, .refl, k⟩)
  rintro j s1 ⟨ρ1, μ1, H1, S1, X1, k1⟩
  cases j with
  | zero => exact k1.elim
  | succ j =>
    unfold whileL at k1
    cases e : dt ρ1 H1 with
    | ok c H2 =>
      rw [e] at k1
      refine ht.ok G hS S1 a e fun s2 μ2 X2 S2 => ?_
      cases c with
      | false =>
        simp only [Bool.false_eq_true, if_false]
        exact wpAny_execs_nil (k1 s2 μ2 (X1.trans X2) S2)
      | true =>
        simp only [if_true]
        refine hb.ok G hS S2 a ?_
        cases e' : db ρ1 H2 with
        | next ρ3 H3 => simp only [e'] at k1; exact fun s3 μ3 X3 S3 => ⟨j, Nat.lt_succ_self _, ρ3, μ3, H3, S3, (X1.trans X2).trans X3, k1⟩
        | ret v H3 => simp only [e'] at k1; exact fun u s3 μ3 X3 S3 V => k1 u s3 μ3 ((X1.trans X2).trans X3) S3 V
        | exc c H3 => simp only [e'] at k1; exact k1.elim
        | bad => simp only [e'] at k1; exact k1.elim
    | exc c H2 => rw [e] at k1; exact k1.elim
    | bad => rw [e] at k1; exact k1.elim
end
end Mine

namespace Mine
open PySem PySem.Calls PyProof.Rows PySem.SeqAt

section
variable {C : Cx} {T : Tab} {n b : Nat} {Γ : List Str} {S : Scope} {nm : Bool} {J : Addr → Prop}
variable {base : Heap} {env : Env} {ρ : AEnv} {μ μ' : List Addr} {H H' : AHeap} {s s' : Shared} {A : Around} {E : Value → Shared → Prop} {Q : Flow → Shared → Prop}

theorem still_spec {r : Nat} {xs : List AV} (h : still H r xs = true) : H[r]? = some (.list xs) := by
  unfold still at h
  split at h
  · rename_i ys e
    rw [e]
    have : ys = xs := @of_decide_eq_true _ (Classical.propDecidable _) h
    rw [this]
  · cases h
theorem stills {ws : List (Nat × List AV)} (h : ws.all (fun w => still H w.1 w.2) = true) : ∀ w ∈ ws, H[w.1]? = some (.list w.2) := fun w hw => still_spec (List.all_eq_true.mp h w hw)

theorem St.stepJ (S1 : St (C.plus J) base b env Γ ρ μ H s) {h' : Heap} {tk : Nat} (kk : ∀ {a : Addr} {o : Obj}, ¬ J a → s.heap.get? a = some o → h'.get? a = some o) (off : ∀ {a : Addr}, J a → ¬ Own μ env a) (hJb : ∀ {a : Addr}, J a → base.get? a = none)
    (live : ∀ {a : Addr}, J a → ∃ o, h'.get? a = some o) : St (C.plus J) base b env Γ ρ μ H { s with heap := h', toks := tk } :=
  S1.mapZ J (z := (C.plus J).z) (s' := { s with heap := h', toks := tk }) kk off hJb (fun j => .inl (.inr j)) (fun _ nz => nz) (fun {a} z => by
    by_cases hj : J a
    · exact live hj
    · obtain ⟨o, e⟩ := S1.zl z; exact ⟨o, kk hj e⟩) rfl rfl

/-- out of the loop, its places are open again -/
theorem St.leaveJ (S1 : St (C.plus J) base b env Γ ρ μ H s) {h' : Heap} {tk : Nat} (kk : ∀ {a : Addr} {o : Obj}, ¬ J a → s.heap.get? a = some o → h'.get? a = some o) (off : ∀ {a : Addr}, J a → ¬ Own μ env a) (hJb : ∀ {a : Addr}, J a → base.get? a = none)
    (hzJ : ∀ {a : Addr}, C.z a → ¬ J a) : St C base b env Γ ρ μ H { s with heap := h', toks := tk } :=
  S1.mapZ J (z := C.z) (s' := { s with heap := h', toks := tk }) kk off hJb (fun j => .inl (.inr j)) (fun _ nz z => nz (.inl z)) (fun {a} z => by
    obtain ⟨o, e⟩ := S1.zl (a := a) (.inl z); exact ⟨o, kk (hzJ z) e⟩) rfl rfl
theorem St.openJ (S1 : St (C.plus J) base b env Γ ρ μ H s) : St C base b env Γ ρ μ H s :=
  S1.mapZ (fun _ => False) (z := C.z) (fun _ e => e) (fun j => j.elim) (fun j => j.elim) (fun j => j.elim) (fun _ nz z => nz (.inl z)) (fun {a} z => S1.zl (a := a) (.inl z)) rfl rfl
theorem VR.openJ {h : Heap} {v : AV} {u : Value} (q : VR (C.plus J) μ h v u) : VR C μ h v u := VR.mapZ (C := C.plus J) (z := C.z) List.prefix_rfl (fun e _ _ => e) (fun _ nz z => nz (.inl z)) q

theorem zJ {h : Heap} (S0 : St C base b env Γ ρ μ H s) (hJ0 : ∀ {a : Addr}, J a → s.heap.get? a = none) : ∀ {a : Addr}, C.z a → ¬ J a := fun z j => by
  obtain ⟨o, e⟩ := S0.zl z
  rw [hJ0 j] at e; cases e

theorem notSet_folded {e : Expr} (h : notSet e = true) : ∀ x, foldedSetIterable e env x = pure x := by
  intro x; cases e <;> first | rfl | cases h

theorem storeK {x : Str} (hS : env.scope = S) (hk : isStoreK S x = true) : env.kindOf x = some .local ∨ env.kindOf x = some .cell := by
  unfold isStoreK at hk; rw [← hS] at hk
  simpa [kindIn, Env.kindOf] using hk

/-- the turns' answers, one by one -/
theorem forL_step {ws : List (Nat × List AV)} {step : AV → AEnv → AHeap → SR} {v : AV} {l : List AV} : forL ws step (v :: l) ρ H = (match step v ρ H with
    | .next ρ' H' => if ws.all (fun w => still H' w.1 w.2) then forL ws step l ρ' H' else .bad
    | r => r) := rfl

/-- a turn's body -/
theorem turn_ok {body : List Stmt} {db : AEnv → AHeap → SR} (hb : ∀ z, SsOk (C.withZ z) T n b Γ S body db) {ws : List (Nat × List AV)} {step : AV → AEnv → AHeap → SR} {v : AV} {l : List AV} {ρ1 ρ2 : AEnv} {H1 : AHeap} {it : Value} {R : List AV → List Addr → Heap → Prop} {M : List AV → Value → List Addr → Heap → Prop}
    {μ1 : List Addr} {s2 : Shared} {Q' : Flow → Shared → Prop}
    (G : Gnd C T base) (hS : env.scope = S) (a : AOk A n) (W : Walk (C.plus J) base it J ws nm R M) (S2 : St (C.plus J) base b env Γ ρ2 μ1 H1 s2) (r2 : R l μ1 s2.heap) (X2 : Ext env μ μ1 s.heap s2.heap)
    (hstep : step v ρ1 H1 = db ρ2 H1) (k : FlowP C base b env Γ μ s (forL ws step (v :: l) ρ1 H1) Q)
    (kn : ∀ s3 ρ3 μ3 H3, St (C.plus J) base b env Γ ρ3 μ3 H3 s3 → R l μ3 s3.heap → (∀ w ∈ ws, H3[w.1]? = some (.list w.2)) → Ext env μ μ3 s.heap s3.heap → FlowP C base b env Γ μ s (forL ws step l ρ3 H3) Q → Q' .next s3)
    (kr : ∀ u s3, Q (.ret u) s3 → Q' (.ret u) s3) : wpAny (model C.prog C.w) A (execs body env) Q' E s2 := by
  rw [forL_step, hstep] at k
  refine (hb _).ok (C := C.plus J) G.toZ hS S2 a ?_
  cases e : db ρ2 H1 with
  | next ρ3 H3 =>
    rw [e] at k
    simp only at k
    split at k
    · rename_i hst
      exact fun s3 μ3 X3 S3 => kn s3 ρ3 μ3 H3 S3 (W.frameX S2 r2 X3) (stills hst) (X2.trans X3) k
    · exact k.elim
  | ret w H3 => rw [e] at k; exact fun u s3 μ3 X3 S3 V => kr u s3 (k u s3 μ3 (X2.trans X3) S3.openJ V.openJ)
  | exc c H3 => rw [e] at k; exact k.elim
  | bad => rw [e] at k; exact k.elim

/-- where a for stands -/
inductive FI (C C' : Cx) (base : Heap) (b : Nat) (env : Env) (Γ : List Str) (μ : List Addr) (s : Shared) (ws : List (Nat × List AV)) (R : List AV → List Addr → Heap → Prop) (step : AV → AEnv → AHeap → SR) (Q : Flow → Shared → Prop) (m : Nat) (s1 : Shared) : Prop
  | mk (l : List AV) (ρ1 : AEnv) (μ1 : List Addr) (H1 : AHeap) (hl : l.length = m) (S1 : St C' base b env Γ ρ1 μ1 H1 s1) (r1 : R l μ1 s1.heap) (hw : ∀ w ∈ ws, H1[w.1]? = some (.list w.2)) (X1 : Ext env μ μ1 s.heap s1.heap) (k1 : FlowP C base b env Γ μ s (forL ws step l ρ1 H1) Q) : FI C C' base b env Γ μ s ws R step Q m s1

theorem SOk.for1 {x : Str} {i : Nat} {iter : Expr} {body : List Stmt} {px pos : Pos} {d db : AEnv → AHeap → SR} {di : AEnv → AHeap → Res (List AV × List (Nat × List AV))} (hx : slot Γ x = some i) (hk : isStoreK S x = true) (hset : notSet iter = true)
    (hi : ItOk C T n b Γ S true iter di) (hb : ∀ z, SsOk (C.withZ z) T n b Γ S body db)
    (hd : ∀ ρ H, d ρ H = (match di ρ H with | .ok p H => forL p.2 (fun v ρ H => db (ρ.set i (some v)) H) p.1 ρ H | _ => .bad)) : SOk C T n b Γ S (.For (.Name x px) iter body [] pos) d := by
  refine ⟨?_⟩
  intro base env ρ μ H s A E Q G hS st a k
  rw [hd] at k
  cases e : di ρ H with
  | ok p H0 =>
    rw [e] at k
    refine wpAny_For (hi.ok G hS st a e fun it s' μ' J R M X hJ0 hJb S' W r0 hw => ?_) (notSet_folded hset)
    refine codeAny_forLoop_any (FI C (C.plus J) base b env Γ μ s p.2 R (fun v ρ H => db (ρ.set i (some v)) H) Q) ?_ p.1.length ⟨p.1, ρ, μ', H0, rfl, S', r0, hw, X, k⟩
    rintro m s1 ⟨l, ρ1, μ1, H1, rfl, S1, r1, hw1, X1, k1⟩
    cases l with
    | nil =>
      refine W.done S1 a (fun j => .inr j) hw1 r1 fun h' tk kk => ?_
      exact wpAny_execs_nil (k1 _ μ1 (X1.but hJ0 kk) (S1.leaveJ kk (W.off S1 r1) hJb (zJ (h := s.heap) st hJ0)))
    | cons v l =>
      refine W.item S1 a (fun j => .inr j) hw1 r1 fun u h' tk kk V m => ?_
      refine wpAny_pure ?_
      have S2 := S1.stepJ (tk := tk) kk (W.off S1 r1) hJb (W.liveM m)
      have X2 : Ext env μ μ1 s.heap h' := X1.but hJ0 kk
      refine wpAny_assign_Name (S2.bind hx (storeK hS hk) V fun s3 S3 X3 => ?_)
      refine turn_ok hb G hS a W S3 (W.frameX S2 (W.plain rfl m) X3) (X2.trans X3) rfl k1 (fun s4 ρ4 μ4 H4 S4 r4 hw4 X4 k4 => ?_) (fun u s3 q => q)
      exact ⟨l.length, Nat.lt_succ_self _, ⟨l, ρ4, μ4, H4, rfl, S4, r4, hw4, X4, k4⟩⟩
  | exc c H0 => rw [e] at k; exact k.elim
  | bad => rw [e] at k; exact k.elim

/-- two names at once -/
theorem assign2_ok {M : Model} {x y : Str} {i j : Nat} {px py tp : Pos} {x1 : Nat} {t : Addr} {p q : Value} {v w : AV} {Q : Unit → Shared → Prop} (hS : env.scope = S) (a : AOk A n) (st : St C base b env Γ ρ μ H s) (hx : slot Γ x = some i) (hkx : isStoreK S x = true) (hy : slot Γ y = some j) (hky : isStoreK S y = true)
    (ht : s.heap.IsTuple t #[p, q]) (V : VR C μ s.heap v p) (W : VR C μ s.heap w q)
    (k : ∀ s', St C base b env Γ ((ρ.set i (some v)).set j (some w)) μ H s' → Ext env μ μ s.heap s'.heap → Q () s') : wpAny (model C.prog C.w) A (assign (.Tuple [.Name x px, .Name y py] x1 tp) env (.ref t)) Q E s := by
  refine wpAny_assign_Tuple a.handled ht rfl rfl fun h' he => ?_
  have kk : ∀ {a : Addr} {o : Obj}, s.heap.get? a = some o → h'.get? a = some o := fun {a o} e => he _ _ (fun e' => by rw [e', none_size] at e; cases e) e
  have S1 := st.grow (s' := { s with heap := h' }) kk rfl rfl
  refine wpAny_assignInOrder_more (wpAny_assign_Name (S1.bind hx (storeK hS hkx) (V.keeps kk) fun s2 S2 X2 => ?_))
  have W2 : VR C μ s2.heap w q := (W.keeps kk).mono S1.hp S1.er X2
  refine wpAny_assignInOrder_more (wpAny_assign_Name (S2.bind hy (storeK hS hky) W2 fun s3 S3 X3 => wpAny_assignInOrder_none (k s3 S3 ((Ext.grow kk).trans (X2.trans X3)))))

theorem SOk.for2 {x y : Str} {i j : Nat} {iter : Expr} {body : List Stmt} {px py tp pos : Pos} {x1 : Nat} {d db : AEnv → AHeap → SR} {di : AEnv → AHeap → Res (List AV × List (Nat × List AV))} (hx : slot Γ x = some i) (hk : isStoreK S x = true) (hy : slot Γ y = some j) (hky : isStoreK S y = true) (hset : notSet iter = true)
    (hi : ItOk C T n b Γ S nm iter di) (hb : ∀ z, SsOk (C.withZ z) T n b Γ S body db)
    (hd : ∀ ρ H, d ρ H = (match di ρ H with | .ok p H => forL p.2 (fun v ρ H => pairS (fun x y => db ((ρ.set i (some x)).set j (some y)) H) v) p.1 ρ H | _ => .bad)) : SOk C T n b Γ S (.For (.Tuple [.Name x px, .Name y py] x1 tp) iter body [] pos) d := by
  refine ⟨?_⟩
  intro base env ρ μ H s A E Q G hS st a k
  rw [hd] at k
  cases e : di ρ H with
  | ok p H0 =>
    rw [e] at k
    refine wpAny_For (hi.ok G hS st a e fun it s' μ' J R M X hJ0 hJb S' W r0 hw => ?_) (notSet_folded hset)
    refine codeAny_forLoop_any (FI C (C.plus J) base b env Γ μ s p.2 R (fun v ρ H => pairS (fun x y => db ((ρ.set i (some x)).set j (some y)) H) v) Q) ?_ p.1.length ⟨p.1, ρ, μ', H0, rfl, S', r0, hw, X, k⟩
    rintro m s1 ⟨l, ρ1, μ1, H1, rfl, S1, r1, hw1, X1, k1⟩
    cases l with
    | nil =>
      refine W.done S1 a (fun j => .inr j) hw1 r1 fun h' tk kk => ?_
      exact wpAny_execs_nil (k1 _ μ1 (X1.but hJ0 kk) (S1.leaveJ kk (W.off S1 r1) hJb (zJ (h := s.heap) st hJ0)))
    | cons v l =>
      have hv : ∃ v1 v2, v = .tup [v1, v2] := by
        rw [forL_step] at k1
        by_cases hp : ∃ v1 v2, v = .tup [v1, v2]
        · exact hp
        · have : pairS (fun x y => db ((ρ1.set i (some x)).set j (some y)) H1) v = .bad := by
            unfold pairS
            split
            · exact absurd ⟨_, _, rfl⟩ hp
            · rfl
          rw [this] at k1
          exact k1.elim
      obtain ⟨v1, v2, rfl⟩ := hv
      refine W.item S1 a (fun j => .inr j) hw1 r1 fun u h' tk kk V m => ?_
      obtain ⟨t, p1, p2, rfl, ht, V1, V2⟩ := pairOf V
      refine W.own (s := { s1 with heap := h', toks := tk }) m fun h'' kk' r2 => ?_
      have kk2 : ∀ {a : Addr} {o : Obj}, ¬ J a → s1.heap.get? a = some o → h''.get? a = some o := fun nj e => kk' nj (kk nj e)
      have S2 := S1.stepJ (tk := tk) kk2 (W.off S1 r1) hJb (W.live r2)
      have X2 : Ext env μ μ1 s.heap h'' := X1.but hJ0 kk2
      have V' : VR (C.plus J) μ1 h'' (.tup [v1, v2]) (.ref t) := VR.butJ (C := C.plus J) (J := J) (fun j => .inr j) kk' V
      obtain ⟨t', q1, q2, et, ht', W1, W2⟩ := pairOf V'
      cases et
      refine assign2_ok (M := model C.prog C.w) (C := C.plus J) hS a S2 hx hk hy hky ht' W1 W2 fun s3 S3 X3 => ?_
      refine turn_ok hb G hS a W S3 (W.frameX S2 r2 X3) (X2.trans X3) rfl k1 (fun s4 ρ4 μ4 H4 S4 r4 hw4 X4 k4 => ?_) (fun u s3 q => q)
      exact ⟨l.length, Nat.lt_succ_self _, ⟨l, ρ4, μ4, H4, rfl, S4, r4, hw4, X4, k4⟩⟩
  | exc c H0 => rw [e] at k; exact k.elim
  | bad => rw [e] at k; exact k.elim
end
end Mine

namespace Mine
open PySem PySem.Calls PyProof.Rows PySem.SeqAt

section
variable {C : Cx} {T : Tab} {n b : Nat} {Γ : List Str} {S : Scope} {nm : Bool}
variable {base : Heap} {env : Env} {ρ : AEnv} {μ μ' : List Addr} {H H' : AHeap} {s s' : Shared} {A : Around} {E : Value → Shared → Prop} {Q : Flow → Shared → Prop}

theorem setItem_plain {prog : Program} {w : World} {l : Addr} {items : Array Value} {k : Int} {t : Tok} {v : Value} {Q : Unit → Shared → Prop} (hl : s.heap.PlainList l items) (h0 : 0 ≤ k) (hfit : k < 2 ^ 63) (hn : k < items.size)
    (hQ : ∀ h', h'.PlainList l (items.setIfInBounds k.toNat v) → Heap.SameBut l s.heap h' → Q () { s with heap := h' }) : wpAny (model prog w) A (setItem (.ref l) (.int k t) v) Q E s := by
  obtain ⟨ne, ho⟩ := hl
  have hT : s.TypeIs (.ref l) "list" := ⟨_, ho, rfl⟩
  unfold setItem
  try with_reducible refine wpAny_holding ?_
  first | refine wpAny_bind (wpAny_pure ?_) | skip
  refine wpAny_bind (wpAny_sequenceKey hT (by decide) ?_)
  refine wpAny_bind (wpAny_callSpecial?_slot (name := Str.ofString "__setitem__") hT slot_list_setitem
    (wpAny_call_entry slot_list_setitem hT entry_list_setitem ?_ (args_list_setitem _ _ _)))
  show wpAny _ _ (Builtin.List.listSubscript? (.int k t) >>= _) _ _ s
  refine wpAny_bind (wpAny_listSubscript_int (fitsIndex_of h0 hfit) ?_)
  clear hfit
  obtain ⟨j, rfl⟩ := Int.eq_ofNat_of_zero_le h0
  have hj : j < items.size := by (first | lia | omega)
  have hx' : items[j]? = some items[j] := Array.getElem?_eq_getElem hj
  show wpAny _ _ ((seqItemAt l j >>= fun r => pure (r.map (j, ·))) >>= _) _ _ s
  refine wpAny_bind (wpAny_bind (wpAny_seqItemAt ho rfl (wpAny_pure ?_)))
  rw [hx']
  show wpAny _ _ (setSeqItemAt l j v >>= _) _ _ s
  have hfin : (s.heap.update l (Obj.mapSeq (·.setIfInBounds j v))).PlainList l (items.setIfInBounds j v) := by
    refine ⟨_, Heap.get?_update_self _ ho rfl⟩
  refine wpAny_bind (wpAny_setSeqItemAt ho rfl ?_)
  first
    | exact wpAny_bind (wpAny_pure (wpAny_pure ⟨.none, rfl, wpAny_pure (hQ _ hfin (Heap.SameBut.update ..))⟩))
    | exact wpAny_pure ⟨.none, rfl, wpAny_pure (hQ _ hfin (Heap.SameBut.update ..))⟩

theorem set_list (vs : List Value) (j : Nat) (x : Value) : vs.toArray.setIfInBounds j x = (vs.set j x).toArray := by simp

theorem setAt_ok {v k x : AV} {p q u : Value} {Q : Unit → Shared → Prop} (st : St C base b env Γ ρ μ H s) (V : VR C μ s.heap v p) (K : VR C μ s.heap k q) (X : VR C μ s.heap x u) (e : setAt b v k x H = .ok () H')
    (kk : ∀ s', St C base b env Γ ρ μ H' s' → Ext env μ μ s.heap s'.heap → Q () s') : wpAny (model C.prog C.w) A (setItem p q u) Q E s := by
  unfold setAt at e
  split at e
  · rename_i r k'
    split at e
    · rename_i xs ex
      split at e
      · rename_i hc; cases e
        obtain ⟨c, rfl, ec⟩ := V.isRef
        obtain ⟨t, rfl⟩ := K.isInt
        obtain ⟨hz, a', vs, ea', p1, q1⟩ := st.hp.list ex
        rw [ec] at ea'; cases ea'
        have hlim : xs.length < 2 ^ 63 := Nat.lt_of_le_of_lt hz (by decide)
        refine setItem_plain p1 hc.2.1 (by (first | lia | omega)) (by rw [List.size_toArray, ← q1.length]; exact hc.2.2) fun h' pl hs => ?_
        rw [set_list] at pl
        obtain ⟨S', X'⟩ := st.turn ex ec hc.1 pl hs (q1.set k'.toNat X) (by simpa using hz)
        exact kk _ S' X'
      · cases e
    · cases e
  · cases e

theorem swaps_sub {v o i : Expr} {p : Pos} {l : Nat} : swapsWith v (some (.Subscript o i p)) l env = pure false := by
  cases v <;> rfl
theorem SOk.setIdx {o i v : Expr} {sp pos : Pos} {d : AEnv → AHeap → SR} {dv d1 d2 : AEnv → AHeap → Res AV} (hv : EvOk C T n b Γ S v dv) (h1 : EvOk C T n b Γ S o d1) (h2 : EvOk C T n b Γ S i d2)
    (hd : ∀ ρ H, d ρ H = (match (dv ρ H).get fun x H => (d1 ρ H).get fun v H => (d2 ρ H).get fun k H => setAt b v k x H with
      | .ok _ H => .next ρ H
      | _ => .bad)) : SOk C T n b Γ S (.Assign [.Subscript o i sp] v pos) d := by
  refine ⟨?_⟩
  intro base env ρ μ H s A E Q G hS st a k
  rw [hd] at k
  split at k
  · rename_i w H' e
    obtain ⟨x, H1, e1, e⟩ := Res.get_ok e
    obtain ⟨y, H2, e2, e⟩ := Res.get_ok e
    obtain ⟨z, H3, e3, e⟩ := Res.get_ok e
    refine wpAny_Assign_Subscript (hv.ok G hS st a e1 fun u s1 μ1 X1 S1 V1 => h1.ok G hS S1 a e2 fun p s2 μ2 X2 S2 V2 => h2.ok G hS S2 a e3 fun q s3 μ3 X3 S3 V3 => ?_) swaps_sub
    exact setAt_ok S3 (V2.mono S2.hp S2.er X3) V3 ((V1.mono S1.hp S1.er X2).mono S2.hp S2.er X3) e fun s4 S4 X4 => k s4 μ3 (((X1.trans X2).trans X3).trans X4) S4
  · exact k.elim

/-- names one by one -/
theorem names_ok (hS : env.scope = S) (a : AOk A n) : ∀ (is : List Nat) (ts : List Expr) (vs : List AV) (us : List Value) {ρ ρ' : AEnv} {μ : List Addr} {s : Shared} {Q : Unit → Shared → Prop}, chkIdx Γ S is ts = true → St C base b env Γ ρ μ H s → VRs C μ s.heap vs us → setVars is vs ρ = some ρ' →
    (∀ s', St C base b env Γ ρ' μ H s' → Ext env μ μ s.heap s'.heap → Q () s') → wpAny (model C.prog C.w) A (assignInOrder ((assignEach ts env).map (·.2)) us) Q E s
  | [], ts, vs, us, ρ, ρ', μ, s, Q, hc, st, V, e, k => by
    unfold chkIdx at hc
    split at hc
    · cases V with
      | nil => simp [setVars] at e; subst e; exact wpAny_assignInOrder_none (k _ st .refl)
      | cons _ _ => simp [setVars] at e
    · cases hc
  | i :: is, ts, vs, us, ρ, ρ', μ, s, Q, hc, st, V, e, k => by
    unfold chkIdx at hc
    split at hc
    · rename_i x px r
      simp only [Bool.and_eq_true, beq_iff_eq] at hc
      cases V with
      | nil => simp [setVars] at e
      | cons V1 V2 =>
        simp only [setVars] at e
        show wpAny _ _ (assignInOrder ((assign (.Name x px) env) :: ((assignEach r env).map (·.2))) (_ :: _)) Q E s
        refine wpAny_assignInOrder_more (wpAny_assign_Name (st.bind hc.1.1 (storeK hS hc.1.2) V1 fun s2 S2 X2 => ?_))
        exact names_ok hS a is r _ _ hc.2 S2 (V2.mono st.hp st.er X2) e fun s3 S3 X3 => k s3 S3 (X2.trans X3)
    · cases hc
theorem chkIdx_each : ∀ {is : List Nat} {ts : List Expr}, chkIdx Γ S is ts = true → (assignEach ts env).length = is.length ∧ (assignEach ts env).findIdx? (·.1) = none
  | [], ts, hc => by
    unfold chkIdx at hc
    split at hc
    · exact ⟨rfl, rfl⟩
    · cases hc
  | i :: is, ts, hc => by
    unfold chkIdx at hc
    split at hc
    · rename_i x px r
      simp only [Bool.and_eq_true, beq_iff_eq] at hc
      obtain ⟨h1, h2⟩ := chkIdx_each hc.2
      refine ⟨by show (_ :: assignEach r env).length = _; simp [h1], ?_⟩
      show List.findIdx? (·.1) ((false, _) :: assignEach r env) = none
      rw [List.findIdx?_cons, h2]; rfl
    · cases hc
theorem setVars_len : ∀ {is : List Nat} {vs : List AV} {ρ ρ' : AEnv}, setVars is vs ρ = some ρ' → vs.length = is.length
  | [], [], _, _, _ => rfl
  | [], _ :: _, _, _, e => by simp [setVars] at e
  | _ :: _, [], _, _, e => by simp [setVars] at e
  | i :: is, v :: vs, _, _, e => by simp only [setVars] at e; simp [setVars_len e]

theorem SOk.assignT {is : List Nat} {ts : List Expr} {x1 : Nat} {v : Expr} {tp pos : Pos} {d : AEnv → AHeap → SR} {d1 : AEnv → AHeap → Res AV} (hc : chkIdx Γ S is ts = true) (hv : notTupComp v = true) (h : EvOk C T n b Γ S v d1)
    (hd : ∀ ρ H, d ρ H = (match d1 ρ H with
      | .ok v H => (match v with
        | .tup vs => (match setVars is vs ρ with | some ρ' => .next ρ' H | none => .bad)
        | _ => .bad)
      | _ => .bad)) : SOk C T n b Γ S (.Assign [.Tuple ts x1 tp] v pos) d := by
  refine ⟨?_⟩
  intro base env ρ μ H s A E Q G hS st a k
  rw [hd] at k
  split at k
  · rename_i w H1 e
    split at k
    · rename_i vs
      split at k
      · rename_i ρ' eρ
        refine wpAny_Assign_stores (h.ok G hS st a e fun u s1 μ1 X1 S1 V1 => ?_) ?_ ?_
        · cases V1 with
          | tup t nz l q =>
            rename_i t' items
            obtain ⟨h1, h2⟩ := chkIdx_each (env := env) hc
            show wpAny _ _ (assign (.Tuple ts x1 tp) env (.ref t')) _ _ _
            refine wpAny_assign_Tuple a.handled t (by rw [h1, List.size_toArray, ← q.length, setVars_len eρ]) h2 fun h' he => ?_
            have kk : ∀ {a : Addr} {o : Obj}, s1.heap.get? a = some o → h'.get? a = some o := fun {a o} e => he _ _ (fun e' => by rw [e', none_size] at e; cases e) e
            refine names_ok hS a is ts vs items hc (S1.grow (s' := { s1 with heap := h' }) kk rfl rfl) (q.keeps kk) eρ fun s2 S2 X2 => ?_
            exact k s2 μ1 ((X1.trans (Ext.grow kk)).trans X2) S2
        · cases v <;> first | rfl | cases hv
        · cases v <;> first | rfl | cases hv
      · exact k.elim
    · exact k.elim
  · exact k.elim

end
end Mine

namespace Mine
open PySem PySem.Calls PyProof.Rows PySem.SeqAt

section
variable {C : Cx} {T : Tab} {n b : Nat} {Γ : List Str} {S : Scope} {nm : Bool} {J : Addr → Prop}
variable {base : Heap} {env cenv : Env} {ρ : AEnv} {μ μ' : List Addr} {H H' : AHeap} {s s' : Shared} {A : Around} {E : Value → Shared → Prop} {Q : Flow → Shared → Prop}

theorem plain_notTuple {h : Heap} {D : Addr} {its : Array Value} (p : h.PlainList D its) {ts : Array Value} : ¬ h.IsTuple D ts := by
  obtain ⟨n, p⟩ := p
  rintro ⟨o, ho, hc, _⟩
  rw [p] at ho; cases ho; simp at hc
theorem plain_notFields {h : Heap} {D : Addr} {its : Array Value} (p : h.PlainList D its) {o : Obj} {vs : Array Value} (e : h.get? D = some o) : o.data ≠ .fields vs := by
  obtain ⟨n, p⟩ := p
  rw [p] at e; cases e; intro e; cases e
theorem ns_notTuple {h : Heap} {D : Addr} {m : Str → Option Value} (p : h.Ns D m) {ts : Array Value} : ¬ h.IsTuple D ts := by
  obtain ⟨o', es, ep, ho', hd, _⟩ := p
  rintro ⟨o, ho, _, _, hd'⟩
  rw [ho'] at ho; cases ho; rw [hd] at hd'; cases hd'
theorem ns_notFields {h : Heap} {D : Addr} {m : Str → Option Value} (p : h.Ns D m) {o : Obj} {vs : Array Value} (e : h.get? D = some o) : o.data ≠ .fields vs := by
  obtain ⟨o', es, ep, ho', hd, _⟩ := p
  rw [ho'] at e; cases e; rw [hd]; intro e; cases e

/-- one object that is no value's turns -/
theorem St.other (S : St C base b env Γ ρ μ H s) {D : Addr} {h' : Heap} {tk : Nat} (ht : ∀ {ts : Array Value}, ¬ s.heap.IsTuple D ts) (hf : ∀ {o : Obj} {vs : Array Value}, s.heap.get? D = some o → o.data ≠ .fields vs)
    (hO : ¬ Own μ env D) (hb : base.get? D = none) (hs : Heap.SameBut D s.heap h') (hl : C.z D → ∃ o, h'.get? D = some o) : St C base b env Γ ρ μ H { s with heap := h', toks := tk } := by
  have st : ∀ {c : Addr} {o : Obj}, s.heap.get? c = some o → ¬ (c = D) → h'.get? c = some o := fun e n => (hs.2 _ n).trans e
  have ht' : ∀ {c : Addr} {items : Array Value}, s.heap.IsTuple c items → ¬ (c = D) := fun t e => by subst e; exact ht t
  have hf' : ∀ {c : Addr} {o : Obj} {vs : Array Value}, s.heap.get? c = some o → o.data = .fields vs → ¬ (c = D) := fun e d e' => by subst e'; exact hf e d
  have mono : ∀ {x : AV} {v : Value}, VR C μ s.heap x v → VR C μ h' x v := fun q => VR.mono' (P := (· = D)) List.prefix_rfl st ht' hf' q
  have monos : ∀ {x : List AV} {v : List Value}, VRs C μ s.heap x v → VRs C μ h' x v := fun q => VRs.mono' (P := (· = D)) List.prefix_rfl st ht' hf' q
  refine ⟨?_, ⟨S.hp.len, S.hp.nd, ?_, ?_⟩, S.er.mono ?_ ?_ mono, S.fresh, S.noloc, S.lm, S.nocell, S.gens, S.os, ?_⟩
  · intro c o e
    exact st (S.keep c o e) fun e' => by subst e'; rw [hb] at e; cases e
  · intro i xs e
    obtain ⟨l, c, ws, e', ⟨n, p⟩, q⟩ := S.hp.list e
    exact ⟨l, c, ws, e', ⟨n, st p fun e'' => hO (.inl (e'' ▸ get_mem e'))⟩, monos q⟩
  · intro i e
    obtain ⟨c, n, e', p⟩ := S.hp.dict e
    exact ⟨c, n, e', st p fun e'' => hO (.inl (e'' ▸ get_mem e'))⟩
  · intro m n
    exact n.at fun o e => st e fun e' => hO (.inr (.inl e'.symm))
  · intro x c o e1 e2
    exact st e2 fun e' => hO (.inr (.inr ⟨x, e' ▸ e1⟩))
  · intro a z
    obtain ⟨o, e⟩ := S.zl z
    by_cases hc : a = D
    · subst hc; exact hl z
    · exact ⟨o, st e hc⟩
theorem VRs.other {h h' : Heap} {D : Addr} (ht : ∀ {ts : Array Value}, ¬ h.IsTuple D ts) (hf : ∀ {o : Obj} {vs : Array Value}, h.get? D = some o → o.data ≠ .fields vs) (hs : Heap.SameBut D h h') {x : List AV} {v : List Value} (q : VRs C μ h x v) : VRs C μ h' x v :=
  VRs.mono' (P := (· = D)) List.prefix_rfl (fun e n => (hs.2 _ n).trans e) (fun t e => by subst e; exact ht t) (fun e d e' => by subst e'; exact hf e d) q
theorem VR.other {h h' : Heap} {D : Addr} (ht : ∀ {ts : Array Value}, ¬ h.IsTuple D ts) (hf : ∀ {o : Obj} {vs : Array Value}, h.get? D = some o → o.data ≠ .fields vs) (hs : Heap.SameBut D h h') {x : AV} {v : Value} (q : VR C μ h x v) : VR C μ h' x v :=
  VR.mono' (P := (· = D)) List.prefix_rfl (fun e n => (hs.2 _ n).trans e) (fun t e => by subst e; exact ht t) (fun e d e' => by subst e'; exact hf e d) q

/-- a frame within a frame -/
structure Nest (env cenv : Env) (xs : List Str) (h : Heap) : Prop where
  newL : h.get? cenv.locals = none
  cells : ∀ {y : Str} {c : Addr}, cenv.cells.lookup y = some c → h.get? c = none ∨ (env.cells.lookup y = some c ∧ (cenv.kindOf y = some .cell ∨ cenv.kindOf y = some .free) ∧ y ∉ xs)

theorem slot_app {xs Γ : List Str} {y : Str} : slot (xs ++ Γ) y = (slot xs y).or ((slot Γ y).map (· + xs.length)) := by
  unfold slot; rw [List.findIdx?_append]
theorem slot_notin {xs : List Str} {y : Str} (hy : y ∉ xs) : slot xs y = none := by
  unfold slot; rw [List.findIdx?_eq_none_iff]
  intro x hx
  cases e : x == y with
  | false => rfl
  | true => exact absurd (eq_of_beq e ▸ hx) hy
theorem slot_in {xs : List Str} {y : Str} (hy : y ∈ xs) : ∃ j, slot xs y = some j ∧ j < xs.length := by
  unfold slot
  cases e : List.findIdx? (fun x => x == y) xs with
  | none => rw [List.findIdx?_eq_none_iff] at e; have := e y hy; simp at this
  | some j => rw [List.findIdx?_eq_some_iff_getElem] at e; exact ⟨j, rfl, e.1⟩
theorem slot_skip {xs Γ : List Str} {y : Str} (hy : y ∉ xs) : slot (xs ++ Γ) y = (slot Γ y).map (· + xs.length) := by
  rw [slot_app, slot_notin hy]; simp

/-- as Ext, but for what lies at J -/
structure ExtJ (J : Addr → Prop) (env : Env) (μ μ' : List Addr) (h h' : Heap) : Prop where
  pre : μ <+: μ'
  stay : ∀ {a : Addr} {o : Obj}, h.get? a = some o → ¬ Own μ env a → ¬ J a → h'.get? a = some o
  new : ∀ {a : Addr}, a ∈ μ' → a ∉ μ → h.get? a = none
  live : ∀ {a : Addr} {o : Obj}, h.get? a = some o → ¬ J a → ∃ o', h'.get? a = some o'
theorem ExtJ.grow {h h' : Heap} (k : ∀ {a : Addr} {o : Obj}, h.get? a = some o → h'.get? a = some o) : ExtJ J env μ μ h h' := ⟨List.prefix_rfl, fun e _ _ => k e, fun p q => absurd p q, fun e _ => ⟨_, k e⟩⟩
theorem ExtJ.trans {h h' h'' : Heap} {μ'' : List Addr} (off : ∀ {a : Addr}, J a → a ∉ μ'') (x : ExtJ J env μ μ' h h') (y : Ext env μ' μ'' h' h'') : ExtJ J env μ μ'' h h'' := by
  refine ⟨x.pre.trans y.pre, fun {a o} e ho nj => y.stay (x.stay e ho nj) ?_, fun {a} hm hn => ?_, fun e nj => let ⟨_, e'⟩ := x.live e nj; y.live e'⟩
  · rintro (q | q | q)
    · by_cases hq : a ∈ μ
      · exact ho (.inl hq)
      · rw [x.new q hq] at e; cases e
    · exact ho (.inr (.inl q))
    · exact ho (.inr (.inr q))
  · by_cases hq : a ∈ μ'
    · exact x.new hq hn
    · cases e : h.get? a with
      | none => rfl
      | some o =>
        by_cases hj : J a
        · exact absurd hm (off hj)
        · obtain ⟨o', e'⟩ := x.live e hj; rw [y.new hm hq] at e'; cases e'
theorem ExtJ.step {h h' h'' : Heap} (x : ExtJ J env μ μ' h h') (k : ∀ {a : Addr} {o : Obj}, ¬ J a → h'.get? a = some o → h''.get? a = some o) : ExtJ J env μ μ' h h'' :=
  ⟨x.pre, fun e ho nj => k nj (x.stay e ho nj), x.new, fun e nj => let ⟨o, e'⟩ := x.live e nj; ⟨o, k nj e'⟩⟩
theorem ExtJ.after {h0 h h' : Heap} {μ0 : List Addr} (x : Ext env μ0 μ h0 h) (y : ExtJ J env μ μ' h h') (hJ : ∀ {a : Addr}, J a → h0.get? a = none) : Ext env μ0 μ' h0 h' := by
  have nj : ∀ {a : Addr} {o : Obj}, h0.get? a = some o → ¬ J a := fun e j => by rw [hJ j] at e; cases e
  refine ⟨x.pre.trans y.pre, fun {a o} e ho => y.stay (x.stay e ho) ?_ (nj e), fun {a} hm hn => ?_, fun e => let ⟨_, e'⟩ := x.live e; y.live e' (nj e)⟩
  · rintro (q | q | q)
    · by_cases hq : a ∈ μ0
      · exact ho (.inl hq)
      · rw [x.new q hq] at e; cases e
    · exact ho (.inr (.inl q))
    · exact ho (.inr (.inr q))
  · by_cases hq : a ∈ μ
    · exact x.new hq hn
    · cases e : h0.get? a with
      | none => rfl
      | some o => obtain ⟨o', e'⟩ := x.live e; rw [y.new hm hq] at e'; cases e'

theorem St.leave {xs : List Str} {vals : AEnv} (S0 : St C base b env Γ ρ μ H s) (N : Nest env cenv xs s.heap) (hv : vals.length = xs.length) (S1 : St C base b cenv (xs ++ Γ) (vals ++ ρ) μ' H' s') (X : ExtJ J cenv μ μ' s.heap s'.heap)
    (hJz : ∀ {a : Addr}, J a → C.z a) (hJo : ∀ {a : Addr}, J a → ¬ Own μ env a) : St C base b env Γ ρ μ' H' s' ∧ ExtJ J env μ μ' s.heap s'.heap := by
  have own : ∀ {a : Addr} {o : Obj}, s.heap.get? a = some o → ¬ Own μ env a → ¬ Own μ cenv a := by
    rintro a o e hn (q | q | ⟨y, q⟩)
    · exact hn (.inl q)
    · subst q; rw [N.newL] at e; cases e
    · rcases N.cells q with q' | ⟨q', _⟩
      · rw [q'] at e; cases e
      · exact hn (.inr (.inr ⟨y, q'⟩))
  have X' : ExtJ J env μ μ' s.heap s'.heap := ⟨X.pre, fun e hn nj => X.stay e (own e hn) nj, X.new, X.live⟩
  have mono : ∀ {x : AV} {v : Value}, VR C μ s.heap x v → VR C μ' s'.heap x v := fun q => VR.mapZ (z := C.z) X.pre (fun e nz k => X'.stay e (by
    rcases k with ⟨its, t⟩ | ⟨vs, d⟩
    · exact notOwn_tuple S0.hp S0.er t
    · exact notOwn_fields S0.hp S0.er e d) (fun j => nz (hJz j))) (fun _ nz => nz) q
  obtain ⟨m, nn, q⟩ := S0.er.ns
  have hL : ∀ {o : Obj}, s.heap.get? env.locals = some o → s'.heap.get? env.locals = some o := fun {o} e => by
    refine X.stay e ?_ (fun j => hJo j (.inr (.inl rfl)))
    rintro (q | q | ⟨y, q⟩)
    · exact S0.lm q
    · rw [q, N.newL] at e; cases e
    · rcases N.cells q with q' | ⟨q', _⟩
      · rw [q'] at e; cases e
      · obtain ⟨_, o1, h1, d1⟩ := S0.er.cell q'
        obtain ⟨o2, _, _, h2, d2, _⟩ := nn
        rw [h1] at h2; cases h2; rw [d1] at d2; cases d2
  have hc : ∀ {y : Str} {c : Addr} {o : Obj}, env.cells.lookup y = some c → cenv.cells.lookup y ≠ some c → s.heap.get? c = some o → s'.heap.get? c = some o := fun {y c o} e1 ne e => by
    refine X.stay e ?_ (fun j => hJo j (.inr (.inr ⟨y, e1⟩)))
    rintro (q | q | ⟨z, q⟩)
    · obtain ⟨_, o1, h1, d1⟩ := S0.er.cell e1
      obtain ⟨i, hi⟩ := mem_get q
      obtain ⟨ob, eb⟩ := S0.hp.get hi
      cases ob with
      | list xs => obtain ⟨_, a', _, ea, ⟨_, p⟩, _⟩ := S0.hp.list eb; rw [hi] at ea; cases ea; rw [p] at h1; cases h1; cases d1
      | dict => obtain ⟨a', _, ea, p⟩ := S0.hp.dict eb; rw [hi] at ea; cases ea; rw [p] at h1; cases h1; cases d1
    · rw [q] at e; rw [N.newL] at e; cases e
    · rcases N.cells q with q' | ⟨q', _⟩
      · rw [q'] at e; cases e
      · have := S0.er.inj q' e1; subst this; exact ne q
  refine ⟨⟨S1.keep, S1.hp, ⟨S0.er.kind, ⟨m, nn.at fun o e => hL e, fun e1 e2 e3 => let ⟨u, e4, v⟩ := q e1 e2 e3; ⟨u, e4, mono v⟩⟩, ?_, ?_, S0.er.inj, S0.er.globals, S0.er.builtins⟩, S1.fresh, S0.noloc, ?_, S0.nocell, S1.gens, S1.os, S1.zl⟩, X'⟩
  · intro y ky
    obtain ⟨c, o, e, hcell, qv⟩ := S0.er.cells ky
    by_cases hin : cenv.cells.lookup y = some c
    · obtain ⟨ob, eb, _⟩ := id hcell
      rcases N.cells hin with q' | ⟨_, kc, hy⟩
      · rw [q'] at eb; cases eb
      · obtain ⟨c2, o2, e2, hcell2, qv2⟩ := S1.er.cells kc
        rw [hin] at e2; cases e2
        refine ⟨c, o2, e, hcell2, fun {i v} e1 e3 => qv2 (i := i + xs.length) (v := v) (by rw [slot_skip hy, e1]; rfl) ?_⟩
        rw [List.getElem?_append_right (by (first | lia | omega)), hv, Nat.add_sub_cancel]; exact e3
    · obtain ⟨ob, eb, db⟩ := hcell
      exact ⟨c, o, e, ⟨ob, hc e hin eb, db⟩, fun e1 e2 => let ⟨u, e3, v⟩ := qv e1 e2; ⟨u, e3, mono v⟩⟩
  · intro y c e
    by_cases hin : cenv.cells.lookup y = some c
    · exact S1.er.cell hin
    · obtain ⟨o, ob, eb, db⟩ := S0.er.cell e
      exact ⟨o, ob, hc e hin eb, db⟩
  · intro q
    by_cases hq : env.locals ∈ μ
    · exact S0.lm hq
    · obtain ⟨o, _, _, ho, _⟩ := nn
      rw [X.new q hq] at ho; cases ho
end

/-! the closure of a comprehension -/
noncomputable def closL (env : Env) : List (Str × NameKind) → List (Str × Addr) → List (Str × Addr)
  | [], acc => acc
  | (x, k) :: r, acc => if k == .free then closL env r ((x, (env.cells.lookup x).getD 0) :: acc) else closL env r acc

theorem closL_forIn {env : Env} (f : Str × NameKind → List (Str × Addr) → Sem (ForInStep (List (Str × Addr))))
    (hf : ∀ x k cs, f (x, k) cs = if k == .free then (do let a ← cellOf env x; pure (.yield ((x, a) :: cs))) else pure (.yield cs)) :
    ∀ (names : List (Str × NameKind)) (acc : List (Str × Addr)), (∀ p ∈ names, p.2 = .free → ∃ c, env.cells.lookup p.1 = some c) → forIn names acc f = pure (closL env names acc)
  | [], acc, _ => by rw [List.forIn_nil]; rfl
  | (x, k) :: r, acc, h => by
    rw [List.forIn_cons, hf]
    unfold closL
    by_cases hk : (k == .free) = true
    · rw [if_pos hk, if_pos hk]
      obtain ⟨c, hc⟩ := h (x, k) List.mem_cons_self (eq_of_beq hk)
      have : cellOf env x = pure c := by unfold cellOf; rw [hc]
      rw [this, hc, pure_bind, pure_bind]
      exact closL_forIn f hf r _ fun p hp => h p (List.mem_cons_of_mem _ hp)
    · rw [if_neg hk, if_neg hk, pure_bind]
      exact closL_forIn f hf r _ fun p hp => h p (List.mem_cons_of_mem _ hp)
theorem closureFor_eq {env : Env} {scope : Scope} (h : ∀ p ∈ scope.names, p.2 = .free → ∃ c, env.cells.lookup p.1 = some c) : closureFor scope env = pure (closL env scope.names []) := by
  simp only [closureFor]
  rw [closL_forIn _ (fun x k cs => by cases hk : k == NameKind.free <;> simp [hk]) scope.names [] h]
  rfl

theorem closL_lookup {env : Env} : ∀ (names : List (Str × NameKind)) (acc : List (Str × Addr)) {y : Str} {c : Addr}, (closL env names acc).lookup y = some c →
    ((y, .free) ∈ names ∧ (env.cells.lookup y).getD 0 = c) ∨ acc.lookup y = some c
  | [], acc, y, c, h => .inr h
  | (x, k) :: r, acc, y, c, h => by
    unfold closL at h
    split at h
    · rename_i hk
      have hk' : k = .free := eq_of_beq hk
      subst hk'
      rcases closL_lookup r _ h with ⟨q, e⟩ | q
      · exact .inl ⟨List.mem_cons_of_mem _ q, e⟩
      · rw [List.lookup_cons] at q
        cases e : y == x with
        | true => rw [e] at q; cases q; rw [eq_of_beq e]; exact .inl ⟨List.mem_cons_self, rfl⟩
        | false => rw [e] at q; exact .inr q
    · rcases closL_lookup r _ h with ⟨q, e⟩ | q
      · exact .inl ⟨List.mem_cons_of_mem _ q, e⟩
      · exact .inr q
theorem closL_some {env : Env} : ∀ (names : List (Str × NameKind)) (acc : List (Str × Addr)) {y : Str}, (y, .free) ∈ names ∨ (∃ c, acc.lookup y = some c) → ∃ c, (closL env names acc).lookup y = some c
  | [], acc, y, h => by
    rcases h with h | h
    · cases h
    · exact h
  | (x, k) :: r, acc, y, h => by
    unfold closL
    split
    · rename_i hk
      refine closL_some r _ ?_
      by_cases hyx : y = x
      · subst hyx; exact .inr ⟨(env.cells.lookup y).getD 0, by rw [List.lookup_cons]; simp⟩
      · rcases h with h | ⟨c, h⟩
        · rcases List.mem_cons.mp h with h | h
          · cases h; exact absurd rfl hyx
          · exact .inl h
        · refine .inr ⟨c, ?_⟩
          rw [List.lookup_cons, show (y == x) = false by simpa using hyx]; exact h
    · rename_i hk
      refine closL_some r _ ?_
      rcases h with h | h
      · rcases List.mem_cons.mp h with h | h
        · cases h; exact absurd rfl hk
        · exact .inl h
      · exact .inr h

theorem cellsFrom_app : ∀ (names : List (Str × NameKind)) (k : Nat) (acc cl : List (Str × Addr)), cellsFrom k names (acc ++ cl) = cellsFrom k names acc ++ cl
  | [], _, _, _ => rfl
  | (x, kd) :: r, k, acc, cl => by
    unfold cellsFrom
    split
    · exact cellsFrom_app r (k + 1) ((x, k) :: acc) cl
    · exact cellsFrom_app r k acc cl
theorem cellsFrom_mem : ∀ (names : List (Str × NameKind)) (k : Nat) (acc : List (Str × Addr)) {y : Str} {c : Addr}, (cellsFrom k names acc).lookup y = some c → (y, .cell) ∈ names ∨ acc.lookup y = some c
  | [], _, _, _, _, h => .inr h
  | (x, kd) :: r, k, acc, y, c, h => by
    unfold cellsFrom at h
    split at h
    · rename_i hk
      have hk' : kd = .cell := eq_of_beq hk
      subst hk'
      rcases cellsFrom_mem r _ _ h with q | q
      · exact .inl (List.mem_cons_of_mem _ q)
      · rw [List.lookup_cons] at q
        cases e : y == x with
        | true => rw [eq_of_beq e]; exact .inl List.mem_cons_self
        | false => rw [e] at q; exact .inr q
    · rcases cellsFrom_mem r _ _ h with q | q
      · exact .inl (List.mem_cons_of_mem _ q)
      · exact .inr q
theorem cellsFrom_some : ∀ (names : List (Str × NameKind)) (k : Nat) (acc : List (Str × Addr)) {y : Str}, (y, .cell) ∈ names ∨ (∃ c, acc.lookup y = some c) → ∃ c, (cellsFrom k names acc).lookup y = some c
  | [], _, acc, y, h => by
    rcases h with h | h
    · cases h
    · exact h
  | (x, kd) :: r, k, acc, y, h => by
    unfold cellsFrom
    split
    · rename_i hk
      refine cellsFrom_some r _ _ ?_
      by_cases hyx : y = x
      · subst hyx; exact .inr ⟨k, by rw [List.lookup_cons]; simp⟩
      · rcases h with h | ⟨c, h⟩
        · rcases List.mem_cons.mp h with h | h
          · cases h; exact absurd rfl hyx
          · exact .inl h
        · refine .inr ⟨c, ?_⟩
          rw [List.lookup_cons, show (y == x) = false by simpa using hyx]; exact h
    · rename_i hk
      refine cellsFrom_some r _ _ ?_
      rcases h with h | h
      · rcases List.mem_cons.mp h with h | h
        · cases h; exact absurd rfl hk
        · exact .inl h
      · exact .inr h

theorem lookup_relab {S : Scope} {scope : Scope} {y : Str} : (relab scope S).names.lookup y = (scope.names.lookup y).map fun k => if (k == .free && S.kind == .function && kindIn S y == some .cell) then .cell else k := by
  have : ∀ (l : List (Str × NameKind)), (l.map fun (n, k) => if (k == .free && S.kind == .function && kindIn S n == some .cell) then (n, NameKind.cell) else (n, k)).lookup y = (l.lookup y).map fun k => if (k == .free && S.kind == .function && kindIn S y == some .cell) then .cell else k := by
    intro l
    induction l with
    | nil => rfl
    | cons p r ih =>
      obtain ⟨x, k⟩ := p
      rw [List.map_cons, List.lookup_cons]
      cases e : y == x with
      | true =>
        have e' := eq_of_beq e; subst e'
        by_cases hc : (k == NameKind.free && S.kind == .function && kindIn S y == some .cell) = true
        · simp only [hc, if_true, List.lookup_cons, beq_self_eq_true, Option.map_some]
        · simp only [hc, Bool.false_eq_true, if_false, List.lookup_cons, beq_self_eq_true, Option.map_some]
      | false =>
        by_cases hc : (k == NameKind.free && S.kind == .function && kindIn S x == some .cell) = true
        · simp only [hc, if_true, List.lookup_cons, e]; exact ih
        · simp only [hc, Bool.false_eq_true, if_false, List.lookup_cons, e]; exact ih
  exact this scope.names
end Mine

namespace Mine
open PySem PySem.Calls PyProof.Rows PySem.SeqAt

/-- the environment of a comprehension -/
noncomputable def compE (scope : Scope) (L : Addr) (env : Env) : Env :=
  { newEnv scope L env.globals (cellsFrom (L + 1) scope.names (closL env scope.names [])) env.qual none .none (some env) builtinsNs with scope := relab scope env.scope }

/-- what is asked of a comprehension's scope; xs are its targets -/
structure ScOk (scope S : Scope) (Γ xs : List Str) : Prop where
  kind : scope.kind = .function
  loc : ∀ x ∈ scope.names, x.2 = .local → scope.names.lookup x.1 = some .local
  cell : ∀ x ∈ scope.names, x.2 = .cell → scope.names.lookup x.1 = some .cell
  free : ∀ x ∈ scope.names, x.2 = .free → scope.names.lookup x.1 = some .free ∧ (kindIn S x.1 = some .cell ∨ kindIn S x.1 = some .free)
  own : ∀ x ∈ scope.names, (x.2 = .local ∨ x.2 = .cell) → x.1 ∈ xs ∨ slot Γ x.1 = none
  tgt : ∀ x ∈ xs, isStoreK scope x = true

section
variable {C : Cx} {T : Tab} {n b : Nat} {Γ : List Str} {S : Scope} {nm : Bool} {J : Addr → Prop}
variable {base : Heap} {env cenv : Env} {ρ : AEnv} {μ μ' : List Addr} {H H' : AHeap} {s s' : Shared} {A : Around} {E : Value → Shared → Prop}
variable {scope : Scope} {xs : List Str} {M : Model}

theorem newComp {Q : Env → Shared → Prop}
    (hQ : ∀ h', (∀ {a : Addr} {o : Obj}, s.heap.get? a = some o → h'.get? a = some o) → h'.Ns s.heap.objs.size (fun _ => none) → CellsOk h' (s.heap.objs.size + 1) (cellsFrom (s.heap.objs.size + 1) scope.names []) →
      Q (newEnv scope s.heap.objs.size env.globals (cellsFrom (s.heap.objs.size + 1) scope.names (closL env scope.names [])) env.qual none .none (some env) builtinsNs) { s with heap := h' }) :
    wpAny M A (newFunctionEnv scope env.globals (closL env scope.names []) [] env.qual none .none (some env)) Q E s := by
  simp only [newFunctionEnv, Option.isSome_some, if_true]
  refine wpAny_bind (wpAny_alloc ?_)
  refine wpAny_bind (wpAny_layCells _ (fun name kind cells => by cases hkc : kind == NameKind.cell <;> simp) _ _ _ _ ?_)
  have ok := cellsFrom_ok scope.names (s.heap.push { cls := .type "dict", data := .dict #[] }) (s.heap.objs.size + 1) [] ⟨fun _ _ hm => (nomatch hm), List.Pairwise.nil⟩ (by rw [Heap.size_push]; exact Nat.le_refl _)
  rw [Heap.size_push] at ok
  rw [show ({ s with heap := s.heap.push { cls := .type "dict", data := .dict #[] } } : Shared).heap.objs.size = s.heap.objs.size + 1 from Heap.size_push ..]
  rw [List.forIn_nil]
  refine wpAny_bind (wpAny_pure (wpAny_pure ?_))
  exact hQ _ (fun e => pushCells_keeps _ _ _ _ (Heap.get?_push_of_some _ e)) ((Heap.Ns.new s.heap (.type "dict")).keeps (pushCells_keeps _ _)) ok

theorem kind_cases (hs : ScOk scope env.scope Γ xs) {y : Str} {k : NameKind} (e : (compE scope n env).kindOf y = some k) :
    (k = .local ∧ scope.names.lookup y = some .local) ∨ (k = .cell ∧ scope.names.lookup y = some .cell) ∨ ((k = .cell ∨ k = .free) ∧ scope.names.lookup y = some .free) ∨ (k ≠ .local ∧ k ≠ .cell ∧ k ≠ .free) := by
  have e' : (relab scope env.scope).names.lookup y = some k := e
  rw [lookup_relab] at e'
  cases q : scope.names.lookup y with
  | none => rw [q] at e'; cases e'
  | some k0 =>
    rw [q] at e'
    simp only [Option.map_some, Option.some.injEq] at e'
    split at e'
    · rename_i hc
      simp only [Bool.and_eq_true, beq_iff_eq] at hc
      rw [hc.1.1]; exact .inr (.inr (.inl ⟨.inl e'.symm, rfl⟩))
    · subst e'
      cases k0 <;> simp

theorem kind_free (hs : ScOk scope env.scope Γ xs) {y : Str} (e : scope.names.lookup y = some .free) : (compE scope n env).kindOf y = some .cell ∨ (compE scope n env).kindOf y = some .free := by
  have : (compE scope n env).kindOf y = (relab scope env.scope).names.lookup y := rfl
  rw [this, lookup_relab, e]
  simp only [Option.map_some]
  split
  · exact .inl rfl
  · exact .inr rfl

theorem free_notin (hs : ScOk scope S Γ xs) {y : Str} (e : scope.names.lookup y = some .free) : y ∉ xs := fun hy => by
  have := hs.tgt y hy
  unfold isStoreK kindIn at this
  rw [e] at this; cases this

theorem slot_own (hs : ScOk scope S Γ xs) {y : Str} {i : Nat} {v : AV} (hm : ∃ k, (y, k) ∈ scope.names ∧ (k = NameKind.local ∨ k = NameKind.cell)) (e : slot (xs ++ Γ) y = some i) (e' : (List.replicate xs.length (none : Option AV) ++ ρ)[i]? = some (some v)) : False := by
  obtain ⟨k, hm, hk⟩ := hm
  by_cases hy : y ∈ xs
  · obtain ⟨j, ej, hj⟩ := slot_in hy
    rw [slot_app, ej] at e
    simp only [Option.some_or, Option.some.injEq] at e
    subst e
    rw [List.getElem?_append_left (by simpa using hj)] at e'
    simp [hj] at e'
  · rcases hs.own _ hm hk with q | q
    · exact hy q
    · rw [slot_skip hy] at e
      have q' : slot Γ y = none := q
      rw [q'] at e; cases e

theorem lookup_app {α : Type} : ∀ (l1 l2 : List (Str × α)) (y : Str), (l1 ++ l2).lookup y = (l1.lookup y).or (l2.lookup y)
  | [], l2, y => by simp
  | (x, c) :: r, l2, y => by
    simp only [List.cons_append, List.lookup_cons]
    cases y == x with
    | true => simp
    | false => exact lookup_app r l2 y

/-- the state of the new frame -/
theorem St.enter (st : St C base b env Γ ρ μ H s) (hs : ScOk scope env.scope Γ xs) {h' : Heap} {L : Addr} (hL : s.heap.objs.size ≤ L) (kk : ∀ {a : Addr} {o : Obj}, s.heap.get? a = some o → h'.get? a = some o)
    (nn : h'.Ns L (fun _ => none)) (cs : CellsOk h' (L + 1) (cellsFrom (L + 1) scope.names [])) :
    St C base b (compE scope L env) (xs ++ Γ) (List.replicate xs.length none ++ ρ) μ H { s with heap := h' } ∧ Nest env (compE scope L env) xs s.heap := by
  have hcl : ∀ y, (compE scope L env).cells.lookup y = ((cellsFrom (L + 1) scope.names []).lookup y).or ((closL env scope.names []).lookup y) := fun y => by
    show (cellsFrom (L + 1) scope.names (closL env scope.names [])).lookup y = _
    rw [← lookup_app, ← cellsFrom_app]; rfl
  have hcases : ∀ {y : Str} {c : Addr}, (compE scope L env).cells.lookup y = some c → ((cellsFrom (L + 1) scope.names []).lookup y = some c) ∨ (env.cells.lookup y = some c ∧ (y, .free) ∈ scope.names) := by
    intro y c e
    rw [hcl, Option.or_eq_some_iff] at e
    rcases e with e | ⟨_, e⟩
    · exact .inl e
    · rcases closL_lookup _ _ e with ⟨q, e'⟩ | q
      · obtain ⟨c', o', ec, _⟩ := st.er.cells (x := y) (hs.free _ q rfl).2
        rw [ec] at e'
        cases e'
        exact .inr ⟨ec, q⟩
      · cases q
  have hown : ∀ {y : Str} {c : Addr}, (cellsFrom (L + 1) scope.names []).lookup y = some c → h'.IsCell c none ∧ L + 1 ≤ c := fun e => cs.empty _ _ (mem_of_lookup e)
  have hlt : ∀ {y : Str} {c : Addr}, env.cells.lookup y = some c → c < s.heap.objs.size := fun e => by
    obtain ⟨_, o, eo, _⟩ := st.er.cell e; exact Heap.lt_size eo
  refine ⟨⟨fun a o e => kk (st.keep a o e), st.hp.keeps kk, ⟨hs.kind, ⟨_, nn, ?_⟩, ?_, ?_, ?_, st.er.globals, st.er.builtins⟩, st.fresh, base_none st (none_ge hL), not_mem st (none_ge hL), ?_, st.gens, st.os, fun z => let ⟨o, e⟩ := st.zl z; ⟨o, kk e⟩⟩, ⟨none_ge hL, ?_⟩⟩
  · intro y i v e1 e2 e3
    exfalso
    rcases kind_cases hs e2 with ⟨_, q⟩ | ⟨q, _⟩ | ⟨q, _⟩ | ⟨q, _⟩
    · exact slot_own hs ⟨_, mem_of_lookup q, .inl rfl⟩ e1 e3
    · cases q
    · rcases q with q | q <;> cases q
    · exact q rfl
  · intro y ky
    have : scope.names.lookup y = some .cell ∨ scope.names.lookup y = some .free := by
      rcases ky with ky | ky
      · rcases kind_cases hs ky with ⟨q, _⟩ | ⟨_, q⟩ | ⟨_, q⟩ | ⟨_, q, _⟩
        · cases q
        · exact .inl q
        · exact .inr q
        · exact absurd rfl q
      · rcases kind_cases hs ky with ⟨q, _⟩ | ⟨q, _⟩ | ⟨_, q⟩ | ⟨_, _, q⟩
        · cases q
        · cases q
        · exact .inr q
        · exact absurd rfl q
    rcases this with q | q
    · obtain ⟨c, e⟩ := cellsFrom_some scope.names (L + 1) [] (.inl (mem_of_lookup q))
      refine ⟨c, none, by rw [hcl, e]; rfl, (hown e).1, fun e1 e2 => (slot_own hs ⟨_, mem_of_lookup q, .inr rfl⟩ e1 e2).elim⟩
    · have hm := mem_of_lookup q
      obtain ⟨c, o, ec, hcell, qv⟩ := st.er.cells (x := y) (hs.free _ hm rfl).2
      have hno : (cellsFrom (L + 1) scope.names []).lookup y = none := by
        cases e : (cellsFrom (L + 1) scope.names []).lookup y with
        | none => rfl
        | some c' =>
          rcases cellsFrom_mem _ _ _ e with q' | q'
          · have := hs.cell _ q' rfl; rw [q] at this; cases this
          · cases q'
      obtain ⟨c', e'⟩ := closL_some (env := env) scope.names [] (.inl hm)
      have : c' = c := by
        rcases closL_lookup _ _ e' with ⟨_, q'⟩ | q'
        · rw [ec] at q'; exact q'.symm
        · cases q'
      subst this
      obtain ⟨ob, eb, db⟩ := hcell
      refine ⟨c', o, by rw [hcl, hno, e']; rfl, ⟨ob, kk eb, db⟩, fun {i v} e1 e2 => ?_⟩
      have hy := free_notin hs q
      rw [slot_skip hy] at e1
      cases ei : slot Γ y with
      | none => rw [ei] at e1; cases e1
      | some j =>
        rw [ei] at e1
        cases e1
        rw [List.getElem?_append_right (by simp), List.length_replicate, Nat.add_sub_cancel] at e2
        obtain ⟨u, e3, v3⟩ := qv ei e2
        exact ⟨u, e3, v3.keeps kk⟩
  · intro y c e
    rcases hcases e with e | ⟨e, _⟩
    · exact ⟨_, (hown e).1⟩
    · obtain ⟨o, ob, eb, db⟩ := st.er.cell e; exact ⟨o, ob, kk eb, db⟩
  · intro y z c e1 e2
    rcases hcases e1 with e1 | ⟨e1, _⟩ <;> rcases hcases e2 with e2 | ⟨e2, _⟩
    · exact name_of_addr cs.apart (mem_of_lookup e1) (mem_of_lookup e2)
    · exact absurd (Nat.lt_of_lt_of_le (hlt e2) (Nat.le_trans hL (Nat.le_of_succ_le (hown e1).2))) (Nat.lt_irrefl _)
    · exact absurd (Nat.lt_of_lt_of_le (hlt e1) (Nat.le_trans hL (Nat.le_of_succ_le (hown e2).2))) (Nat.lt_irrefl _)
    · exact st.er.inj e1 e2
  · intro y c e
    rcases hcases e with e | ⟨e, _⟩
    · exact base_none st (none_ge (Nat.le_trans hL (Nat.le_of_succ_le (hown e).2)))
    · exact st.nocell e
  · intro y c e
    rcases hcases e with e | ⟨e, q⟩
    · exact .inl (none_ge (Nat.le_trans hL (Nat.le_of_succ_le (hown e).2)))
    · have := (hs.free _ q rfl).1
      exact .inr ⟨e, kind_free hs this, free_notin hs this⟩
end
end Mine

namespace Mine
open PySem PySem.Calls PyProof.Rows PySem.SeqAt

section
variable (C : Cx) (T : Tab) (n b : Nat) (Γ : List Str) (S : Scope)
/-- the tests of a comprehension -/
structure CoOk (ifs : List Expr) (d : AEnv → AHeap → Res Bool) : Prop where
  ok : ∀ {base : Heap} {env : Env} {ρ : AEnv} {μ : List Addr} {H H' : AHeap} {s : Shared} {A : Around} {E : Value → Shared → Prop} {Q : Bool → Shared → Prop} {v : Bool},
    Gnd C T base → env.scope = S → St C base b env Γ ρ μ H s → AOk A n → d ρ H = .ok v H' → (∀ s' μ', Ext env μ μ' s.heap s'.heap → St C base b env Γ ρ μ' H' s' → Q v s') →
    wpAny (model C.prog C.w) A (forIn ifs true fun c r => if r = true then do let ok ← isTrue c env (eval c env); pure (ForInStep.yield ok) else pure (ForInStep.yield r)) Q E s
end

section
variable {C : Cx} {T : Tab} {n b : Nat} {Γ : List Str} {S : Scope} {nm : Bool} {J : Addr → Prop}
variable {base : Heap} {env cenv : Env} {ρ : AEnv} {μ μ' : List Addr} {H H' : AHeap} {s s' : Shared} {A : Around} {E : Value → Shared → Prop}
variable {scope : Scope} {xs : List Str} {M : Model}

theorem CoOk.nil {d : AEnv → AHeap → Res Bool} (hd : ∀ ρ H, d ρ H = .ok true H) : CoOk C T n b Γ S [] d := by
  refine ⟨?_⟩
  intro base env ρ μ H H' s A E Q v G hS st a ed k
  rw [hd] at ed; cases ed
  exact wpAny_tests_nil (k s μ .refl st)
theorem CoOk.one {c : Expr} {d : AEnv → AHeap → Res Bool} (h : TrOk C T n b Γ S c d) : CoOk C T n b Γ S [c] d := by
  refine ⟨?_⟩
  intro base env ρ μ H H' s A E Q v G hS st a ed k
  exact wpAny_tests_one (h.ok G hS st a ed k)

theorem keepD (st : St C base b env Γ ρ μ H s) {D : Addr} {its : Array Value} (hD : D ∉ μ) (p : s.heap.PlainList D its) (X : Ext env μ μ' s.heap s'.heap) : s'.heap.PlainList D its ∧ D ∉ μ' := by
  obtain ⟨k, e⟩ := id p
  refine ⟨⟨k, X.stay e ?_⟩, fun q => ?_⟩
  · rintro (q | q | ⟨y, q⟩)
    · exact hD q
    · obtain ⟨m, nn, _⟩ := st.er.ns; exact PlainList.not_ns p (q ▸ nn)
    · obtain ⟨o, hc⟩ := st.er.cell q; exact PlainList.not_cell p hc
  · rw [X.new q hD] at e; cases e
theorem plain_notOwn (st : St C base b env Γ ρ μ H s) {D : Addr} {its : Array Value} (hD : D ∉ μ) (p : s.heap.PlainList D its) : ¬ Own μ env D := by
  rintro (q | q | ⟨y, q⟩)
  · exact hD q
  · obtain ⟨m, nn, _⟩ := st.er.ns; exact PlainList.not_ns p (q ▸ nn)
  · obtain ⟨o, hc⟩ := st.er.cell q; exact PlainList.not_cell p hc

/-- what a comprehension's loop keeps -/
inductive CI (C : Cx) (J : Addr → Prop) (base : Heap) (b : Nat) (env cenv : Env) (xs Γ : List Str) (ρ : AEnv) (D : Addr) (ws : List (Nat × List AV)) (R : List AV → List Addr → Heap → Prop) (μ2 : List Addr) (h2 : Heap) (step : AV → AHeap → Res (Option AV)) (total : List AV) (Hf : AHeap) (m : Nat) (s1 : Shared) : Prop
  | mk (l : List AV) (vals : AEnv) (done : List AV) (items : List Value) (μ1 : List Addr) (H1 : AHeap) (hl : List.length l = m) (hv : List.length vals = xs.length) (S1 : St C base b cenv (xs ++ Γ) (vals ++ ρ) μ1 H1 s1) (r1 : R l μ1 s1.heap) (hw : ∀ w ∈ ws, H1[w.1]? = some (.list w.2)) (X1 : ExtJ J cenv μ2 μ1 h2 s1.heap) (hD : D ∉ μ1)
    (p1 : s1.heap.PlainList D (List.toArray items)) (q1 : VRs C μ1 s1.heap done items) (r : List AV) (er : compL ws step l H1 = .ok r Hf) (et : done ++ r = total) : CI C J base b env cenv xs Γ ρ D ws R μ2 h2 step total Hf m s1

/-- the end of a comprehension, as the outer frame sees it -/
structure CEnd (C : Cx) (base : Heap) (b : Nat) (env : Env) (Γ : List Str) (ρ : AEnv) (μ : List Addr) (h : Heap) (total : List AV) (Hf : AHeap) (D L : Addr) (s1 : Shared) : Prop where
  ex : ∃ μ1, St C base b env Γ ρ (μ1 ++ [D]) (Hf ++ [.list total]) s1 ∧ Ext env μ (μ1 ++ [D]) h s1.heap ∧ VR C (μ1 ++ [D]) s1.heap (.ref Hf.length) (.ref D) ∧ ¬ Own (μ1 ++ [D]) env L
  ns : ∃ m, s1.heap.Ns L m
  base : base.get? L = none
  new : h.get? L = none

theorem comp_end {it : Value} {ws : List (Nat × List AV)} {R : List AV → List Addr → Heap → Prop} {MM : List AV → Value → List Addr → Heap → Prop} {D : Addr} {total : List AV} {items : List Value} {vals : AEnv} {μ1 μ2 : List Addr} {s1 s2 : Shared} {H2 Hf : AHeap}
    (st : St C base b env Γ ρ μ H s) (X0 : Ext env μ μ2 s.heap s2.heap) (st2 : St (C.plus J) base b env Γ ρ μ2 H2 s2) (N : Nest env cenv xs s2.heap) (hJ0 : ∀ {a : Addr}, J a → s.heap.get? a = none) (hJb : ∀ {a : Addr}, J a → base.get? a = none)
    (W : Walk (C.plus J) base it J ws nm R MM) (hD2 : s2.heap.get? D = none) (hJD : ¬ J D) (hJo : ∀ {a : Addr}, J a → ¬ Own μ2 env a)
    (hv : vals.length = xs.length) (S1 : St (C.plus J) base b cenv (xs ++ Γ) (vals ++ ρ) μ1 Hf s1) (r1 : R [] μ1 s1.heap) (X : ExtJ J cenv μ2 μ1 s2.heap s1.heap) (hD : D ∉ μ1) (p : s1.heap.PlainList D items.toArray) (q : VRs (C.plus J) μ1 s1.heap total items) (hz : total.length ≤ lim)
    {h' : Heap} {tk : Nat} (kk : ∀ {a : Addr} {o : Obj}, ¬ J a → s1.heap.get? a = some o → h'.get? a = some o) :
    CEnd C base b env Γ ρ μ s.heap total Hf D cenv.locals { s1 with heap := h', toks := tk } := by
  obtain ⟨S1', X'⟩ := st2.leave N hv S1 X (fun j => .inr j) hJo
  have X1 := ExtJ.after X0 X' hJ0
  have off : ∀ {a : Addr}, J a → ¬ Own μ1 cenv a := W.off S1 r1
  have offE : ∀ {a : Addr}, J a → ¬ Own μ1 env a := W.off S1' r1
  have S3 := S1'.leaveJ (tk := tk) kk offE hJb (zJ (h := s.heap) st hJ0)
  have X3 : Ext env μ μ1 s.heap h' := X1.but hJ0 kk
  obtain ⟨k, p'⟩ := id p
  have p3 : h'.PlainList D items.toArray := ⟨k, kk hJD p'⟩
  have q3 : VRs C μ1 h' total items := VRs.mapZ (C := C.plus J) (z := C.z) List.prefix_rfl (fun e nz _ => kk (fun j => nz (.inr j)) e) (fun _ nz z => nz (.inl z)) q
  have sD : s.heap.get? D = none := by
    cases e : s.heap.get? D with
    | none => rfl
    | some o => obtain ⟨o', e'⟩ := X0.live e; rw [hD2] at e'; cases e'
  obtain ⟨m, nn, _⟩ := S1.er.ns
  have nn3 : h'.Ns cenv.locals m := nn.at fun o e => kk (fun j => off j (.inr (.inl rfl))) e
  have newL : s.heap.get? cenv.locals = none := by
    cases e : s.heap.get? cenv.locals with
    | none => rfl
    | some o => obtain ⟨o', e'⟩ := X0.live e; rw [N.newL] at e'; cases e'
  refine ⟨⟨μ1, S3.track p3 q3 hD (base_none st2 hD2) hz, X3.trackX sD, .ref (by rw [← S3.hp.len]; simp), ?_⟩, ⟨m, nn3⟩, S1.noloc, newL⟩
  rintro (e | e | ⟨y, e⟩)
  · rcases List.mem_append.mp e with e | e
    · exact S1.lm e
    · simp at e; exact PlainList.not_ns p (e ▸ nn)
  · obtain ⟨m', ⟨o, _, _, ho, _⟩, _⟩ := st2.er.ns
    rw [← e, N.newL] at ho; cases ho
  · obtain ⟨_, o, ho, _⟩ := st2.er.cell e
    rw [N.newL] at ho; cases ho

theorem compL_cons {ws : List (Nat × List AV)} {step : AV → AHeap → Res (Option AV)} {v : AV} {l r : List AV} {Hf : AHeap} (e : compL ws step (v :: l) H = .ok r Hf) :
    ∃ o H1 r', step v H = .ok o H1 ∧ ws.all (fun w => still H1 w.1 w.2) = true ∧ compL ws step l H1 = .ok r' Hf ∧ r = consO o r' := by
  unfold compL at e
  obtain ⟨o, H1, e1, e⟩ := Res.get_ok e
  split at e
  · rename_i hs
    obtain ⟨r', H2, e2, e⟩ := Res.get_ok e
    cases e
    exact ⟨o, H1, r', e1, hs, e2, rfl⟩
  · cases e

/-- a turn that keeps nothing -/
theorem CI.skip {ws : List (Nat × List AV)} {R : List AV → List Addr → Heap → Prop} {D : Addr} {μ2 : List Addr} {h2 : Heap} {step : AV → AHeap → Res (Option AV)} {total done l r : List AV} {Hf H1 : AHeap} {vals : AEnv} {items : List Value} {μ1 : List Addr} {s1 : Shared}
    (hv : vals.length = xs.length) (S1 : St C base b cenv (xs ++ Γ) (vals ++ ρ) μ1 H1 s1) (r1 : R l μ1 s1.heap) (hw : ws.all (fun w => still H1 w.1 w.2) = true) (X : ExtJ J cenv μ2 μ1 h2 s1.heap) (hD : D ∉ μ1) (p : s1.heap.PlainList D items.toArray) (q : VRs C μ1 s1.heap done items)
    (e : compL ws step l H1 = .ok r Hf) (et : done ++ r = total) : CI C J base b env cenv xs Γ ρ D ws R μ2 h2 step total Hf l.length s1 :=
  ⟨l, vals, done, items, μ1, H1, rfl, hv, S1, r1, stills hw, X, hD, p, q, r, e, et⟩

/-- a turn that keeps a value -/
theorem CI.keep {it : Value} {ws : List (Nat × List AV)} {R : List AV → List Addr → Heap → Prop} {MM : List AV → Value → List Addr → Heap → Prop} {D : Addr} {μ2 : List Addr} {h2 : Heap} {step : AV → AHeap → Res (Option AV)} {total done l r : List AV} {Hf H1 : AHeap} {vals : AEnv} {items : List Value} {μ1 : List Addr} {s1 : Shared} {x : AV} {u : Value}
    (W : Walk C base it J ws nm R MM) (hD2 : h2.get? D = none) (hbD : base.get? D = none) (hz : total.length ≤ lim)
    (hv : vals.length = xs.length) (S1 : St C base b cenv (xs ++ Γ) (vals ++ ρ) μ1 H1 s1) (r1 : R l μ1 s1.heap) (hw : ws.all (fun w => still H1 w.1 w.2) = true) (X : ExtJ J cenv μ2 μ1 h2 s1.heap) (hD : D ∉ μ1) (p : s1.heap.PlainList D items.toArray) (q : VRs C μ1 s1.heap done items) (V : VR C μ1 s1.heap x u)
    (e : compL ws step l H1 = .ok r Hf) (et : done ++ (x :: r) = total) : wpAny (model C.prog C.w) A (call (.builtin "list.append") [.ref D, u]) (fun _ s5 => ∃ m, m < (l.length + 1) ∧ CI C J base b env cenv xs Γ ρ D ws R μ2 h2 step total Hf m s5) E s1 := by
  have hsz : items.toArray.size ≤ sizeLine := by
    rw [List.size_toArray, ← q.length]
    refine lim_line (Nat.le_trans ?_ hz)
    rw [← et]; simp
  refine wpAny_list_append_plain p (fun h5 pl hs => ⟨l.length, Nat.lt_succ_self _, ?_⟩) hsz
  rw [push_list] at pl
  have ht : ∀ {ts : Array Value}, ¬ s1.heap.IsTuple D ts := plain_notTuple p
  have hf : ∀ {o : Obj} {vs : Array Value}, s1.heap.get? D = some o → o.data ≠ .fields vs := plain_notFields p
  have st : ∀ {c : Addr} {o : Obj}, c ≠ D → s1.heap.get? c = some o → h5.get? c = some o := fun n e => (hs.2 _ n).trans e
  refine ⟨l, vals, done ++ [x], items ++ [u], μ1, H1, rfl, hv, S1.other (tk := s1.toks) ht hf (plain_notOwn S1 hD p) hbD hs (fun _ => let ⟨k, e⟩ := pl; ⟨_, e⟩), ?_, stills hw, ?_, hD, pl, ?_, r, e, by simpa using et⟩
  · refine W.frame r1 List.prefix_rfl fun {a o} e k => st (fun e' => ?_) e
    subst e'
    rcases k with ⟨its, t⟩ | ⟨vs, d⟩
    · exact ht t
    · exact hf e d
  · have nD : ∀ {a : Addr} {o : Obj}, h2.get? a = some o → a ≠ D := fun e e' => by rw [e', hD2] at e; cases e
    exact ⟨X.pre, fun e n j => st (nD e) (X.stay e n j), X.new, fun e j => let ⟨o, e'⟩ := X.live e j; ⟨o, st (nD e) e'⟩⟩
  · exact (q.other ht hf hs).append (.cons (V.other ht hf hs) .nil)

/-- the turns of a comprehension, whatever its target: each turn takes a thing, stores it and puts the next item on -/
theorem compTurns {prog : Program} {w : World} {A : Around} {elt target iter : Expr} {scope : Scope} {pos : Pos} {it acc : Value} {env : Env} {R : Result → Shared → Prop} (I : Nat → Shared → Prop)
    (step : ∀ m s, I m s → wpAny (model prog w) A (pyNext it) (fun r s1 => match r with
      | none => R (.ok .next) s1
      | some v => wpAny (model prog w) A (letOwnedTupleGo target it v) (fun _ s2 => wpAny (model prog w) A (assign target env v) (fun _ s3 => wpAny (model prog w) A (eval elt env) (fun x s4 =>
          wpAny (model prog w) A (call (.builtin "list.append") [acc, x]) (fun _ s5 => ∃ k, k < m ∧ I k s5) (notedBy (model prog w) A env fun e s' => R (.error e) s') s4)
          (notedBy (model prog w) A env fun e s' => R (.error e) s') s3) (notedBy (model prog w) A env fun e s' => R (.error e) s') s2) (notedBy (model prog w) A env fun e s' => R (.error e) s') s1) (notedBy (model prog w) A env fun e s' => R (.error e) s') s)
    (m : Nat) {s : Shared} (h : I m s) : codeAny (model prog w) A (.compLoop (.ListComp elt [⟨target, iter, [], 0⟩] scope pos) 0 it acc env) R s := by
  apply codeAny_loop rfl I _ m h
  intro m s hI
  change wpAny _ A ((compTurn (.ListComp elt [⟨target, iter, [], 0⟩] scope pos) 0 it acc env).onRaise (fun x => do noteFrame x env; theTreesLotGoes x)) _ _ s
  apply wpAny_noted
  rw [compTurn_list1]
  apply wpAny_bind
  apply wpAny_standAt
  apply wpAny_bind
  refine wpAny_mono (step m s hI) ?_ (fun _ _ q => q)
  rintro (_ | v) s1 h1
  · exact wpAny_pure h1
  · refine wpAny_bind (wpAny_mono h1 ?_ (fun _ _ q => q))
    intro _ s2 h2
    refine wpAny_bind (wpAny_mono h2 ?_ (fun _ _ q => q))
    intro _ s3 h3
    refine wpAny_bind (wpAny_bind (wpAny_mono h3 ?_ (fun _ _ q => q)))
    intro x s4 h4
    refine wpAny_bind (wpAny_mono h4 ?_ (fun _ _ q => q))
    intro _ s5 h5
    exact wpAny_pure (wpAny_pure ⟨rfl, h5⟩)
theorem comp1_go {x : Str} {px pos : Pos} {iter elt : Expr} {ifs : List Expr} {di : AEnv → AHeap → Res (List AV × List (Nat × List AV))} {dc : AEnv → AHeap → Res Bool} {de : AEnv → AHeap → Res AV} {vs : List AV} {Hf : AHeap} {RR : Value → Addr → Result → Shared → Prop}
    (hs : ScOk scope S Γ [x]) (hi : ItOk C T n b Γ S true iter di) (hc : ∀ z, CoOk (C.withZ z) T n b (x :: Γ) (relab scope S) ifs dc) (he : ∀ z, EvOk (C.withZ z) T n b (x :: Γ) (relab scope S) elt de)
    (G : Gnd C T base) (hS : env.scope = S) (st : St C base b env Γ ρ μ H s) (a : AOk A n)
    (ed : ((di ρ H).get fun p H => compL p.2 (fun v H => (dc (some v :: ρ) H).get fun t H => if t then (de (some v :: ρ) H).get fun x H => .ok (some x) H else .ok none H) p.1 H) = .ok vs Hf) (hz : vs.length ≤ lim)
    (k : ∀ D L s', CEnd C base b env Γ ρ μ s.heap vs Hf D L s' → RR (.ref D) L (.ok .next) s') :
    wpAny (model C.prog C.w) A (eval iter env) (fun x' s₁ => wpAny (model C.prog C.w) A (pyIter x') (fun it s₂ => wpAny (model C.prog C.w) A (newList []) (fun acc s₃ =>
      wpAny (model C.prog C.w) A (newFunctionEnv scope env.globals (closL env scope.names []) [] env.qual none .none (some env)) (fun cenv s₄ =>
        codeAny (model C.prog C.w) A (.compStart (.ListComp elt [⟨.Name x px, iter, ifs, 0⟩] scope pos) 0 it acc { cenv with scope := relabel scope env }) (RR acc cenv.locals) s₄) E s₃) E s₂) E s₁) E s := by
  obtain ⟨p, H0, e0, ed⟩ := Res.get_ok ed
  refine hi.ok G hS st a e0 fun it s2 μ2 J R MM X0 hJ0 hJb S2 W r0 hw => ?_
  refine wpAny_newObj_type (newComp fun h4 kk4 nn4 cs4 => ?_)
  dsimp only at nn4 cs4 ⊢
  have hL : s2.heap.objs.size ≤ (s2.heap.push { cls := .type "list", data := .seq ([] : List Value).toArray }).objs.size := by rw [Heap.size_push]; exact Nat.le_succ _
  have kk24 : ∀ {a : Addr} {o : Obj}, s2.heap.get? a = some o → h4.get? a = some o := fun e => kk4 (Heap.get?_push_of_some _ e)
  subst hS
  obtain ⟨S4, N4⟩ := S2.enter hs (h' := h4) hL kk24 nn4 cs4
  have pl4 : h4.PlainList s2.heap.objs.size ([] : List Value).toArray := ⟨_, kk4 (Heap.get?_push_size _ rfl)⟩
  generalize hD : s2.heap.objs.size = D at *
  have hD2 : s2.heap.get? D = none := by rw [← hD]; exact none_size _
  have hJD : ¬ J D := fun j => by obtain ⟨o, e⟩ := W.live r0 j; rw [hD2] at e; cases e
  have hbD : base.get? D = none := base_none S2 hD2
  have hDm : D ∉ μ2 := not_mem S2 hD2
  generalize hLL : (s2.heap.push { cls := .type "list", data := .seq ([] : List Value).toArray }).objs.size = L at *
  show codeAny _ A (.compStart (.ListComp elt [⟨.Name x px, iter, ifs, 0⟩] scope pos) 0 it (.ref D) (compE scope L env)) (RR (.ref D) L) { s2 with heap := h4 }
  generalize hce : compE scope L env = cenv at *
  have hcs : cenv.scope = relab scope env.scope := by rw [← hce]; rfl
  have hcl : cenv.locals = L := by rw [← hce]; rfl
  have hx0 : slot ([x] ++ Γ) x = some 0 := by
    rw [slot_app]; unfold slot; simp
  have hkx : cenv.kindOf x = some .local ∨ cenv.kindOf x = some .cell := by
    have := hs.tgt x (List.mem_singleton.mpr rfl)
    unfold isStoreK kindIn at this
    rw [← hce]
    have e : (compE scope L env).kindOf x = (relab scope env.scope).names.lookup x := rfl
    rw [e, lookup_relab]
    simp only [Bool.or_eq_true, beq_iff_eq] at this
    rcases this with q | q <;> rw [q] <;> simp
  have r4 : R p.1 μ2 h4 := W.frame r0 List.prefix_rfl fun e _ => kk24 e
  have loop : ∀ s₃ : Shared, s₃ = { s2 with heap := h4 } → codeAny (model C.prog C.w) A (.compLoop (.ListComp elt [⟨.Name x px, iter, ifs, 0⟩] scope pos) 0 it (.ref D) cenv) (RR (.ref D) L) s₃ := by
    rintro s₃ rfl
    refine codeAny_compLoop_tests (CI (C.plus J) J base b env cenv [x] Γ ρ D p.2 R μ2 s2.heap (fun v H => (dc (some v :: ρ) H).get fun t H => if t then (de (some v :: ρ) H).get fun x H => .ok (some x) H else .ok none H) vs Hf) ?_ p.1.length
      ⟨p.1, _, [], [], μ2, H0, rfl, by simp, S4, r4, hw, ExtJ.grow kk24, hDm, pl4, .nil, vs, ed, rfl⟩
    rintro m s1 ⟨l, vals, done, items, μ1, H1, rfl, hv, S1, r1, hw1, X1, hD1, p1, q1, r, er, et⟩
    cases l with
    | nil =>
      have er' : r = [] ∧ Hf = H1 := by unfold compL at er; cases er; exact ⟨rfl, rfl⟩
      obtain ⟨rfl, rfl⟩ := er'
      simp only [List.append_nil] at et
      subst et
      refine W.done S1 a (fun j => .inr j) hw1 r1 fun h' tk kk => ?_
      have := comp_end st X0 S2 N4 hJ0 hJb W hD2 hJD (W.off S2 r0) hv S1 r1 X1 hD1 p1 q1 hz (tk := tk) kk
      rw [hcl] at this
      exact k D L _ this
    | cons v l =>
      obtain ⟨o, H2, r', es, hst, er2, rfl⟩ := compL_cons er
      refine W.item S1 a (fun j => .inr j) hw1 r1 fun u h' tk kk V m => ?_
      have S5 := S1.stepJ (tk := tk) kk (W.off S1 r1) hJb (W.liveM m)
      have k5 := W.plain rfl m
      obtain ⟨i0, p1'⟩ := id p1
      have p5 : h'.PlainList D items.toArray := ⟨i0, kk hJD p1'⟩
      have q5 : VRs (C.plus J) μ1 h' done items := VRs.butJ (C := C.plus J) (J := J) (fun j => .inr j) kk q1
      have X5 : ExtJ J cenv μ2 μ1 s2.heap h' := X1.step kk
      refine wpAny_assign_Name (S5.bind hx0 hkx V fun s6 S6 X6 => ?_)
      obtain ⟨o0, rfl⟩ : ∃ o, vals = [o] := by
        match vals, hv with
        | [o], _ => exact ⟨o, rfl⟩
      have S6' : St (C.plus J) base b cenv (x :: Γ) (some v :: ρ) μ1 H1 s6 := S6
      obtain ⟨t, H3, e3, es⟩ := Res.get_ok es
      refine (hc _).ok (C := C.plus J) G.toZ hcs S6' a e3 fun s7 μ7 X7 S7 => ?_
      obtain ⟨p6, d6⟩ := keepD S5 hD1 p5 X6
      obtain ⟨p7, d7⟩ := keepD S6 d6 p6 X7
      have q7 := (q5.mono S5.hp S5.er X6).mono S6.hp S6.er X7
      have r7 := W.frameX S6 (W.frameX S5 k5 X6) X7
      have off7 : ∀ {a : Addr}, J a → ¬ Own μ7 cenv a := W.off S7 r7
      have X67 : ExtJ J cenv μ2 μ7 s2.heap s7.heap := X5.trans (fun j q => off7 j (.inl q)) (X6.trans X7)
      cases t with
      | false =>
        simp only [Bool.false_eq_true, if_false] at es ⊢
        cases es
        exact ⟨l.length, by simp, CI.skip (vals := [some v]) rfl S7 r7 hst X67 d7 p7 q7 er2 et⟩
      | true =>
        simp only [if_true] at es ⊢
        obtain ⟨y, H4, e4, es⟩ := Res.get_ok es
        cases es
        refine (he _).ok (C := C.plus J) G.toZ hcs S7 a e4 fun u8 s8 μ8 X8 S8 V8 => ?_
        obtain ⟨p8, d8⟩ := keepD S7 d7 p7 X8
        have r8 := W.frameX S7 r7 X8
        have off8 : ∀ {a : Addr}, J a → ¬ Own μ8 cenv a := W.off S8 r8
        exact CI.keep (C := C.plus J) W hD2 hbD hz (vals := [some v]) rfl S8 r8 hst (X67.trans (fun j q => off8 j (.inl q)) X8) d8 p8 (q7.mono S7.hp S7.er X8) V8 er2 et
  refine codeAny_compStart_list (loop _ rfl) (W.self (s := { s2 with heap := h4 }) r4 (loop _ rfl))
theorem comp2_go {x y : Str} {px py tp pos : Pos} {x1 : Nat} {iter elt : Expr} {di : AEnv → AHeap → Res (List AV × List (Nat × List AV))} {de : AEnv → AHeap → Res AV} {vs : List AV} {Hf : AHeap} {RR : Value → Addr → Result → Shared → Prop}
    (hs : ScOk scope S Γ [x, y]) (hxy : (x == y) = false) (hi : ItOk C T n b Γ S nm iter di) (he : ∀ z, EvOk (C.withZ z) T n b (x :: y :: Γ) (relab scope S) elt de)
    (G : Gnd C T base) (hS : env.scope = S) (st : St C base b env Γ ρ μ H s) (a : AOk A n)
    (ed : ((di ρ H).get fun p H => compL p.2 (fun v H => pairR (fun x y => (de (some x :: some y :: ρ) H).get fun x H => .ok (some x) H) v) p.1 H) = .ok vs Hf) (hz : vs.length ≤ lim)
    (k : ∀ D L s', CEnd C base b env Γ ρ μ s.heap vs Hf D L s' → RR (.ref D) L (.ok .next) s') :
    wpAny (model C.prog C.w) A (eval iter env) (fun x' s₁ => wpAny (model C.prog C.w) A (pyIter x') (fun it s₂ => wpAny (model C.prog C.w) A (newList []) (fun acc s₃ =>
      wpAny (model C.prog C.w) A (newFunctionEnv scope env.globals (closL env scope.names []) [] env.qual none .none (some env)) (fun cenv s₄ =>
        codeAny (model C.prog C.w) A (.compStart (.ListComp elt [⟨.Tuple [.Name x px, .Name y py] x1 tp, iter, [], 0⟩] scope pos) 0 it acc { cenv with scope := relabel scope env }) (RR acc cenv.locals) s₄) E s₃) E s₂) E s₁) E s := by
  obtain ⟨p, H0, e0, ed⟩ := Res.get_ok ed
  refine hi.ok G hS st a e0 fun it s2 μ2 J R MM X0 hJ0 hJb S2 W r0 hw => ?_
  refine wpAny_newObj_type (newComp fun h4 kk4 nn4 cs4 => ?_)
  dsimp only at nn4 cs4 ⊢
  have hL : s2.heap.objs.size ≤ (s2.heap.push { cls := .type "list", data := .seq ([] : List Value).toArray }).objs.size := by rw [Heap.size_push]; exact Nat.le_succ _
  have kk24 : ∀ {a : Addr} {o : Obj}, s2.heap.get? a = some o → h4.get? a = some o := fun e => kk4 (Heap.get?_push_of_some _ e)
  subst hS
  obtain ⟨S4, N4⟩ := S2.enter hs (h' := h4) hL kk24 nn4 cs4
  have pl4 : h4.PlainList s2.heap.objs.size ([] : List Value).toArray := ⟨_, kk4 (Heap.get?_push_size _ rfl)⟩
  generalize hD : s2.heap.objs.size = D at *
  have hD2 : s2.heap.get? D = none := by rw [← hD]; exact none_size _
  have hJD : ¬ J D := fun j => by obtain ⟨o, e⟩ := W.live r0 j; rw [hD2] at e; cases e
  have hbD : base.get? D = none := base_none S2 hD2
  have hDm : D ∉ μ2 := not_mem S2 hD2
  generalize hLL : (s2.heap.push { cls := .type "list", data := .seq ([] : List Value).toArray }).objs.size = L at *
  show codeAny _ A (.compStart (.ListComp elt [⟨.Tuple [.Name x px, .Name y py] x1 tp, iter, [], 0⟩] scope pos) 0 it (.ref D) (compE scope L env)) (RR (.ref D) L) { s2 with heap := h4 }
  generalize hce : compE scope L env = cenv at *
  have hcs : cenv.scope = relab scope env.scope := by rw [← hce]; rfl
  have hcl : cenv.locals = L := by rw [← hce]; rfl
  have hx0 : slot ([x, y] ++ Γ) x = some 0 := by
    rw [slot_app]; unfold slot; simp [List.findIdx?_cons]
  have hy0 : slot ([x, y] ++ Γ) y = some 1 := by
    rw [slot_app]; unfold slot; simp [List.findIdx?_cons, hxy]
  have hkk : ∀ z ∈ [x, y], isStoreK (relab scope env.scope) z = true := fun z hz => by
    have := hs.tgt z hz
    unfold isStoreK kindIn at this ⊢
    rw [lookup_relab]
    simp only [Bool.or_eq_true, beq_iff_eq] at this
    rcases this with q | q <;> rw [q] <;> simp
  have r4 : R p.1 μ2 h4 := W.frame r0 List.prefix_rfl fun e _ => kk24 e
  have loop : ∀ s₃ : Shared, s₃ = { s2 with heap := h4 } → codeAny (model C.prog C.w) A (.compLoop (.ListComp elt [⟨.Tuple [.Name x px, .Name y py] x1 tp, iter, [], 0⟩] scope pos) 0 it (.ref D) cenv) (RR (.ref D) L) s₃ := by
    rintro s₃ rfl
    refine compTurns (CI (C.plus J) J base b env cenv [x, y] Γ ρ D p.2 R μ2 s2.heap (fun v H => pairR (fun x y => (de (some x :: some y :: ρ) H).get fun x H => .ok (some x) H) v) vs Hf) ?_ p.1.length
      ⟨p.1, _, [], [], μ2, H0, rfl, by simp, S4, r4, hw, ExtJ.grow kk24, hDm, pl4, .nil, vs, ed, rfl⟩
    rintro m s1 ⟨l, vals, done, items, μ1, H1, rfl, hv, S1, r1, hw1, X1, hD1, p1, q1, r, er, et⟩
    cases l with
    | nil =>
      have er' : r = [] ∧ Hf = H1 := by unfold compL at er; cases er; exact ⟨rfl, rfl⟩
      obtain ⟨rfl, rfl⟩ := er'
      simp only [List.append_nil] at et
      subst et
      refine W.done S1 a (fun j => .inr j) hw1 r1 fun h' tk kk => ?_
      have := comp_end st X0 S2 N4 hJ0 hJb W hD2 hJD (W.off S2 r0) hv S1 r1 X1 hD1 p1 q1 hz (tk := tk) kk
      rw [hcl] at this
      exact k D L _ this
    | cons v l =>
      obtain ⟨o, H2, r', es, hst, er2, rfl⟩ := compL_cons er
      obtain ⟨v1, v2, rfl⟩ : ∃ v1 v2, v = .tup [v1, v2] := by
        unfold pairR at es
        split at es
        · exact ⟨_, _, rfl⟩
        · cases es
      refine W.item S1 a (fun j => .inr j) hw1 r1 fun u h' tk kk V m => ?_
      obtain ⟨t, p1', p2', rfl, ht, V1, V2⟩ := pairOf V
      refine W.own (s := { s1 with heap := h', toks := tk }) m fun h'' kk' r2 => ?_
      have kk2 : ∀ {a : Addr} {o : Obj}, ¬ J a → s1.heap.get? a = some o → h''.get? a = some o := fun nj e => kk' nj (kk nj e)
      have S5 := S1.stepJ (tk := tk) kk2 (W.off S1 r1) hJb (W.live r2)
      obtain ⟨i0, p1''⟩ := id p1
      have p5 : h''.PlainList D items.toArray := ⟨i0, kk2 hJD p1''⟩
      have q5 : VRs (C.plus J) μ1 h'' done items := VRs.butJ (C := C.plus J) (J := J) (fun j => .inr j) kk2 q1
      have X5 : ExtJ J cenv μ2 μ1 s2.heap h'' := X1.step kk2
      have V' : VR (C.plus J) μ1 h'' (.tup [v1, v2]) (.ref t) := VR.butJ (C := C.plus J) (J := J) (fun j => .inr j) kk' V
      obtain ⟨t', q1', q2', et', ht', W1, W2⟩ := pairOf V'
      cases et'
      refine assign2_ok (M := model C.prog C.w) (C := C.plus J) (S := relab scope env.scope) hcs a S5 hx0 (hkk x (by simp)) hy0 (hkk y (by simp)) ht' W1 W2 fun s6 S6 X6 => ?_
      obtain ⟨o0, o1, rfl⟩ : ∃ o o', vals = [o, o'] := by
        match vals, hv with
        | [o, o'], _ => exact ⟨o, o', rfl⟩
      have S6' : St (C.plus J) base b cenv (x :: y :: Γ) (some v1 :: some v2 :: ρ) μ1 H1 s6 := S6
      obtain ⟨p6, d6⟩ := keepD S5 hD1 p5 X6
      have q6 := q5.mono S5.hp S5.er X6
      have r6 := W.frameX S5 r2 X6
      have off6 : ∀ {a : Addr}, J a → ¬ Own μ1 cenv a := W.off S6 r6
      have X66 : ExtJ J cenv μ2 μ1 s2.heap s6.heap := X5.trans (fun j q => off6 j (.inl q)) X6
      simp only [pairR] at es
      obtain ⟨y', H4, e4, es⟩ := Res.get_ok es
      cases es
      refine (he _).ok (C := C.plus J) G.toZ hcs S6' a e4 fun u8 s8 μ8 X8 S8 V8 => ?_
      obtain ⟨p8, d8⟩ := keepD S6' d6 p6 X8
      have r8 := W.frameX S6' r6 X8
      have off8 : ∀ {a : Addr}, J a → ¬ Own μ8 cenv a := W.off S8 r8
      exact CI.keep (C := C.plus J) W hD2 hbD hz (vals := [some v1, some v2]) rfl S8 r8 hst (X66.trans (fun j q => off8 j (.inl q)) X8) d8 p8 (q6.mono S6'.hp S6'.er X8) V8 er2 et
  refine codeAny_compStart_list (loop _ rfl) (W.self (s := { s2 with heap := h4 }) r4 (loop _ rfl))

theorem alloc_ok {xs : List AV} {v : AV} (e : alloc xs H = .ok v H') : xs.length ≤ lim ∧ v = .ref H.length ∧ H' = H ++ [.list xs] := by
  unfold alloc at e
  split at e
  · rename_i h; cases e; exact ⟨h, rfl, rfl⟩
  · cases e

/-- the list as a value -/
theorem CEnd.value {vs : List AV} {Hf : AHeap} {Q : Value → Shared → Prop} {D L : Addr} {s1 : Shared} (h : CEnd C base b env Γ ρ μ s.heap vs Hf D L s1) (st : St C base b env Γ ρ μ H s) (k : After C base b env Γ ρ μ s (.ref Hf.length) (Hf ++ [.list vs]) Q) :
    compPost (model C.prog C.w) A E none Q (.ref D) L (.ok .next) s1 := by
  obtain ⟨⟨μ1, S1, X1, V1, hO⟩, ⟨m, nn⟩, hb, hnew⟩ := h
  refine ⟨m, nn, fun h' hs => ?_⟩
  have ht : ∀ {ts : Array Value}, ¬ s1.heap.IsTuple L ts := ns_notTuple nn
  have hf : ∀ {o : Obj} {vs : Array Value}, s1.heap.get? L = some o → o.data ≠ .fields vs := ns_notFields nn
  refine k _ _ (μ1 ++ [D]) (X1.but (J := (· = L)) (fun j => by subst j; exact hnew) fun n e => (hs.2 _ n).trans e) (S1.other (tk := s1.toks) ht hf hO hb hs fun z => ?_) (V1.other ht hf hs)
  obtain ⟨o, e⟩ := st.zl z; rw [hnew] at e; cases e
/-- the list as a name's -/
theorem CEnd.use {vs : List AV} {Hf : AHeap} {Q : Value → Shared → Prop} {D L : Addr} {s1 : Shared} {y : Str} {i : Nat} {py : Pos} (hy : slot Γ y = some i) (hk : env.kindOf y = some .local ∨ env.kindOf y = some .cell) (h : CEnd C base b env Γ ρ μ s.heap vs Hf D L s1) (st : St C base b env Γ ρ μ H s)
    (k : ∀ s' μ', Ext env μ μ' s.heap s'.heap → St C base b env Γ (ρ.set i (some (.ref Hf.length))) μ' (Hf ++ [.list vs]) s' → Q .none s') :
    compPost (model C.prog C.w) A E (some (assign (.Name y py) env)) Q (.ref D) L (.ok .next) s1 := by
  obtain ⟨⟨μ1, S1, X1, V1, hO⟩, ⟨m, nn⟩, hb, hnew⟩ := h
  refine wpAny_assign_Name (S1.bind hy hk V1 fun s2 S2 X2 => ?_)
  have nn2 : s2.heap.Ns L m := nn.at fun o e => X2.stay e hO
  refine ⟨m, nn2, fun h' hs => ?_⟩
  have ht : ∀ {ts : Array Value}, ¬ s2.heap.IsTuple L ts := ns_notTuple nn2
  have hf : ∀ {o : Obj} {vs : Array Value}, s2.heap.get? L = some o → o.data ≠ .fields vs := ns_notFields nn2
  refine k _ (μ1 ++ [D]) ((X1.trans X2).but (J := (· = L)) (fun j => by subst j; exact hnew) fun n e => (hs.2 _ n).trans e) (S2.other (tk := s2.toks) ht hf hO hb hs fun z => ?_)
  obtain ⟨o, e⟩ := st.zl z; rw [hnew] at e; cases e

theorem closed (hs : ScOk scope env.scope Γ xs) (st : St C base b env Γ ρ μ H s) : closureFor scope env = pure (closL env scope.names []) :=
  closureFor_eq fun p hp e => by
    obtain ⟨c, o, ec, _⟩ := st.er.cells (hs.free p hp e).2
    exact ⟨c, ec⟩

theorem EvOk.comp1 {x : Str} {px pos : Pos} {iter elt : Expr} {ifs : List Expr} {d : AEnv → AHeap → Res AV} {di : AEnv → AHeap → Res (List AV × List (Nat × List AV))} {dc : AEnv → AHeap → Res Bool} {de : AEnv → AHeap → Res AV}
    (hs : ScOk scope S Γ [x]) (hset : notSet iter = true) (hi : ItOk C T n b Γ S true iter di) (hc : ∀ z, CoOk (C.withZ z) T n b (x :: Γ) (relab scope S) ifs dc) (he : ∀ z, EvOk (C.withZ z) T n b (x :: Γ) (relab scope S) elt de)
    (hd : ∀ ρ H, d ρ H = (di ρ H).get fun p H => (compL p.2 (fun v H => (dc (some v :: ρ) H).get fun t H => if t then (de (some v :: ρ) H).get fun x H => .ok (some x) H else .ok none H) p.1 H).get fun vs H => alloc vs H) :
    EvOk C T n b Γ S (.ListComp elt [⟨.Name x px, iter, ifs, 0⟩] scope pos) d := by
  refine ⟨?_⟩
  intro base env ρ μ H H' s A E Q v' G hS st a ed k
  rw [hd] at ed
  obtain ⟨p, H1, e1, ed⟩ := Res.get_ok ed
  obtain ⟨vs, H2, e2, ed⟩ := Res.get_ok ed
  obtain ⟨hz, rfl, rfl⟩ := alloc_ok ed
  rw [eval_ListComp]
  subst hS
  refine wpAny_comprehension_free (use := none) rfl (notSet_folded hset) (closed hs st) hs.kind hs.loc ?_
  refine comp1_go (RR := compPost (model C.prog C.w) A E none Q) hs hi hc he G rfl st a (vs := vs) (Hf := H2) (by rw [e1]; exact e2) hz fun D L s' h => h.value st k
theorem EvOk.comp2 {x y : Str} {px py tp pos : Pos} {x1 : Nat} {iter elt : Expr} {d : AEnv → AHeap → Res AV} {di : AEnv → AHeap → Res (List AV × List (Nat × List AV))} {de : AEnv → AHeap → Res AV}
    (hs : ScOk scope S Γ [x, y]) (hxy : (x == y) = false) (hset : notSet iter = true) (hi : ItOk C T n b Γ S nm iter di) (he : ∀ z, EvOk (C.withZ z) T n b (x :: y :: Γ) (relab scope S) elt de)
    (hd : ∀ ρ H, d ρ H = (di ρ H).get fun p H => (compL p.2 (fun v H => pairR (fun x y => (de (some x :: some y :: ρ) H).get fun x H => .ok (some x) H) v) p.1 H).get fun vs H => alloc vs H) :
    EvOk C T n b Γ S (.ListComp elt [⟨.Tuple [.Name x px, .Name y py] x1 tp, iter, [], 0⟩] scope pos) d := by
  refine ⟨?_⟩
  intro base env ρ μ H H' s A E Q v' G hS st a ed k
  rw [hd] at ed
  obtain ⟨p, H1, e1, ed⟩ := Res.get_ok ed
  obtain ⟨vs, H2, e2, ed⟩ := Res.get_ok ed
  obtain ⟨hz, rfl, rfl⟩ := alloc_ok ed
  rw [eval_ListComp]
  subst hS
  refine wpAny_comprehension_free (use := none) rfl (notSet_folded hset) (closed hs st) hs.kind hs.loc ?_
  refine comp2_go (RR := compPost (model C.prog C.w) A E none Q) hs hxy hi he G rfl st a (vs := vs) (Hf := H2) (by rw [e1]; exact e2) hz fun D L s' h => h.value st k

theorem swaps_cases {elt : Expr} {gens : List Comprehension} {scope : Scope} {pos py : Pos} {y : Str} {l : Nat} : swapsWith (.ListComp elt gens scope pos) (some (.Name y py)) l env = pure true ∨ swapsWith (.ListComp elt gens scope pos) (some (.Name y py)) l env = pure false := by
  unfold swapsWith
  simp only
  generalize hb : (env.blockKind == .function && env.kindOf y == some .local && py.line == (Expr.ListComp elt gens scope pos).pos.line && !(scope.names.any fun (n, k) => n == y && (k == .local || k == .cell))) = t
  cases t
  · exact .inr rfl
  · exact .inl rfl

theorem SOk.assignC1 {y : Str} {i : Nat} {py spos : Pos} {x : Str} {px pos : Pos} {iter elt : Expr} {ifs : List Expr} {d : AEnv → AHeap → SR} {d1 : AEnv → AHeap → Res AV} {di : AEnv → AHeap → Res (List AV × List (Nat × List AV))} {dc : AEnv → AHeap → Res Bool} {de : AEnv → AHeap → Res AV}
    (hy : slot Γ y = some i) (hk : isStoreK S y = true)
    (hs : ScOk scope S Γ [x]) (hset : notSet iter = true) (hi : ItOk C T n b Γ S true iter di) (hc : ∀ z, CoOk (C.withZ z) T n b (x :: Γ) (relab scope S) ifs dc) (he : ∀ z, EvOk (C.withZ z) T n b (x :: Γ) (relab scope S) elt de)
    (hd1 : ∀ ρ H, d1 ρ H = (di ρ H).get fun p H => (compL p.2 (fun v H => (dc (some v :: ρ) H).get fun t H => if t then (de (some v :: ρ) H).get fun x H => .ok (some x) H else .ok none H) p.1 H).get fun vs H => alloc vs H)
    (hd : ∀ ρ H, d ρ H = (match d1 ρ H with | .ok v H => .next (ρ.set i (some v)) H | _ => .bad)) :
    SOk C T n b Γ S (.Assign [.Name y py] (.ListComp elt [⟨.Name x px, iter, ifs, 0⟩] scope pos) spos) d := by
  refine ⟨?_⟩
  intro base env ρ μ H s A E Q G hS st a k
  rw [hd] at k
  cases ed : d1 ρ H with
  | ok v H1 =>
    rw [ed] at k
    rcases swaps_cases (env := env) (elt := elt) (gens := [⟨.Name x px, iter, ifs, 0⟩]) (scope := scope) (pos := pos) (py := py) (y := y) (l := spos.line) with hsw | hsw
    · rw [exec_Assign_Name_used _ _ _ _ hsw]
      refine wpAny_bind (wpAny_standAt (wpAny_bind ?_))
      show wpAny _ A (do let _ ← comprehension (.ListComp elt [⟨.Name x px, iter, ifs, 0⟩] scope pos) scope env _ (newList []) false (eval iter env) (some (assign (.Name y py) env))) _ _ s
      rw [hd1] at ed
      obtain ⟨p, H2, e1, ed⟩ := Res.get_ok ed
      obtain ⟨vs, H3, e2, ed⟩ := Res.get_ok ed
      obtain ⟨hz, rfl, rfl⟩ := alloc_ok ed
      subst hS
      refine wpAny_bind (wpAny_mono (wpAny_comprehension_free (use := some (assign (.Name y py) env)) (Q := fun _ s' => Q .next s') rfl (notSet_folded hset) (closed hs st) hs.kind hs.loc ?_) (fun _ s' hq => wpAny_pure (wpAny_pure hq)) fun _ _ e => e)
      exact comp1_go (RR := compPost (model C.prog C.w) A E (some (assign (.Name y py) env)) fun _ s' => Q .next s') hs hi hc he G rfl st a (vs := vs) (Hf := H3) (by rw [e1]; exact e2) hz fun D L s' h => h.use hy (storeK rfl hk) st fun s'' μ'' X S' => k s'' μ'' X S'
    · refine wpAny_Assign_Name ((EvOk.comp1 hs hset hi hc he hd1).ok G hS st a ed fun u s' μ' X S' V => ?_) hsw
      exact S'.bind hy (storeK hS hk) V fun s'' S'' X' => k s'' μ' (X.trans X') S''
  | exc c H1 => rw [ed] at k; exact k.elim
  | bad => rw [ed] at k; exact k.elim
theorem SOk.assignC2 {y0 : Str} {i : Nat} {py0 spos : Pos} {x y : Str} {px py tp pos : Pos} {x1 : Nat} {iter elt : Expr} {d : AEnv → AHeap → SR} {d1 : AEnv → AHeap → Res AV} {di : AEnv → AHeap → Res (List AV × List (Nat × List AV))} {de : AEnv → AHeap → Res AV}
    (hy : slot Γ y0 = some i) (hk : isStoreK S y0 = true)
    (hs : ScOk scope S Γ [x, y]) (hxy : (x == y) = false) (hset : notSet iter = true) (hi : ItOk C T n b Γ S nm iter di) (he : ∀ z, EvOk (C.withZ z) T n b (x :: y :: Γ) (relab scope S) elt de)
    (hd1 : ∀ ρ H, d1 ρ H = (di ρ H).get fun p H => (compL p.2 (fun v H => pairR (fun x y => (de (some x :: some y :: ρ) H).get fun x H => .ok (some x) H) v) p.1 H).get fun vs H => alloc vs H)
    (hd : ∀ ρ H, d ρ H = (match d1 ρ H with | .ok v H => .next (ρ.set i (some v)) H | _ => .bad)) :
    SOk C T n b Γ S (.Assign [.Name y0 py0] (.ListComp elt [⟨.Tuple [.Name x px, .Name y py] x1 tp, iter, [], 0⟩] scope pos) spos) d := by
  refine ⟨?_⟩
  intro base env ρ μ H s A E Q G hS st a k
  rw [hd] at k
  cases ed : d1 ρ H with
  | ok v H1 =>
    rw [ed] at k
    rcases swaps_cases (env := env) (elt := elt) (gens := [⟨.Tuple [.Name x px, .Name y py] x1 tp, iter, [], 0⟩]) (scope := scope) (pos := pos) (py := py0) (y := y0) (l := spos.line) with hsw | hsw
    · rw [exec_Assign_Name_used _ _ _ _ hsw]
      refine wpAny_bind (wpAny_standAt (wpAny_bind ?_))
      show wpAny _ A (do let _ ← comprehension (.ListComp elt [⟨.Tuple [.Name x px, .Name y py] x1 tp, iter, [], 0⟩] scope pos) scope env _ (newList []) false (eval iter env) (some (assign (.Name y0 py0) env))) _ _ s
      rw [hd1] at ed
      obtain ⟨p, H2, e1, ed⟩ := Res.get_ok ed
      obtain ⟨vs, H3, e2, ed⟩ := Res.get_ok ed
      obtain ⟨hz, rfl, rfl⟩ := alloc_ok ed
      subst hS
      refine wpAny_bind (wpAny_mono (wpAny_comprehension_free (use := some (assign (.Name y0 py0) env)) (Q := fun _ s' => Q .next s') rfl (notSet_folded hset) (closed hs st) hs.kind hs.loc ?_) (fun _ s' hq => wpAny_pure (wpAny_pure hq)) fun _ _ e => e)
      exact comp2_go (RR := compPost (model C.prog C.w) A E (some (assign (.Name y0 py0) env)) fun _ s' => Q .next s') hs hxy hi he G rfl st a (vs := vs) (Hf := H3) (by rw [e1]; exact e2) hz fun D L s' h => h.use hy (storeK rfl hk) st fun s'' μ'' X S' => k s'' μ'' X S'
    · refine wpAny_Assign_Name ((EvOk.comp2 hs hxy hset hi he hd1).ok G hS st a ed fun u s' μ' X S' V => ?_) hsw
      exact S'.bind hy (storeK hS hk) V fun s'' S'' X' => k s'' μ' (X.trans X') S''
  | exc c H1 => rw [ed] at k; exact k.elim
  | bad => rw [ed] at k; exact k.elim
end
end Mine

namespace Mine
open PySem PySem.Calls PyProof.Rows

theorem zip_lookup_some : ∀ {names : List Str} {us : List Value}, names.length = us.length → ∀ {n : Str}, n ∈ names → ((names.zip us).lookup n).isSome = true
  | [], _, _, _, h => by cases h
  | x :: r, [], e, _, _ => by cases e
  | x :: r, u :: us, e, n, h => by
    simp only [List.zip_cons_cons, List.lookup_cons]
    cases q : n == x with
    | true => rfl
    | false =>
      rcases List.mem_cons.mp h with h | h
      · subst h; simp at q
      · exact zip_lookup_some (by simpa using e) h
theorem zip_filterMap_aux {f : List (Str × Value)} : ∀ {names : List Str} {us : List Value}, names.length = us.length → (∀ n v, (n, v) ∈ names.zip us → f.lookup n = some v) → names.filterMap (fun n => (f.lookup n).map (n, ·)) = names.zip us
  | [], _, _, _ => rfl
  | x :: r, [], e, _ => by cases e
  | x :: r, u :: us, e, h => by
    have h1 := h x u (by simp)
    rw [List.filterMap_cons, h1]
    simp only [Option.map_some, List.zip_cons_cons]
    rw [zip_filterMap_aux (by simpa using e) fun n v q => h n v (by simp [q])]
theorem zip_lookup_mem : ∀ {names : List Str} {us : List Value}, names.length = us.length → names.Nodup → ∀ {n : Str} {v : Value}, (n, v) ∈ names.zip us → (names.zip us).lookup n = some v
  | [], _, _, _, _, _, h => by simp at h
  | x :: r, [], e, _, _, _, _ => by cases e
  | x :: r, u :: us, e, nd, n, v, h => by
    simp only [List.zip_cons_cons, List.lookup_cons, List.mem_cons] at h ⊢
    rcases h with h | h
    · cases h; simp
    · have hn : n ∈ r := (List.of_mem_zip h).1
      have : n ≠ x := fun q => (List.nodup_cons.mp nd).1 (q ▸ hn)
      rw [show (n == x) = false by simpa using this]
      exact zip_lookup_mem (by simpa using e) (List.nodup_cons.mp nd).2 h
theorem zip_filterMap {names : List Str} {us : List Value} (e : names.length = us.length) (nd : names.Nodup) : names.filterMap (fun n => ((names.zip us).lookup n).map (n, ·)) = names.zip us :=
  zip_filterMap_aux e fun n v h => zip_lookup_mem e nd h

theorem seqItems_none : seqItems? Value.none = pure none := rfl
theorem bindArgs_plain {fd : FuncData} {us : List Value} (h1 : fd.params.posonlyargs = []) (h2 : fd.params.vararg = none) (h3 : fd.params.kwonlyargs = []) (h4 : fd.params.kwarg = none) (h5 : fd.defaults = .none)
    (hl : fd.params.args.length = us.length) (hn : (fd.params.args.map (·.arg)).Nodup) : bindArgs fd ⟨us, []⟩ = pure ((fd.params.args.map (·.arg)).zip us) := by
  have hl' : (fd.params.args.map (·.arg)).length = us.length := by simpa using hl
  have hm : ∀ k, ((fd.params.args.map (·.arg)).take k).filter (fun n => (((fd.params.args.map (·.arg)).zip us).lookup n).isNone) = [] := fun k => by
    rw [List.filter_eq_nil_iff]
    intro n hn' e
    have := zip_lookup_some hl' (List.mem_of_mem_take hn')
    rw [Option.isNone_iff_eq_none] at e
    rw [e] at this; cases this
  unfold bindArgs
  simp only [h1, h2, h3, h4, h5, List.map_nil, List.nil_append, List.append_nil, seqItems_none, pure_bind, List.forIn_nil, hl', Nat.lt_irrefl, gt_iff_lt, decide_false, Bool.false_and, Bool.false_eq_true, if_false, Option.getD_none,
    List.drop_nil, List.length_nil, Nat.sub_zero, hm, List.isEmpty_nil, Bool.not_true, List.zip_nil_right, zip_filterMap hl' hn]

theorem bindL_notin {kf : Str → Option NameKind} {x : Str} : ∀ {binds : List (Str × Value)} {m : Str → Option Value}, x ∉ binds.map (·.1) → bindL kf binds m x = m x
  | [], m, _ => rfl
  | (n, v) :: r, m, h => by
    simp only [List.map_cons, List.mem_cons, not_or] at h
    unfold bindL
    rw [bindL_notin h.2]
    split
    · exact if_neg h.1
    · rfl
theorem bindL_mem {kf : Str → Option NameKind} {x : Str} {u : Value} (hk : kf x = some .local) : ∀ {binds : List (Str × Value)} {m : Str → Option Value}, (binds.map (·.1)).Nodup → (x, u) ∈ binds → bindL kf binds m x = some u
  | [], m, _, h => by cases h
  | (n, v) :: r, m, nd, h => by
    simp only [List.map_cons, List.nodup_cons] at nd
    unfold bindL
    rcases List.mem_cons.mp h with h | h
    · cases h
      rw [bindL_notin nd.1, if_pos hk]; exact if_pos rfl
    · exact bindL_mem hk nd.2 h
theorem bindC_notin {kf : Str → Option NameKind} {x : Str} : ∀ {binds : List (Str × Value)} {m : Str → Option Value}, x ∉ binds.map (·.1) → bindC kf binds m x = m x
  | [], m, _ => rfl
  | (n, v) :: r, m, h => by
    simp only [List.map_cons, List.mem_cons, not_or] at h
    unfold bindC
    rw [bindC_notin h.2]
    split
    · rfl
    · exact if_neg h.1
theorem bindC_mem {kf : Str → Option NameKind} {x : Str} {u : Value} (hk : kf x ≠ some .local) : ∀ {binds : List (Str × Value)} {m : Str → Option Value}, (binds.map (·.1)).Nodup → (x, u) ∈ binds → bindC kf binds m x = some u
  | [], m, _, h => by cases h
  | (n, v) :: r, m, nd, h => by
    simp only [List.map_cons, List.nodup_cons] at nd
    unfold bindC
    rcases List.mem_cons.mp h with h | h
    · cases h
      rw [bindC_notin nd.1, if_neg hk]; exact if_pos rfl
    · exact bindC_mem hk nd.2 h

theorem not_mem' {C : Cx} {μ : List Addr} {H : AHeap} {h : Heap} (hp : HeapR C μ H h) {a : Addr} (ha : h.get? a = none) : a ∉ μ := fun q => by
  obtain ⟨o, e⟩ := hp.live q; rw [ha] at e; cases e
section
variable {C : Cx} {T : Tab} {n b : Nat} {Γ : List Str} {S : Scope} {J : Addr → Prop}
variable {base : Heap} {env cenv : Env} {ρ : AEnv} {μ μ' : List Addr} {H H' : AHeap} {s s' : Shared} {A : Around} {E : Value → Shared → Prop}

structure FnOk (T : Tab) (f : FnI) (params : Arguments) (body : List Stmt) (S : Scope) : Prop where
  posonly : params.posonlyargs = []
  vararg : params.vararg = none
  kwonly : params.kwonlyargs = []
  kwarg : params.kwarg = none
  np : params.args.length = f.np
  take : (gamOf S).take f.np = params.args.map (·.arg)
  nv : (gamOf S).length = f.nv
  nd : (S.names.map (·.1)).Nodup
  kind : S.kind = .function
  gen : S.isGenerator = false
  co : S.isCoroutine = false
  free : ∀ x ∈ S.names, x.2 ≠ .free
  body : chkSs T (gamOf S) S f.body body = true
theorem chkFn_ok {f : FnI} {params : Arguments} {body : List Stmt} (h : chkFn T f params body S = true) : FnOk T f params body S := by
  unfold chkFn at h
  simp only [Bool.and_eq_true, beq_iff_eq, List.isEmpty_iff, Option.isNone_iff_eq_none, decide_eq_true_eq, Bool.not_eq_true', List.all_eq_true, bne_iff_ne] at h
  obtain ⟨⟨⟨⟨⟨⟨⟨⟨⟨⟨⟨⟨⟨⟨h1, h2⟩, h3⟩, h4⟩, h5⟩, h6⟩, h7⟩, h8⟩, h9⟩, h10⟩, h11⟩, h12⟩, h13⟩, h14⟩, h15⟩ := h
  exact ⟨h1, h2, h3, h5, h7, h8, h9, h10, h11, h12, h13, h14, h15⟩

theorem gam_nodup (nd : (S.names.map (·.1)).Nodup) : (gamOf S).Nodup := by
  unfold gamOf
  exact List.Nodup.sublist (List.Sublist.map _ List.filter_sublist) nd
theorem lookup_nd : ∀ {l : List (Str × NameKind)}, (l.map (·.1)).Nodup → ∀ {x : Str} {k : NameKind}, (x, k) ∈ l → l.lookup x = some k
  | [], _, _, _, h => by cases h
  | (y, j) :: r, nd, x, k, h => by
    simp only [List.map_cons, List.nodup_cons] at nd
    rw [List.lookup_cons]
    rcases List.mem_cons.mp h with h | h
    · cases h; simp
    · have : x ≠ y := fun e => nd.1 (e ▸ List.mem_map_of_mem (f := (·.1)) h)
      rw [show (x == y) = false by simpa using this]
      exact lookup_nd nd.2 h

/-- the state at a def's head -/
theorem enterFn {fd : FuncData} {a : Addr} {f : FnI} {body : List Stmt} {vs : List AV} {us : List Value} (hp : HeapR C μ H s.heap) (hg : s.gens = #[]) (ho : s.os = C.os) (zl : ∀ {a : Addr}, C.z a → ∃ o, s.heap.get? a = some o)
    (K : FnOk T f fd.params body fd.scope) (gl : fd.globals = mainGlobals) (bu : fd.builtins = builtinsNs) (V : VRs C μ s.heap vs us) (hv : vs.length = f.np)
    (x : InCallC s (callEnvC fd s.heap.objs.size a).locals (bindL (callEnvC fd s.heap.objs.size a).kindOf ((fd.params.args.map (·.arg)).zip us) fun _ => none) (callEnvC fd s.heap.objs.size a).cells
        (bindC (callEnvC fd s.heap.objs.size a).kindOf ((fd.params.args.map (·.arg)).zip us) fun _ => none) s') :
    St C s.heap H.length (callEnvC fd s.heap.objs.size a) (gamOf fd.scope) (vs.map some ++ List.replicate (f.nv - f.np) none) μ H s' := by
  obtain ⟨⟨⟨h1, tk, rfl⟩, nn, kp, fr⟩, hcell, apart, above⟩ := x
  have kk : ∀ {a : Addr} {o : Obj}, s.heap.get? a = some o → h1.get? a = some o := fun {a o} e => kp a o e
  have hul : us.length = f.np := by rw [← V.length, hv]
  have hkl : (fd.params.args.map (·.arg)).length = us.length := by rw [List.length_map, K.np, hul]
  have gnd := gam_nodup K.nd
  have pnd : (fd.params.args.map (·.arg)).Nodup := by rw [← K.take]; exact gnd.sublist (List.take_sublist _ _)
  have bnd : (((fd.params.args.map (·.arg)).zip us).map (·.1)).Nodup := by rw [List.map_fst_zip (by (first | lia | omega))]; exact pnd
  have val : ∀ {x : Str} {i : Nat} {v : AV}, slot (gamOf fd.scope) x = some i → (vs.map some ++ List.replicate (f.nv - f.np) none)[i]? = some (some v) → ∃ u, (x, u) ∈ (fd.params.args.map (·.arg)).zip us ∧ VR C μ h1 v u := by
    intro x i v e1 e2
    have hi : i < vs.length := by
      by_cases hi : i < vs.length
      · exact hi
      · rw [List.getElem?_append_right (by simpa using Nat.not_lt.mp hi), List.getElem?_replicate] at e2
        split at e2 <;> cases e2
    rw [List.getElem?_append_left (by simpa using hi), List.getElem?_map] at e2
    have ev : vs[i]? = some v := by
      cases q : vs[i]? with
      | none => rw [q] at e2; cases e2
      | some w => rw [q] at e2; cases e2; rfl
    obtain ⟨u, eu, vu⟩ := V.get ev
    refine ⟨u, ?_, vu.keeps kk⟩
    have ex := slot_lt e1
    have ex' : (fd.params.args.map (·.arg))[i]? = some x := by
      rw [← K.take, List.getElem?_take, if_pos (by (first | lia | omega))]; exact ex
    rw [List.mem_iff_getElem?]
    exact ⟨i, by rw [List.getElem?_zip_eq_some]; exact ⟨ex', eu⟩⟩
  refine ⟨kp, hp.keeps kk, ⟨K.kind, ⟨_, nn, ?_⟩, ?_, ?_, ?_, gl, bu⟩, ?_, none_ge fr, not_mem' hp (none_ge fr), ?_, hg, ho, fun z => let ⟨o, e⟩ := zl z; ⟨o, kk e⟩⟩
  · intro x i v e1 e2 e3
    obtain ⟨u, hm, vu⟩ := val e1 e3
    exact ⟨u, bindL_mem e2 bnd hm, vu⟩
  · intro x hk
    have hk' : fd.scope.names.lookup x = some .cell := by
      rcases hk with hk | hk
      · exact hk
      · exact absurd rfl (K.free _ (mem_of_lookup (show fd.scope.names.lookup x = some .free from hk)))
    obtain ⟨c, ec⟩ := cellsFrom_some fd.scope.names (s.heap.objs.size + 1) [] (.inl (mem_of_lookup hk'))
    refine ⟨c, _, ec, hcell x c ec, fun {i v} e1 e2 => ?_⟩
    obtain ⟨u, hm, vu⟩ := val e1 e2
    refine ⟨u, bindC_mem (fun e => ?_) bnd hm, vu⟩
    have e' : fd.scope.names.lookup x = some .local := e
    rw [hk'] at e'; cases e'
  · intro x c e
    exact ⟨_, hcell x c e⟩
  · intro x y c e1 e2
    exact name_of_addr apart (mem_of_lookup e1) (mem_of_lookup e2)
  · intro i a' hi e
    have := (List.getElem?_eq_some_iff.mp e).1
    rw [hp.len] at this; (first | lia | omega)
  · intro x c e
    exact none_ge (Nat.le_of_lt (above x c (mem_of_lookup e)))
end
end Mine

namespace Mine
open PySem PySem.Calls PyProof.Rows PySem.SeqAt

section
variable {C : Cx} {T : Tab} {n b : Nat} {Γ : List Str} {S : Scope} {J : Addr → Prop} {strF : PyData → Option Str}
variable {base h : Heap} {env cenv : Env} {ρ : AEnv} {μ μ' : List Addr} {H H' : AHeap} {s s' : Shared} {A : Around} {E : Value → Shared → Prop}

theorem Gnd.keeps (G : Gnd C T base) (k : ∀ a o, base.get? a = some o → h.get? a = some o) : Gnd C T h where
  scr := ⟨let ⟨svs, l, r⟩ := G.scr.scr; ⟨svs, isList_keeps l fun o e => k _ o e, r⟩⟩
  g := G.g.keeps k
  b := G.b.keeps k
  bi := G.bi
  fn := fun e => let ⟨h1, o, fd, h2, h3⟩ := G.fn e; ⟨h1, o, fd, k _ _ h2, h3⟩
  gint := G.gint
  exc := G.exc
  nolimit := G.nolimit.keeps k
  defs := fun e => let ⟨o, fd, body, h1, h2, h3, h4, h5, h6, h7, h8, h9⟩ := G.defs e; ⟨o, fd, body, k _ _ h1, h2, h3, h4, h5, h6, h7, h8.keeps k, h9⟩

theorem AOk.deeper (a : AOk A (n + 1)) : AOk (A.deeper env) n := ⟨by have := a.depth; show A.depth + 1 + n + 60 < _; (first | lia | omega), by have := a.units; show A.units + 3 + 4 * n + 400 < _; (first | lia | omega), a.handled⟩

/-- the bodies of the defs do what the interpreter says -/
structure Bods (C : Cx) (T : Tab) (n : Nat) (strF : PyData → Option Str) (cf : Nat → List AV → AHeap → Res AV) : Prop where
  ok : ∀ {f : FnI} {body : List Stmt} {S : Scope} (b : Nat), chkSs T (gamOf S) S f.body body = true → SsOk C T n b (gamOf S) S body (denSs strF cf C.sc b f.body)

theorem call_pre {k : Nat} {vs : List AV} {us : List Value} {v : AV} {Q : Value → Shared → Prop} (B : Bods C T n strF (callF strF (fun k => T.defs.lookup k) C.sc n)) (G : Gnd C T s.heap) (hp : HeapR C μ H s.heap) (hg : s.gens = #[]) (ho : s.os = C.os) (zl : ∀ {a : Addr}, C.z a → ∃ o, s.heap.get? a = some o)
    (a : AOk A (n + 1)) (V : VRs C μ s.heap vs us) (e : callF strF (fun k => T.defs.lookup k) C.sc (n + 1) k vs H = .ok v H')
    (q : ∀ u s' μ', (∀ a o, s.heap.get? a = some o → s'.heap.get? a = some o) → μ <+: μ' → (∀ {a : Addr}, a ∈ μ' → a ∉ μ → s.heap.get? a = none) → (∀ {i : Nat} {a : Addr}, H.length ≤ i → μ'[i]? = some a → s.heap.get? a = none) →
      HeapR C μ' H' s'.heap → s'.gens = #[] → s'.os = C.os → (∀ {a : Addr}, C.z a → ∃ o, s'.heap.get? a = some o) → VR C μ' s'.heap v u → Q u s') :
    wpAny (model C.prog C.w) A (call (.ref (C.fa k)) us) Q E s := by
  unfold callF at e
  split at e
  · cases e
  · rename_i f ef
    split at e
    · rename_i hl
      obtain ⟨o, fd, body, h1, h2, h3, h4, h5, h6, h7, h8, h9⟩ := G.defs ef
      have K := chkFn_ok h9
      have hul : us.length = f.np := by rw [← V.length, hl]
      have hkl : fd.params.args.length = us.length := by rw [K.np, hul]
      have pnd : (fd.params.args.map (·.arg)).Nodup := by rw [← K.take]; exact (gam_nodup K.nd).sublist (List.take_sublist _ _)
      refine wpAny_call (codeAny_call_cells (binds := (fd.params.args.map (·.arg)).zip us) (by have := a.depth; (first | lia | omega)) h1 h2 G.nolimit h8 h3 (bindArgs_plain K.posonly K.vararg K.kwonly K.kwarg h6 hkl pnd) h5 ?_ (fun s1 x => ?_) K.co K.gen K.kind)
      · intro y hy
        have hm : y.1 ∈ fd.params.args.map (·.arg) := (List.of_mem_zip (a := y.1) (b := y.2) hy).1
        rw [← K.take] at hm
        have hm' := List.mem_of_mem_take hm
        unfold gamOf at hm'
        obtain ⟨p, hp', e'⟩ := List.mem_map.mp hm'
        obtain ⟨hp1, hp2⟩ := List.mem_filter.mp hp'
        have hlk := lookup_nd K.nd (x := p.1) (k := p.2) hp1
        rw [e'] at hlk
        simp only [Bool.or_eq_true, beq_iff_eq] at hp2
        rcases hp2 with q1 | q1
        · rw [q1] at hlk; exact .inl hlk
        · rw [q1] at hlk
          refine .inr ⟨hlk, ?_⟩
          obtain ⟨c, ec⟩ := cellsFrom_some fd.scope.names (s.heap.objs.size + 1) [] (.inl (mem_of_lookup hlk))
          rw [ec]; rfl
      · have st := enterFn (a := C.fa k) hp hg ho zl K h4 h7 V hl x
        have kp : ∀ a o, s.heap.get? a = some o → s1.heap.get? a = some o := st.keep
        refine (B.ok H.length K.body).ok G rfl st a.deeper ?_
        have fin : ∀ {ρ' : AEnv} {s2 : Shared} {μ2 : List Addr} {u : Value} {H2 : AHeap} {w : AV}, St C s.heap H.length (callEnvC fd s.heap.objs.size (C.fa k)) (gamOf fd.scope) ρ' μ2 H2 s2 → Ext (callEnvC fd s.heap.objs.size (C.fa k)) μ μ2 s1.heap s2.heap →
            VR C μ2 s2.heap w u → w = v → H2 = H' → Q u s2 := by
          intro ρ' s2 μ2 u H2 w S2 X2 V2 e1 e2
          subst e1; subst e2
          refine q u s2 μ2 S2.keep X2.pre (fun hm hn => ?_) S2.fresh S2.hp S2.gens S2.os S2.zl V2
          have := X2.new hm hn
          rename_i a'
          cases e' : s.heap.get? a' with
          | none => rfl
          | some o => rw [kp _ _ e'] at this; cases this
        cases ed : denSs strF (callF strF (fun k => T.defs.lookup k) C.sc n) C.sc H.length f.body (List.map some vs ++ List.replicate (f.nv - f.np) none) H with
        | next ρ2 H2 =>
          rw [ed] at e
          cases e
          exact fun s2 μ2 X2 S2 => fin S2 X2 .none rfl rfl
        | ret w H2 =>
          rw [ed] at e
          cases e
          exact fun u s2 μ2 X2 S2 V2 => fin S2 X2 V2 rfl rfl
        | exc c H2 => rw [ed] at e; cases e
        | bad => rw [ed] at e; cases e
    · cases e

theorem CallOk.step (B : Bods C T n strF (callF strF (fun k => T.defs.lookup k) C.sc n)) : CallOk C T (n + 1) (callF strF (fun k => T.defs.lookup k) C.sc (n + 1)) := by
  refine ⟨?_⟩
  intro k base b env Γ ρ μ H H' s A E Q vs us v G st a V e q
  refine call_pre B (G.keeps st.keep) st.hp st.gens st.os st.zl a V e fun u s' μ' kp pre new fr hp' hg' ho' zl' V' => ?_
  have kk : ∀ {a : Addr} {o : Obj}, s.heap.get? a = some o → s'.heap.get? a = some o := fun {a o} e => kp a o e
  have mono : ∀ {x : AV} {v : Value}, VR C μ s.heap x v → VR C μ' s'.heap x v := fun q => VR.mono' (P := fun _ => False) pre (fun e _ => kk e) (fun _ => id) (fun _ _ => id) q
  refine q u s' μ' ⟨pre, fun e _ => kk e, new, fun e => ⟨_, kk e⟩⟩ ⟨fun a o e => kk (st.keep a o e), hp', st.er.mono (fun _ n => n.at fun _ e => kk e) (fun _ _ _ _ e => kk e) mono, ?_, st.noloc, ?_, st.nocell, hg', ho', zl'⟩ V'
  · intro i a' hi e'
    by_cases hl : i < μ.length
    · obtain ⟨t, rfl⟩ := pre
      rw [List.getElem?_append_left hl] at e'
      exact st.fresh hi e'
    · exact base_none st (fr (by rw [← st.hp.len]; (first | lia | omega)) e')
  · intro hm
    by_cases hq : env.locals ∈ μ
    · exact st.lm hq
    · obtain ⟨m, ⟨o, _, _, ho2, _⟩, _⟩ := st.er.ns
      rw [new hm hq] at ho2; cases ho2
theorem CallOk.zero : CallOk C T 0 (callF strF (fun k => T.defs.lookup k) C.sc 0) := by
  refine ⟨?_⟩
  intro k base b env Γ ρ μ H H' s A E Q vs us v G st a V e q
  cases e
end
end Mine

namespace Mine
open PySem PySem.Calls PyProof.Rows PySem.SeqAt

section
variable {C : Cx} {T : Tab} {n b : Nat} {Γ : List Str} {S : Scope} {cf : Nat → List AV → AHeap → Res AV} {strF : PyData → Option Str}

theorem one_get {α : Type} {r : Res AV} {f : List AV → AHeap → Res α} : ((r.thn fun v H => (Res.ok ([] : List AV) H).thn fun vs H => .ok (v :: vs) H).get f) = r.get fun w H => f [w] H := by
  cases r <;> rfl

theorem prim_one {p : Prim} {sc : List Int} {vs : List AV} {H H' : AHeap} {v : AV} (hp : p ≠ .min2 ∧ p ≠ .max2) (e : prim strF sc p vs H = .ok v H') : ∃ x, vs = [x] := by
  match vs with
  | [] => cases p <;> exact bad_ok (v := v) (H' := H') e
  | [x] => exact ⟨x, rfl⟩
  | x :: y :: r =>
    cases p with
    | min2 => exact absurd rfl hp.1
    | max2 => exact absurd rfl hp.2
    | _ => first | exact bad_ok (v := v) (H' := H') e | (cases x <;> exact bad_ok (v := v) (H' := H') e)
theorem prim_two {p : Prim} {sc : List Int} {vs : List AV} {H H' : AHeap} {v : AV} (hp : p = .min2 ∨ p = .max2) (e : prim strF sc p vs H = .ok v H') : ∃ x y, vs = [x, y] := by
  match vs with
  | [] => rcases hp with rfl | rfl <;> exact bad_ok (v := v) (H' := H') e
  | [x] => rcases hp with rfl | rfl <;> (cases x <;> exact bad_ok (v := v) (H' := H') e)
  | [x, y] => exact ⟨x, y, rfl⟩
  | x :: y :: z :: r => rcases hp with rfl | rfl <;> (cases x <;> first | exact bad_ok (v := v) (H' := H') e | (cases y <;> exact bad_ok (v := v) (H' := H') e))

theorem ofKind_ok {o : Option Bool} {H H' : AHeap} {v : AV} (e : ofKind o H = .ok v H') : ∃ t, o = some t ∧ v = .bool t ∧ H' = H := by
  unfold ofKind at e
  split at e
  · cases e; exact ⟨_, rfl, rfl, rfl⟩
  · cases e

/-- a built-in's call on values -/
theorem callPrim_ok {p : Prim} {f : Str} {base : Heap} {env : Env} {ρ : AEnv} {μ : List Addr} {H H' : AHeap} {s : Shared} {A : Around} {E : Value → Shared → Prop} {Q : Value → Shared → Prop} {vs : List AV} {us : List Value} {v : AV} {fv : Value}
    (hf : primName p = some f) (hb : biVals.lookup f = some fv) (ok : okPrim p = true) (G : Gnd C T base) (st : St C base b env Γ ρ μ H s) (a : AOk A n) (V : VRs C μ s.heap vs us) (e : prim strF C.sc p vs H = .ok v H') (k : After C base b env Γ ρ μ s v H' Q) :
    wpAny (model C.prog C.w) A (call fv us) Q E s := by
  cases p with
  | len =>
    cases hf; cases hb
    obtain ⟨x, rfl⟩ := prim_one (by simp) e
    obtain ⟨u, rfl, V1⟩ := V.one
    exact len_ok G.scr st V1 e k
  | list =>
    cases hf; cases hb
    obtain ⟨x, rfl⟩ := prim_one (by simp) e
    obtain ⟨u, rfl, V1⟩ := V.one
    exact list_ok st V1 e k
  | tuple => cases ok
  | sorted =>
    cases hf; cases hb
    obtain ⟨x, rfl⟩ := prim_one (by simp) e
    obtain ⟨u, rfl, V1⟩ := V.one
    cases x with
    | ref r =>
      rw [p_sorted] at e
      split at e
      · rename_i xs ex
        split at e
        · rename_i h64
          split at e
          · rename_i is ei
            obtain ⟨_, rfl, rfl⟩ := alloc_ok e
            exact sorted_ok st V1 ex ei h64 k
          · cases e
        · cases e
      · cases e
    | _ => exact bad_ok (v := v) (H' := H') e
  | min2 =>
    cases hf; cases hb
    obtain ⟨x, y, rfl⟩ := prim_two (.inl rfl) e
    obtain ⟨u, w, rfl, V1, V2⟩ := V.two
    exact min2_ok st a V1 V2 e k
  | max2 =>
    cases hf; cases hb
    obtain ⟨x, y, rfl⟩ := prim_two (.inr rfl) e
    obtain ⟨u, w, rfl, V1, V2⟩ := V.two
    exact max2_ok st a V1 V2 e k
  | min1 => cases ok
  | max1 => cases ok
  | sum => cases ok
  | all =>
    cases hf; cases hb
    obtain ⟨x, rfl⟩ := prim_one (by simp) e
    obtain ⟨u, rfl, V1⟩ := V.one
    cases x with
    | ref r =>
      rw [p_all] at e
      split at e
      · rename_i xs ex
        split at e
        · rename_i is ei
          cases e
          exact all_ok st a V1 ex ei k
        · cases e
      · cases e
    | _ => exact bad_ok (v := v) (H' := H') e
  | int => cases ok
  | str => cases ok
  | listRange => cases hf
  | sortedSet => cases hf
  | isInt => cases hf
  | isBool => cases hf
  | isList => cases hf
  | isTuple => cases hf
  | isExc c => cases hf
  | isValueError => cases hf

theorem bi_name {p : Prim} {f : Str} (h : primName p = some f) : (∃ id, biVals.lookup f = some (.builtin id)) ∨ (∃ ty, biVals.lookup f = some (.type ty)) := by
  cases p <;> cases h <;> first | exact .inl ⟨_, rfl⟩ | exact .inr ⟨_, rfl⟩

theorem EvOk.primCall {p : Prim} {f : Str} {e : Expr} {r : List Expr} {np pos : Pos} {d : AEnv → AHeap → Res AV} {d1 : AEnv → AHeap → Res (List AV)} (hf : primName p = some f) (ok : okPrim p = true) (hg : isGlob S f = true) (hn : (e :: r).all notStar = true)
    (h1 : EsOk C T n b Γ S (e :: r) d1) (hd : ∀ ρ H, d ρ H = (d1 ρ H).get fun vs H => prim strF C.sc p vs H) : EvOk C T n b Γ S (.Call (.Name f np) (e :: r) [] pos) d := by
  rcases bi_name hf with ⟨id, hb⟩ | ⟨ty, hb⟩
  · exact .callB hb hg hn h1 hd fun G st a V e k => callPrim_ok hf hb ok G st a V e k
  · exact .callT hb hg hn h1 hd fun G st a V e k => callPrim_ok hf hb ok G st a V e k

theorem EvOk.isCall {p : Prim} {f g : Str} {x : Expr} {np gp pos : Pos} {d d1 : AEnv → AHeap → Res AV} (hp : typeName p = some g) (ok : okPrim p = true) (hf : f = ("isinstance" : Str)) (hg : isGlob S f = true) (hgg : isGlob S g = true) (hn : notStar x = true)
    (h1 : EvOk C T n b Γ S x d1) (hd : ∀ ρ H, d ρ H = (d1 ρ H).get fun w H => prim strF C.sc p [w] H) : EvOk C T n b Γ S (.Call (.Name f np) [x, .Name g gp] [] pos) d := by
  subst hf
  cases p with
  | isInt =>
    cases hp
    refine .callI (Ty := "int") rfl hg rfl hgg hn h1 hd fun st V e k => ?_
    obtain ⟨t, e', rfl, rfl⟩ := ofKind_ok e
    exact isInt_ok st V e' k
  | isBool =>
    cases hp
    refine .callI (Ty := "bool") rfl hg rfl hgg hn h1 hd fun st V e k => ?_
    obtain ⟨t, e', rfl, rfl⟩ := ofKind_ok e
    exact isBool_ok st V e' k
  | isList =>
    cases hp
    refine .callI (Ty := "list") rfl hg rfl hgg hn h1 hd fun st V e k => ?_
    obtain ⟨t, e', rfl, rfl⟩ := ofKind_ok e
    exact isList_ok st V e' k
  | isTuple =>
    cases hp
    refine .callI (Ty := "tuple") rfl hg rfl hgg hn h1 hd fun st V e k => ?_
    obtain ⟨t, e', rfl, rfl⟩ := ofKind_ok e
    exact isTuple_ok st V e' k
  | isValueError => cases ok
  | _ => cases hp

theorem EvOk.listRange {f g : Str} {x : Expr} {np gp p2 pos : Pos} {d d1 : AEnv → AHeap → Res AV} (hf : f = ("list" : Str)) (hg : g = ("range" : Str)) (hgf : isGlob S f = true) (hgg : isGlob S g = true) (hn : notStar x = true) (h1 : EvOk C T n b Γ S x d1)
    (hd : ∀ ρ H, d ρ H = (d1 ρ H).get fun w H => prim strF C.sc .listRange [w] H) : EvOk C T n b Γ S (.Call (.Name f np) [.Call (.Name g gp) [x] [] p2] [] pos) d := by
  subst hf; subst hg
  refine ⟨?_⟩
  intro base env ρ μ H H' s A E Q v' G hS st a ed k
  rw [hd] at ed
  obtain ⟨w, H1, e1, ed⟩ := Res.get_ok ed
  cases w with
  | int c =>
    rw [p_lrange] at ed
    split at ed
    · rename_i hr
      obtain ⟨_, rfl, rfl⟩ := alloc_ok ed
      refine wpAny_Call_ofName (builtin_ok G hS st hgf rfl ?_)
      refine PySem.callWith_type (noStars rfl) (args_ok rfl (wpAny_items_cons ?_ (starEach_cons rfl)))
      refine wpAny_Call_ofName (builtin_ok G hS st hgg rfl ?_)
      refine PySem.callWith_type (noStars (by simp only [List.all_cons, hn]; rfl)) (args_ok hn (wpAny_items_cons (h1.ok G hS st a e1 fun u s' μ' X S' V => wpAny_items_nil ?_) (starEach_cons hn)))
      obtain ⟨t, rfl⟩ := V.isInt
      refine call_range_1 ?_
      refine wpAny_items_nil ?_
      refine listRange_ok ((S'.tok (s'.toks + 1 + 1)).push _) a (IsRange.new _ _ _ _ _ _ _) hr fun u2 s2 μ2 X2 S2 V2 => k u2 s2 μ2 ((X.trans (Ext.push _)).trans X2) S2 V2
    · cases ed
  | _ => exact bad_ok (v := v') (H' := H') ed
end
end Mine

namespace Mine
open PySem PySem.Calls PyProof.Rows PySem.SeqAt

/-! A set's table: its places rise. -/
theorem below_go {xs : Array Nat} {j : Nat} : ∀ (fuel lo hi : Nat), hi - lo < fuel + 1 → lo ≤ hi → hi ≤ xs.size → (∀ i, i < lo → xs.getD i 0 < j) → (∀ i, hi ≤ i → i < xs.size → j ≤ xs.getD i 0) → xs.toList.Pairwise (· < ·) →
    (∀ i, i < SetTable.below.go xs j fuel lo hi → xs.getD i 0 < j) ∧ (∀ i, SetTable.below.go xs j fuel lo hi ≤ i → i < xs.size → j ≤ xs.getD i 0) ∧ SetTable.below.go xs j fuel lo hi ≤ xs.size
  | 0, lo, hi, h1, h2, h3, ha, hb, hp => by
    have : lo = hi := by (first | lia | omega)
    subst this
    exact ⟨ha, hb, h3⟩
  | fuel + 1, lo, hi, h1, h2, h3, ha, hb, hp => by
    unfold SetTable.below.go
    by_cases h : lo < hi
    · rw [if_pos h]
      dsimp only
      have hm : (lo + hi) / 2 < hi := by (first | lia | omega)
      have hm2 : lo ≤ (lo + hi) / 2 := by (first | lia | omega)
      generalize (lo + hi) / 2 = mid at hm hm2
      have hms : mid < xs.size := by (first | lia | omega)
      have hg : ∀ d, xs.getD mid d = xs[mid] := fun d => by simp [Array.getD, hms]
      have mono : ∀ i k, i < k → k < xs.size → xs.getD i 0 < xs.getD k 0 := fun i k hik hk => by
        have := List.pairwise_iff_getElem.mp hp i k (by simpa using (by (first | lia | omega) : i < xs.size)) (by simpa using hk) hik
        have e1 : xs.getD i 0 = xs[i] := by simp [Array.getD, show i < xs.size by (first | lia | omega)]
        have e2 : xs.getD k 0 = xs[k] := by simp [Array.getD, hk]
        rw [e1, e2]; simpa using this
      by_cases q : xs.getD mid j < j
      · rw [if_pos q]
        rw [hg] at q
        refine below_go fuel (mid + 1) hi (by (first | lia | omega)) (by (first | lia | omega)) h3 (fun i hi' => ?_) hb hp
        by_cases e : i = mid
        · rw [e, hg]; exact q
        · have := mono i mid (by (first | lia | omega)) hms; rw [hg] at this; (first | lia | omega)
      · rw [if_neg q]
        rw [hg] at q
        refine below_go fuel lo mid (by (first | lia | omega)) hm2 (by (first | lia | omega)) ha (fun i hi' his => ?_) hp
        by_cases e : i = mid
        · rw [e, hg]; (first | lia | omega)
        · have := mono mid i (by (first | lia | omega)) his; rw [hg] at this; (first | lia | omega)
    · rw [if_neg h]
      have : lo = hi := by (first | lia | omega)
      subst this
      exact ⟨ha, hb, h3⟩
theorem below_spec {xs : Array Nat} (j : Nat) (hp : xs.toList.Pairwise (· < ·)) : (∀ i, i < SetTable.below xs j → xs.getD i 0 < j) ∧ (∀ i, SetTable.below xs j ≤ i → i < xs.size → j ≤ xs.getD i 0) ∧ SetTable.below xs j ≤ xs.size :=
  below_go xs.size 0 xs.size (by (first | lia | omega)) (Nat.zero_le _) (Nat.le_refl _) (fun i h => absurd h (Nat.not_lt_zero _)) (fun i h1 h2 => by (first | lia | omega)) hp
theorem insertAt_list {α : Type} (xs : Array α) (p : Nat) (x : α) : (SetTable.insertAt xs p x).toList = xs.toList.take p ++ x :: xs.toList.drop p := by
  unfold SetTable.insertAt
  rw [Array.toList_append, Array.toList_push, Array.toList_extract, Array.toList_extract, List.append_assoc]
  simp only [List.extract, List.drop_zero, Nat.sub_zero, List.singleton_append]
  congr 2
  rw [List.take_of_length_le]
  rw [List.length_drop, Array.length_toList]; exact Nat.le_refl _
/-- a slot that is not live -/
theorem insert_rises {xs : Array Nat} {j : Nat} (hp : xs.toList.Pairwise (· < ·)) (hn : xs[SetTable.below xs j]? ≠ some j) : (SetTable.insertAt xs (SetTable.below xs j) j).toList.Pairwise (· < ·) := by
  obtain ⟨b1, b2, b3⟩ := below_spec j hp
  generalize SetTable.below xs j = p at hn b1 b2 b3
  rw [insertAt_list]
  have hget : ∀ i, i < xs.size → xs.getD i 0 = xs.toList.getD i 0 := fun i hi => by simp [Array.getD, hi]
  refine List.pairwise_append.mpr ⟨hp.sublist (List.take_sublist ..), List.pairwise_cons.mpr ⟨fun y hy => ?_, hp.sublist (List.drop_sublist ..)⟩, fun x hx y hy => ?_⟩
  · obtain ⟨i, hi⟩ := List.mem_iff_getElem?.mp hy
    rw [List.getElem?_drop] at hi
    have hlt : p + i < xs.size := by have := (List.getElem?_eq_some_iff.mp hi).1; simpa using this
    have hy' : xs.getD (p + i) 0 = y := by rw [hget _ hlt, List.getD_eq_getElem?_getD, hi]; rfl
    have h1 := b2 (p + i) (by (first | lia | omega)) hlt
    rw [hy'] at h1
    by_cases e : j = y
    · exfalso
      cases i with
      | zero =>
        apply hn
        rw [← Array.getElem?_toList, ← Nat.add_zero p, hi, e]
      | succ i =>
        have hlt2 : p < xs.size := by (first | lia | omega)
        have h2 := b2 p (Nat.le_refl _) hlt2
        have := List.pairwise_iff_getElem.mp hp p (p + (i + 1)) (by simpa using hlt2) (by simpa using hlt) (by (first | lia | omega))
        have e1 : xs.getD p 0 = xs.toList[p]'(by simpa using hlt2) := by rw [hget _ hlt2, List.getD_eq_getElem?_getD, List.getElem?_eq_getElem (by simpa using hlt2)]; rfl
        have e2 : y = xs.toList[p + (i + 1)]'(by simpa using hlt) := (List.getElem?_eq_some_iff.mp hi).2.symm
        rw [e1] at h2
        rw [← e2] at this
        (first | lia | omega)
    · (first | lia | omega)
  · have hxp : x < j := by
      obtain ⟨i, hi⟩ := List.mem_iff_getElem?.mp hx
      have hip : i < p := by
        have := (List.getElem?_eq_some_iff.mp hi).1
        rw [List.length_take] at this; (first | lia | omega)
      rw [List.getElem?_take_of_lt hip] at hi
      have his : i < xs.size := by (first | lia | omega)
      have := b1 i hip
      rw [hget _ his, List.getD_eq_getElem?_getD, hi] at this
      exact this
    rcases List.mem_cons.mp hy with rfl | hy
    · exact hxp
    · obtain ⟨i, hi⟩ := List.mem_iff_getElem?.mp hy
      rw [List.getElem?_drop] at hi
      have hlt : p + i < xs.size := by have := (List.getElem?_eq_some_iff.mp hi).1; simpa using this
      have hy' : xs.getD (p + i) 0 = y := by rw [hget _ hlt, List.getD_eq_getElem?_getD, hi]; rfl
      have h1 := b2 (p + i) (by (first | lia | omega)) hlt
      (first | lia | omega)

noncomputable def notLive (t : SetTable) (j : Nat) : Prop := t.place[SetTable.below t.place j]? ≠ some j
theorem slot_notLive {t : SetTable} {j : Nat} (h : ∀ i, t.slot j ≠ .live i) : notLive t j := fun e => by
  refine h (SetTable.below t.place j) ?_
  unfold SetTable.slot
  dsimp only
  rw [e]
  simp
theorem advance_dummy (t : SetTable) (p : SetTable.Probe) : (t.advance p).dummy = p.dummy := by
  unfold SetTable.advance
  split <;> rfl
theorem probe_go {t : SetTable} {f : Nat → Int} {h : Int} {j : Nat} {d : Option Nat} : ∀ (fuel : Nat) (p : SetTable.Probe), (∀ x, p.dummy = some x → notLive t x) → SetTable.probe.go t f h fuel p = some (.empty j d) → notLive t j ∧ ∀ x, d = some x → notLive t x
  | 0, p, hp, e => by cases e
  | fuel + 1, p, hp, e => by
    unfold SetTable.probe.go at e
    cases hs : t.slot p.j with
    | empty =>
      rw [hs] at e
      cases e
      exact ⟨slot_notLive fun i e => (by rw [hs] at e; cases e), hp⟩
    | dummy =>
      rw [hs] at e
      refine probe_go fuel _ (fun x hx => ?_) e
      rw [advance_dummy] at hx
      cases hx
      exact slot_notLive fun i e => by rw [hs] at e; cases e
    | live i =>
      rw [hs] at e
      dsimp only at e
      split at e
      · cases e
      · exact probe_go fuel _ (fun x hx => by rw [advance_dummy] at hx; exact hp x hx) e
theorem free_notLive {t : SetTable} {h : Int} {slot : Nat} {b : Bool} (e : t.freeSlot h = some (slot, b)) : notLive t slot := by
  unfold SetTable.freeSlot at e
  split at e
  · rename_i j d hp
    cases e
    have := probe_go _ _ (fun x hx => by cases hx) hp
    cases d with
    | none => exact this.1
    | some x => exact this.2 x rfl
  · cases e

/-- the table rises and is led as at first -/
structure TabI (led : Bool) (t : SetTable) : Prop where
  led : t.led = led
  ris : t.place.toList.Pairwise (· < ·)
theorem range_rises (n : Nat) : (Array.range n).toList.Pairwise (· < ·) := by rw [Array.toList_range]; exact List.pairwise_lt_range
theorem TabI.standIn {led : Bool} {t : SetTable} (h : TabI led t) (n : Nat) : TabI led (t.standIn n) := ⟨h.led, range_rises n⟩
theorem TabI.layNew {led : Bool} {t : SetTable} (h : TabI led t) (es : Array (Int × Value)) (k : Int) (x : Value) : TabI led (PySem.layNew t es k x).2.1 := by
  unfold PySem.layNew
  split
  · rename_i slot b hf
    dsimp only
    have hn := free_notLive hf
    have h' : TabI led (t.put slot).1 := ⟨h.led, insert_rises h.ris hn⟩
    unfold SetTable.orStandIn
    split
    · exact h'
    · exact h'.standIn _
  · exact h.standIn _
theorem live_rises : ∀ (l : List Nat) (f : Nat → Option Nat), l.Pairwise (· < ·) → ((l.filterMap fun j => (f j).map (j, ·)).map (·.1)).Pairwise (· < ·)
  | [], f, _ => .nil
  | x :: l, f, h => by
    obtain ⟨h1, h2⟩ := List.pairwise_cons.mp h
    have ih := live_rises l f h2
    rw [List.filterMap_cons]
    cases f x with
    | none => exact ih
    | some y =>
      refine List.pairwise_cons.mpr ⟨fun z hz => ?_, ih⟩
      obtain ⟨p, hp, rfl⟩ := List.mem_map.mp hz
      obtain ⟨j, hj, e⟩ := List.mem_filterMap.mp hp
      cases q : f j with
      | none => rw [q] at e; cases e
      | some u => rw [q] at e; cases e; exact h1 j hj
theorem TabI.laid {led plain : Bool} {mask finger moves : Nat} {hs : Array Int} {t : SetTable} {o : Array Nat} (e : SetTable.laid mask finger moves led plain hs = some (t, o)) : TabI led t := by
  unfold SetTable.laid at e
  cases q : SetTable.layClean mask hs with
  | none => rw [q] at e; cases e
  | some owner =>
    rw [q] at e
    cases e
    exact ⟨rfl, by show (List.toArray _).toList.Pairwise _; rw [List.toList_toArray]; exact live_rises _ _ List.pairwise_lt_range⟩
theorem TabI.relay {led : Bool} {t : SetTable} (h : TabI led t) (es : Array (Int × Value)) (n : Nat) : TabI led (relayAll t es n).2.1 := by
  unfold relayAll
  split
  · rename_i t' order hr
    dsimp only
    split
    · have := TabI.laid (led := t.led) hr
      rw [h.led] at this
      exact this
    · exact h.standIn _
  · exact h.standIn _
end Mine

namespace Mine
open PySem PySem.Calls PyProof.Rows PySem.SeqAt

noncomputable def intOf : Value → Int
  | .int i _ => i
  | _ => 0
/-- a set of ints in the heap; l are they in the order of their coming -/
inductive SetI (h : Heap) (a : Addr) (led : Bool) (l : List Int) : Prop
  | mk (o : Obj) (es : Array (Int × Value)) (ep : Nat) (t : SetTable) (ho : h.get? a = some o) (hex : o.ExactSet) (hd : o.data = .set es ep t) (hel : ∀ e ∈ es.toList, ∃ i tk, e = (hashInt i, Value.int i tk))
    (hp : (es.toList.map fun e => intOf e.2).Perm l) (hb : es.size < scanBound) (hf : t.fits es.size = true) (ht : TabI led t) : SetI h a led l
noncomputable def dd (l : List Int) (k : Int) : List Int := if k ∈ l then l else l ++ [k]
theorem dd_nodup {l : List Int} (h : l.Nodup) (k : Int) : (dd l k).Nodup := by
  unfold dd
  split
  · exact h
  · rename_i q
    exact List.nodup_append.mpr ⟨h, by simp, fun a ha b hb e => q (by simp at hb; rw [← hb, ← e]; exact ha)⟩
theorem dd_mem {l : List Int} {k x : Int} : x ∈ dd l k ↔ x ∈ l ∨ x = k := by
  unfold dd
  split
  · rename_i q
    exact ⟨.inl, fun h => h.elim id fun e => e ▸ q⟩
  · simp
theorem dd_length (l : List Int) (k : Int) : (dd l k).length ≤ l.length + 1 := by
  unfold dd
  split
  · (first | lia | omega)
  · simp

section
variable {prog : Program} {w : World} {A : Around} {E : Value → Shared → Prop} {s : Shared} {a : Addr} {led : Bool} {l : List Int}

theorem elems_of {es : List (Int × Value)} (h : ∀ e ∈ es, ∃ i tk, e = (hashInt i, Value.int i tk)) : ElemsOf (intKind prog w) es := fun e he => by
  obtain ⟨i, tk, rfl⟩ := h e he
  exact ⟨⟨i, intKind_is prog w i tk, rfl⟩, rfl⟩
theorem SetI.stored {h : Heap} {o : Obj} {es : Array (Int × Value)} {ep : Nat} {t : SetTable} (ho : h.get? a = some o) (hex : o.ExactSet) (hd : o.data = .set es ep t) {es' : Array (Int × Value)} {t' : SetTable}
    (hel : ∀ e ∈ es'.toList, ∃ i tk, e = (hashInt i, Value.int i tk)) (hp : (es'.toList.map fun e => intOf e.2).Perm l) (hb : es'.size < scanBound) (hf : t'.fits es'.size = true) (ht : TabI led t') :
    (h.update a (Obj.putSet es' t')).get? a = some { o with data := .set es' (ep + 1) t' } ∧ SetI (h.update a (Obj.putSet es' t')) a led l := by
  have hg : (h.update a (Obj.putSet es' t')).get? a = some { o with data := .set es' (ep + 1) t' } := by
    have := Heap.get?_update_self (Obj.putSet es' t') ho (by rw [putSet_of es' t' hd]; rfl)
    rw [putSet_of es' t' hd] at this; exact this
  exact ⟨hg, _, es', ep + 1, t', hg, hex, rfl, hel, hp, hb, hf, ht⟩

theorem set_add {k : Int} {tk : Tok} {Q : Bool → Shared → Prop} (S : SetI s.heap a led l) (hroom : l.length + 1 < scanBound) (h : ∀ b h', Heap.SameBut a s.heap h' → SetI h' a led (dd l k) → Q b { s with heap := h' }) :
    wpAny (model prog w) A (setAddHashed a (.int k tk) (hashInt k)) Q E s := by
  obtain ⟨o, es, ep, t, ho, hex, hd, hel, hp, hb, hf, ht⟩ := S
  have hsz : es.size = l.length := by rw [← Array.length_toList, ← hp.length_eq, List.length_map]
  have hel' : ElemsOf (intKind prog w) es.toList := elems_of hel
  unfold setAddHashed setAddHashedIn
  refine wpAny_holding (wpAny_bind (wpAny_setState_of ho hd hf ?_))
  dsimp only
  rw [byScan_of (x := .int k tk) rfl hb hel']
  simp only [↓reduceIte]
  unfold setAddByScan
  refine wpAny_bind ?_
  refine wpAny_bind (wpAny_rule ?_)
  refine wpAny_bind (wpAny_setScan_of (knd := intKind prog w) (k := k) (intKind_is prog w k tk) ho hd hf hel' ?_)
  have isk : ∀ {e : Int × Value}, e ∈ es.toList → ((intKind prog w).is k e.2 = true ↔ intOf e.2 = k) := fun {e} he => by
    obtain ⟨i, tk, rfl⟩ := hel e he
    show ((i == k) = true) ↔ i = k
    exact beq_iff_eq
  cases hr : List.findIdx? (fun e => (intKind prog w).is k e.2) es.toList with
  | some j =>
    dsimp only
    obtain ⟨hj, hpj, _⟩ := List.findIdx?_eq_some_iff_getElem.mp hr
    have hk : k ∈ l := hp.mem_iff.mp (List.mem_map.mpr ⟨_, List.getElem_mem hj, (isk (List.getElem_mem hj)).mp hpj⟩)
    have e : s = { s with heap := s.heap } := by cases s; rfl
    have := h false s.heap (Heap.SameBut.refl a s.heap) ⟨o, es, ep, t, ho, hex, hd, hel, by unfold dd; rw [if_pos hk]; exact hp, hb, hf, ht⟩
    exact wpAny_pure (wpAny_pure this)
  | none =>
    dsimp only
    have hk : k ∉ l := fun hm => by
      obtain ⟨e, he, q⟩ := List.mem_map.mp (hp.mem_iff.mpr hm)
      have := List.findIdx?_eq_none_iff.mp hr e he
      rw [(isk he).mpr q] at this
      cases this
    have hgw : ∀ (b : Bool) {s₁ : Shared} {Q' : Unit → Shared → Prop}, Q' () s₁ → wpAny (model prog w) A (match b with | true => rule "set.scan.the-table-gave-way" | false => pure ()) Q' E s₁ :=
      fun b s₁ Q' hq => by cases b <;> first | exact wpAny_pure hq | exact wpAny_rule hq
    have hperm := layNew_perm t es (hashInt k) (.int k tk)
    have hfits := layNew_fits t es (hashInt k) (.int k tk)
    have htab := ht.layNew es (hashInt k) (.int k tk)
    generalize hL : layNew t es (hashInt k) (.int k tk) = L at hperm hfits htab ⊢
    obtain ⟨es1, t1, wasDummy, gave⟩ := L
    dsimp only at hperm hfits htab ⊢
    rw [Array.toList_push] at hperm
    have hel1 : ∀ e ∈ es1.toList, ∃ i tk, e = (hashInt i, Value.int i tk) := fun e he => by
      rcases List.mem_append.mp (hperm.mem_iff.mp he) with he | he
      · exact hel e he
      · cases List.mem_singleton.mp he; exact ⟨k, tk, rfl⟩
    have hp1 : (es1.toList.map fun e => intOf e.2).Perm (dd l k) := by
      unfold dd
      rw [if_neg hk]
      refine (hperm.map _).trans ?_
      rw [List.map_append]
      exact hp.append_right _
    have hsz1 : es1.size = l.length + 1 := by rw [← Array.length_toList, hperm.length_eq, List.length_append, Array.length_toList, hsz]; rfl
    have hb1 : es1.size < scanBound := by rw [hsz1]; exact hroom
    refine wpAny_bind (hgw _ ?_)
    have tail : ∀ t2 : SetTable, t2.fits es1.size = true → TabI led t2 → wpAny (model prog w) A (do
        storeSet a es1 t2
        if (!wasDummy && t2.tooFull) = true then do
            (match (relayAll t2 es1 (SetTable.grown es1.size)).2.2 with | true => rule "set.scan.the-table-gave-way" | false => pure ())
            storeSet a (relayAll t2 es1 (SetTable.grown es1.size)).1 (relayAll t2 es1 (SetTable.grown es1.size)).2.1
            pure (some true)
          else pure (some true)) (fun r s' => ∃ h', r = some true ∧ s' = { s with heap := h' } ∧ Heap.SameBut a s.heap h' ∧ SetI h' a led (dd l k)) E s := by
      intro t2 hf2 ht2
      refine wpAny_bind (wpAny_storeSet_of ho hd ?_ (fits_of_scanBound hb1))
      obtain ⟨ho1, hS1⟩ := SetI.stored (led := led) (l := dd l k) ho hex hd hel1 hp1 hb1 hf2 ht2
      have hsb1 := Heap.SameBut.update s.heap a (Obj.putSet es1 t2)
      split
      · have hp2 := relayAll_perm t2 es1 (SetTable.grown es1.size)
        have hf3 := relayAll_fits t2 es1 (SetTable.grown es1.size)
        have ht3 := ht2.relay es1 (SetTable.grown es1.size)
        generalize hRl : relayAll t2 es1 (SetTable.grown es1.size) = Rl at hp2 hf3 ht3 ⊢
        obtain ⟨es2, t3, gave2⟩ := Rl
        dsimp only at hp2 hf3 ht3 ⊢
        have hb2 : es2.size < scanBound := by rw [← Array.length_toList, hp2.length_eq, Array.length_toList]; exact hb1
        refine wpAny_bind (hgw _ ?_)
        refine wpAny_bind (wpAny_storeSet_of ho1 rfl ?_ (fits_of_scanBound hb2))
        obtain ⟨_, hS2⟩ := SetI.stored (led := led) (l := dd l k) ho1 hex rfl (fun e he => hel1 e (hp2.mem_iff.mp he)) ((hp2.map _).trans hp1) hb2 hf3 ht3
        exact wpAny_pure ⟨_, rfl, rfl, hsb1.trans (Heap.SameBut.update _ a _), hS2⟩
      · exact wpAny_pure ⟨_, rfl, rfl, hsb1, hS1⟩
    have fin : ∀ (r : Option Bool) (s' : Shared), (∃ h', r = some true ∧ s' = { s with heap := h' } ∧ Heap.SameBut a s.heap h' ∧ SetI h' a led (dd l k)) → wpAny (model prog w) A (match r with | some added => pure added | none => setAddHashedIn a (.int k tk) (hashInt k) 99999) Q E s' := by
      rintro r s' ⟨h', rfl, rfl, hsb, hS⟩
      exact wpAny_pure (h true h' hsb hS)
    split
    · refine wpAny_bind ?_
      rw [hashByValue_scannable 8 (x := .int k tk) rfl]
      refine wpAny_pure ?_
      exact wpAny_mono (tail t1 hfits htab) (fun r s' q => fin r s' q) fun _ _ q => q
    · refine wpAny_bind ?_
      refine wpAny_pure ?_
      exact wpAny_mono (tail t1 hfits htab) (fun r s' q => fin r s' q) fun _ _ q => q
end
end Mine

namespace Mine
open PySem PySem.Calls PyProof.Rows PySem.SeqAt

noncomputable def ddL (val : Nat → Int) (i : Nat) : List Int := ((List.range i).map val).foldl dd []
theorem ddL_succ (val : Nat → Int) (i : Nat) : ddL val (i + 1) = dd (ddL val i) (val i) := by unfold ddL; rw [List.range_succ, List.map_append, List.foldl_append]; rfl
theorem ddL_length (val : Nat → Int) : ∀ i, (ddL val i).length ≤ i
  | 0 => Nat.le_refl _
  | i + 1 => by rw [ddL_succ]; exact Nat.le_trans (dd_length _ _) (Nat.succ_le_succ (ddL_length val i))
theorem ddL_nodup (val : Nat → Int) : ∀ i, (ddL val i).Nodup
  | 0 => .nil
  | i + 1 => by rw [ddL_succ]; exact dd_nodup (ddL_nodup val i) _
theorem ddL_mem (val : Nat → Int) (x : Int) : ∀ i, x ∈ ddL val i ↔ ∃ j, j < i ∧ val j = x
  | 0 => ⟨fun h => (by cases h), fun ⟨j, h, _⟩ => absurd h (Nat.not_lt_zero _)⟩
  | i + 1 => by
    rw [ddL_succ, dd_mem, ddL_mem val x i]
    constructor
    · rintro (⟨j, h, e⟩ | e)
      · exact ⟨j, Nat.lt_succ_of_lt h, e⟩
      · exact ⟨i, Nat.lt_succ_self _, e.symm⟩
    · rintro ⟨j, h, e⟩
      by_cases q : j = i
      · exact .inr (by rw [← e, q])
      · exact .inl ⟨j, by (first | lia | omega), e⟩

section
variable {prog : Program} {w : World} {A : Around} {R : Result → Shared → Prop} {I : Addr} {fp wr : List Addr} {G : Array GenState → Array GenState → Prop} {n : Nat} {P : Nat → Value → Prop} {St : Nat → Shared → Prop} {led : Bool}

theorem SetI.at {h h' : Heap} {a : Addr} {l : List Int} (S : SetI h a led l) (e : ∀ o, h.get? a = some o → h'.get? a = some o) : SetI h' a led l := by
  obtain ⟨o, es, ep, t, ho, r1, r2, r3, r4, r5, r6, r7⟩ := S
  exact ⟨o, es, ep, t, e o ho, r1, r2, r3, r4, r5, r6, r7⟩
theorem set_loop (W : WalksS prog w A.in1 I fp wr G n P St) (S : Addr) (hSf : S ∉ fp) (val : Nat → Int) (hval : ∀ i v, P i v → ∃ t, v = .int (val i) t) (hb : n + 1 < scanBound) :
    ∀ (k i : Nat) (s : Shared), n - i = k → i ≤ n → St i s → SetI s.heap S led (ddL val i) → (∀ s', Moved (S :: wr) G s s' → SetI s'.heap S led (ddL val n) → R (.ok (.ret .none)) s') →
      codeAny (model prog w) A (.builtin "set.update.loop" ⟨[.ref S, .ref I], []⟩) R s := by
  have hSw : S ∉ wr := fun h => hSf (W.sub _ h)
  have hsub : ∀ b ∈ wr, b ∈ S :: wr := fun b hb => List.mem_cons_of_mem _ hb
  intro k
  induction k with
  | zero =>
    intro i s hk hi hst hS hR
    have hin : i = n := by (first | lia | omega)
    subst hin
    refine codeAny_builtin F.entry_set_update_loop ?_
    rw [Around.under_plainId F.plain_set_update_loop _]
    show wpAny _ A.in1 (pyNext (.ref I) >>= _) _ _ s
    refine wpAny_bind (W.done s _ _ hst fun s' hm => ?_)
    show wpAny _ A.in1 (ret Value.none) _ _ s'
    exact wpAny_pure (hR s' (hm.mono hsub) (hS.at fun o e => hm.heap S _ hSw e))
  | succ k ih =>
    intro i s hk hi hst hS hR
    have hlt : i < n := by (first | lia | omega)
    refine codeAny_builtin F.entry_set_update_loop ?_
    rw [Around.under_plainId F.plain_set_update_loop _]
    show wpAny _ A.in1 (pyNext (.ref I) >>= _) _ _ s
    refine wpAny_bind (W.item i s _ _ hlt hst fun v s' hP hst' hm => ?_)
    obtain ⟨t, rfl⟩ := hval i v hP
    have hS' := hS.at (h' := s'.heap) fun o e => hm.heap S _ hSw e
    show wpAny _ A.in1 (holding [Value.int (val i) t] (setAdd S (.int (val i) t)) >>= _) _ _ s'
    refine wpAny_bind (wpAny_holding ?_)
    unfold setAdd
    refine wpAny_holding ?_
    refine wpAny_bind ((intKind prog w).pyHash (k := val i) (intKind_is _ _ _ _) ?_)
    have hroom : (ddL val i).length + 1 < scanBound := by have := ddL_length val i; (first | lia | omega)
    refine set_add (s := { s' with toks := s'.toks + 1 }) hS' hroom fun b h' hsb hS2 => ?_
    rw [← ddL_succ] at hS2
    refine wpAny_pure ⟨plainId_quiet F.plain_set_update_loop _, ih (i + 1) _ (by (first | lia | omega)) hlt (W.frame _ s' _ _ hst' (Nat.le_succ _) fun b hb o e => ?_) hS2 fun s'' hm'' hS'' => ?_⟩
    · rw [hsb.2 b (fun h : b = S => hSf (by rw [← h]; exact hb))]; exact e
    · refine hR s'' (Moved.trans W.gtrans ((hm.mono hsub).then_heap (Nat.le_succ _) fun b o hb e => ?_) hm'') hS''
      rw [hsb.2 b (fun h : b = S => hb (by rw [h]; exact List.mem_cons_self))]; exact e
end

/-- are sets told by their text? -/
noncomputable def byText (w : World) : Bool := w.params.followText "set-order"
section
variable {prog : Program} {w : World} {A : Around} {E : Value → Shared → Prop} {s : Shared}
theorem byText_ok {Q : Bool → Shared → Prop} (h : Q (byText w) s) : wpAny (model prog w) A setsByText Q E s := by
  unfold setsByText
  exact wpAny_bind (wpAny_askSetting (wpAny_pure h))
noncomputable def freshSet (w : World) : Obj := { cls := .type "set", dict := none, data := .set #[] 0 (.fresh 0 0 (!byText w)) }
theorem set_new1 (a : Value) {Q₁ : Value → Shared → Prop} (h : Q₁ (.ref s.heap.objs.size) { s with heap := s.heap.push (freshSet w) }) : codeAny (model prog w) A (.call (.builtin "set.__new__") ⟨[.type "set", a], []⟩) (wants Q₁ E) s := by
  refine codeAny_of_tree ?_
  show wpAny _ A.in1 (do checkBuiltinCall "set.__new__" ⟨[.type "set", a], []⟩; again (.builtin "set.__new__" ⟨[.type "set", a], []⟩)) _ _ s
  refine wpAny_bind (wpAny_of_eq (PySem.F.newCall_set_1 a) (wpAny_pure ⟨plainId_quiet F.plain_set_new _, codeAny_builtin F.entry_set_new ?_⟩))
  rw [Around.under_plainId F.plain_set_new _]
  unfold Builtin.«set.__new__» Builtin.Frozenset.newClass
  have hsub := sub_set_self
  obtain ⟨hp, g, d, tk, os⟩ := s
  dsimp only
  wp_walk
  refine wpAny_askSetting (wpAny_pure ?_)
  dsimp only
  simp only [newObj]
  refine wpAny_bind (wpAny_alloc (wpAny_pure ?_))
  exact wpAny_pure h
end
end Mine

namespace Mine
open PySem PySem.Calls PyProof.Rows PySem.SeqAt

section
variable {prog : Program} {w : World} {A : Around} {E : Value → Shared → Prop} {s : Shared}

theorem fresh_setI {h : Heap} {a : Addr} (e : h.get? a = some (freshSet w)) : SetI h a (!byText w) [] :=
  ⟨_, #[], 0, _, e, ⟨rfl, rfl, rfl⟩, rfl, fun e he => (by simp at he), .refl _, by decide, rfl, ⟨rfl, .nil⟩⟩

/-- set(l), l a list of ints -/
theorem set_listI {l : Addr} {items : Array Value} {ns : List Int} {Q : Value → Shared → Prop} (hh : A.handled = none) (hl : s.heap.IsList l items) (hi : IntsAre items.toList ns) (hb : items.size + 1 < scanBound)
    (h : ∀ (h' : Heap) (tk : Nat), SetI h' s.heap.objs.size (!byText w) (ddL (fun i => ns.getD i 0) items.size) → (∀ b o, s.heap.get? b = some o → h'.get? b = some o) → Q (.ref s.heap.objs.size) { s with heap := h', toks := tk }) :
    wpAny (model prog w) A (call (.type "set") [.ref l]) Q E s := by
  obtain ⟨c, tl, hmro⟩ := F.called_set.mro
  have hmade := F.called_set.made
  have hsub := F.called_set.sub
  refine wpAny_call (codeAny_of_tree ?_)
  show wpAny _ _ (callAny (.type "set") _) _ _ _
  refine wpAny_pure ⟨Code.quiet_builtin _ (by decide +kernel), codeAny_builtin F.entry_type_call ?_⟩
  rw [Around.under_plain (weight_type_call_type "set" [.ref l] []) rfl]
  have h1 := F.called_set.notType
  have h2 := F.called_set.canCreate
  have hct := PySem.F.typeCall_set_1 (.ref l)
  repeat (any_goals (first | assumption | wp_step))
  refine codeAny_mono (set_new1 (.ref l) (E := E) (Q₁ := fun obj s₁ => obj = .ref s.heap.objs.size ∧ s₁ = { s with heap := s.heap.push (freshSet w) }) ⟨rfl, rfl⟩) fun r s₁ hr => ?_
  cases r with
  | error e => exact hr
  | ok fl =>
    cases fl with
    | ret obj =>
      obtain ⟨rfl, rfl⟩ := hr
      have hS : (s.heap.push (freshSet w)).get? s.heap.objs.size = some (freshSet w) := Heap.get?_push_size _ rfl
      have hT : Shared.TypeIs { s with heap := s.heap.push (freshSet w) } (.ref s.heap.objs.size) "set" := ⟨_, hS, rfl⟩
      have hli := F.called_set.init.lookup
      have hbi := F.called_set.init.bind (.ref s.heap.objs.size)
      repeat (any_goals (first | assumption | wp_step))
      refine codeAny_mono (codeAny_call_builtin (R := wants (fun r s₂ => r = .none ∧ ∃ h' tk, s₂ = { s with heap := h', toks := tk } ∧ SetI h' s.heap.objs.size (!byText w) (ddL (fun i => ns.getD i 0) items.size) ∧
          (∀ b o, s.heap.get? b = some o → h'.get? b = some o)) E) F.called_set.init.plain F.entry_set_init (check_set_init_1 hT ?_)) fun r₂ s₂ hr₂ => ?_
      · obtain ⟨ol, hol, hcl, nl, hdl⟩ := hl
        obtain ⟨ocls, odict, odata, oslots⟩ := ol
        simp only at hcl hdl
        subst hcl; subst hdl
        have hol' : (s.heap.push (freshSet w)).get? l = some { cls := .type "list", dict := odict, data := .seq items nl, slots := oslots } := Heap.get?_push_of_some _ hol
        have hsls := PySem.F.sub_list_set
        have hslf := PySem.F.sub_list_frozenset
        have hne : (Value.type "list" == Value.type "dict") = false := by decide
        have hl1 : (s.heap.push (freshSet w)).IsList l items := ⟨_, hol', rfl, nl, rfl⟩
        unfold Builtin.«set.__init__» noKeywords Builtin.Frozenset.updateFrom
        generalize hPI : pyIter = PI
        wp_walk
        subst hPI
        refine wpAny_pyIter_list hl1 ?_
        refine wpAny_bind (wpAny_runValue ?_)
        have hlS : l < s.heap.objs.size := Heap.lt_size hol
        have hh3 : A.in1.in1.in1.handled = none := by simp [hh]
        have hneI : l ≠ (s.heap.push (freshSet w)).objs.size := by
          rw [Heap.size_push]; exact Nat.ne_of_lt (Nat.lt_succ_of_lt hlS)
        have hSf : s.heap.objs.size ∉ [(s.heap.push (freshSet w)).objs.size, l] := by
          rw [Heap.size_push]; simp only [List.mem_cons, List.not_mem_nil, or_false, not_or]
          exact ⟨Nat.ne_of_lt (Nat.lt_succ_self _), Nat.ne_of_gt hlS⟩
        have hval : ∀ (i : Nat) (v : Value), items[i]? = some v → ∃ t, v = .int ((fun i => ns.getD i 0) i) t := fun i v hv =>
          IntsAre.int_at hi i v (by rw [Array.getElem?_toList]; exact hv)
        refine set_loop (led := !byText w) ((Walks.list hh3 _ l hneI items).toS) s.heap.objs.size hSf (fun i => ns.getD i 0) hval hb (items.size - 0) 0 _ (by (first | lia | omega)) (Nat.zero_le _)
          ⟨⟨_, Heap.get?_push_size _ rfl, rfl, rfl⟩, (hl1.push _)⟩ (fresh_setI (Heap.get?_push_of_some _ hS)) ?_
        intro s' hm hS'
        obtain ⟨h', g', d', tk', os'⟩ := s'
        have eg : g' = s.gens := hm.gens
        have ed : d' = s.drawn := hm.drawn
        have eo : os' = s.os := hm.os
        subst eg; subst ed; subst eo
        show wpAny _ _ _ _ _ _
        refine wpAny_pure ?_
        show wpAny _ _ (ret Value.none) _ _ _
        refine wpAny_pure ⟨rfl, h', tk', rfl, hS', fun b o e => ?_⟩
        have hb := Heap.lt_size e
        refine hm.heap b o ?_ (Heap.get?_push_of_some _ (Heap.get?_push_of_some _ e))
        simp only [List.mem_cons, List.not_mem_nil, or_false, not_or]
        exact ⟨Nat.ne_of_lt hb, by rw [Heap.size_push]; exact Nat.ne_of_lt (Nat.lt_succ_of_lt hb)⟩
      · cases r₂ with
        | error e => exact hr₂
        | ok fl₂ =>
          cases fl₂ with
          | ret r =>
            obtain ⟨rfl, h', tk, rfl, hS', hk'⟩ := hr₂
            repeat (any_goals (first | assumption | wp_step))
            exact h _ _ hS' hk'
          | next => exact hr₂.elim
          | brk => exact hr₂.elim
          | cont => exact hr₂.elim
    | next => exact hr.elim
    | brk => exact hr.elim
    | cont => exact hr.elim
end
end Mine

namespace Mine
open PySem PySem.Calls PyProof.Rows PySem.SeqAt

/-! walking over a set -/
theorem erase_perm {α : Type} : ∀ {l : List α} {i : Nat} (h : i < l.length), (l[i] :: l.eraseIdx i).Perm l
  | x :: l, 0, h => .refl _
  | x :: l, i + 1, h => by
    rw [List.eraseIdx_cons_succ, List.getElem_cons_succ]
    exact (List.Perm.swap ..).trans (List.Perm.cons _ (erase_perm (by simpa using h)))
theorem pick_go {α : Type} (next : Nat → Nat) : ∀ (fuel k : Nat) (left : List α) (out : Array α), left.length ≤ fuel → (pickOrder.go next fuel k left out).toList.Perm (out.toList ++ left)
  | 0, k, left, out, h => by
    have : left = [] := List.length_eq_zero_iff.mp (Nat.le_zero.mp h)
    subst this
    unfold pickOrder.go; simp
  | fuel + 1, k, left, out, h => by
    unfold pickOrder.go
    cases e : left[next k % left.length]? with
    | none =>
      have : left = [] := by
        cases left with
        | nil => rfl
        | cons x l => rw [List.getElem?_eq_none_iff] at e; exact absurd (Nat.mod_lt (next k) (by simp)) (Nat.not_lt.mpr e)
      subst this
      simp
    | some x =>
      dsimp only
      have hlt := (List.getElem?_eq_some_iff.mp e).1
      have hlen : (left.eraseIdx (next k % left.length)).length ≤ fuel := by rw [List.length_eraseIdx_of_lt hlt]; (first | lia | omega)
      refine (pick_go next fuel (k + 1) _ (out.push x) hlen).trans ?_
      rw [Array.toList_push, List.append_assoc]
      refine List.Perm.append_left _ ?_
      have hx : left[next k % left.length] = x := (List.getElem?_eq_some_iff.mp e).2
      have := erase_perm hlt
      rw [hx] at this
      exact this
theorem pick_perm {α : Type} (next : Nat → Nat) (xs : Array α) : (pickOrder next xs).toList.Perm xs.toList := by
  unfold pickOrder
  refine (pick_go next xs.size 0 xs.toList #[] (by simp)).trans ?_
  simp
section
variable {prog : Program} {w : World} {A : Around} {E : Value → Shared → Prop} {s : Shared}
theorem choose_ok {src : Source} {n : Nat} {Q : Nat → Shared → Prop} (hn : n ≠ 0) (h : ∀ i d, i < n → Q i { s with drawn := d }) : wpAny (model prog w) A (choose src n) Q E s := fun Γ p _ =>
  ⟨hn, h _ _ (Nat.mod_lt _ (Nat.pos_of_ne_zero hn))⟩
theorem draw_ok {α : Type} : ∀ (n : Nat) (xs : List α) {s : Shared} {Q : List α → Shared → Prop}, xs.length ≤ n → (∀ l d, l.Perm xs → Q l { s with drawn := d }) → wpAny (model prog w) A (drawOrder n xs) Q E s
  | 0, xs, s, Q, h, k => by
    have : xs = [] := List.length_eq_zero_iff.mp (Nat.le_zero.mp h)
    subst this
    exact wpAny_pure (k [] s.drawn (.refl _))
  | n + 1, [], s, Q, h, k => wpAny_pure (k [] s.drawn (.refl _))
  | n + 1, x :: xs, s, Q, h, k => by
    unfold drawOrder
    refine wpAny_bind (choose_ok (by simp) fun i d hi => ?_)
    rw [List.getElem?_eq_getElem hi]
    dsimp only
    have hlen : ((x :: xs).eraseIdx i).length ≤ n := by rw [List.length_eraseIdx_of_lt hi]; simp at h ⊢; (first | lia | omega)
    refine wpAny_bind (draw_ok n _ hlen fun l d' hl => ?_)
    exact wpAny_pure (k _ d' ((List.Perm.cons _ hl).trans (erase_perm hi)))
end

/-- where the walk by places stands -/
noncomputable def slotAt (t : SetTable) (i : Nat) : Nat := if i = 0 then 0 else t.place.getD (i - 1) 0 + 1
theorem below_slotAt {t : SetTable} {i : Nat} (hp : t.place.toList.Pairwise (· < ·)) (hi : i ≤ t.place.size) : SetTable.below t.place (slotAt t i) = i := by
  obtain ⟨b1, b2, b3⟩ := below_spec (slotAt t i) hp
  have mono : ∀ i k, i < k → k < t.place.size → t.place.getD i 0 < t.place.getD k 0 := fun i k hik hk => by
    have := List.pairwise_iff_getElem.mp hp i k (by simpa using (by (first | lia | omega) : i < t.place.size)) (by simpa using hk) hik
    have e1 : t.place.getD i 0 = t.place[i] := by simp [Array.getD, show i < t.place.size by (first | lia | omega)]
    have e2 : t.place.getD k 0 = t.place[k] := by simp [Array.getD, hk]
    rw [e1, e2]; simpa using this
  generalize SetTable.below t.place (slotAt t i) = r at b1 b2 b3
  unfold slotAt at b1 b2
  by_cases h0 : i = 0
  · subst h0
    simp only [if_true] at b1 b2
    cases r with
    | zero => rfl
    | succ r => exact absurd (b1 0 (by (first | lia | omega))) (Nat.not_lt_zero _)
  · simp only [h0, if_false] at b1 b2
    rcases Nat.lt_trichotomy r i with h | h | h
    · have h1 := b2 r (Nat.le_refl _) (by (first | lia | omega))
      by_cases q : r = i - 1
      · rw [q] at h1; (first | lia | omega)
      · have := mono r (i - 1) (by (first | lia | omega)) (by (first | lia | omega)); (first | lia | omega)
    · exact h
    · have h1 := b1 i h
      have := mono (i - 1) i (by (first | lia | omega)) (by (first | lia | omega))
      (first | lia | omega)

noncomputable def itObj (first : Value) (i : Nat) (S n ep : Nat) : Obj := { cls := .type "set_iterator", dict := none, data := .fields #[first, .int i 0, .ref S, .int n 0, .int ep 0], slots := #[] }
noncomputable def tupObj (ps : List Nat) : Obj := { cls := .type "tuple", data := .seq (ps.map fun (i : Nat) => Value.int i 0).toArray 0 }
/-- the walk, in its three ways; r are the entries in their order -/
inductive SW (w : World) (S I tp : Addr) (es : Array (Int × Value)) (ep : Nat) (t : SetTable) (r : List (Int × Value)) (i : Nat) (h : Heap) : Prop
  | text (hb : byText w = true) (hr : r = (pickOrder (w.params.setOrder S ep) es).toList) (e : h.get? I = some (itObj (.int 0 0) i S es.size ep)) : SW w S I tp es ep t r i h
  | plain (hb : byText w = false) (hd : (!t.plain && decide (es.size > 1)) = false) (hr : r = es.toList) (e : h.get? I = some (itObj (.int (slotAt t i) 0) i S es.size ep)) : SW w S I tp es ep t r i h
  | drawn (ps : List Nat) (hp : ps.Perm (List.range es.size)) (hr : r = ps.map fun p => es.getD p (0, .none)) (e : h.get? I = some (itObj (.ref tp) i S es.size ep)) (et : h.get? tp = some (tupObj ps)) : SW w S I tp es ep t r i h
theorem SW.perm {w : World} {S I tp : Addr} {es : Array (Int × Value)} {ep : Nat} {t : SetTable} {r : List (Int × Value)} {i : Nat} {h : Heap} (x : SW w S I tp es ep t r i h) : r.Perm es.toList := by
  cases x with
  | text hb hr e => rw [hr]; exact pick_perm _ _
  | plain hb hd hr e => rw [hr]
  | drawn ps hp hr e et =>
    rw [hr]
    refine (hp.map _).trans (List.Perm.of_eq ?_)
    refine List.ext_getElem? fun i => ?_
    rw [List.getElem?_map]
    by_cases hi : i < es.size
    · rw [List.getElem?_range hi, Array.getElem?_toList, Array.getElem?_eq_getElem hi]
      simp [Array.getD, hi]
    · rw [List.getElem?_eq_none (by simpa using hi), List.getElem?_eq_none (by simpa using hi)]; rfl
end Mine

namespace Mine
open PySem PySem.Calls PyProof.Rows PySem.SeqAt

theorem entry_set_iter : entryFor table "set.__iter__" = some Builtin.«frozenset.__iter__» := entryFor_alias (id' := "frozenset.__iter__") (by kernel_rfl) rfl (by decide +kernel) (by kernel_rfl)
theorem slot_si_next : Slot "set_iterator" "__next__" "set_iterator.__next__" :=
  .of (owner := "set_iterator") (n := "__next__") (by rw [typeLookup_type, builtinLookup_eq_fast]; kernel_rfl) (by decide +kernel) (by decide +kernel) (by decide +kernel)
    (by first | exact .inl (by decide +kernel) | exact .inr (by decide +kernel)) (by rw [isSubtype_type]; kernel_rfl)
theorem entry_si_next : entryFor table "set_iterator.__next__" = some Builtin.«set_iterator.__next__» := entryFor_of_tree (by kernel_rfl)
theorem args_si_next (a : Value) : argsOk "set_iterator.__next__" ⟨[a], []⟩ := by unfold argsOk; kernel_rfl
theorem slot_si_iter : Slot "set_iterator" "__iter__" "set_iterator.__iter__" :=
  .of (owner := "set_iterator") (n := "__iter__") (by rw [typeLookup_type, builtinLookup_eq_fast]; kernel_rfl) (by decide +kernel) (by decide +kernel) (by decide +kernel)
    (by first | exact .inl (by decide +kernel) | exact .inr (by decide +kernel)) (by rw [isSubtype_type]; kernel_rfl)
theorem entry_si_iter : entryFor table "set_iterator.__iter__" = some Builtin.«dict_keyiterator.__iter__» := entryFor_alias (id' := "dict_keyiterator.__iter__") (by kernel_rfl) rfl (by decide +kernel) (by kernel_rfl)
theorem args_si_iter (a : Value) : argsOk "set_iterator.__iter__" ⟨[a], []⟩ := by unfold argsOk; kernel_rfl

section
variable {prog : Program} {w : World} {A : Around} {E : Value → Shared → Prop} {s : Shared} {S I tp : Addr} {es : Array (Int × Value)} {ep : Nat} {t : SetTable} {o : Obj} {r : List (Int × Value)} {i : Nat}

theorem drawn_ok {Q : Bool → Shared → Prop} (ho : s.heap.get? S = some o) (hd : o.data = .set es ep t) (hf : t.fits es.size = true) (h : Q (!byText w && (!t.plain && decide (es.size > 1))) s) : wpAny (model prog w) A (setDrawn S) Q E s := by
  unfold setDrawn
  exact wpAny_bind (wpAny_setState_of ho hd hf (wpAny_bind (byText_ok (wpAny_pure h))))
/-- iter(set) -/
theorem iter_set {Q : Value → Shared → Prop} (ho : s.heap.get? S = some o) (hex : o.ExactSet) (hd : o.data = .set es ep t) (hf : t.fits es.size = true) (hsz : es.size < scanBound)
    (h : ∀ I tp r s', s.heap.get? I = none → (tp = S ∨ s.heap.get? tp = none ∧ tp ≠ I) → SW w S I tp es ep t r 0 s'.heap → (∀ b ob, s.heap.get? b = some ob → s'.heap.get? b = some ob) → s'.gens = s.gens → s'.os = s.os → Q (.ref I) s') :
    wpAny (model prog w) A (pyIter (.ref S)) Q E s := by
  have hT : s.TypeIs (.ref S) "set" := ⟨o, ho, hex.1⟩
  refine wpAny_pyIter_slot hT F.slot_set_iter (wpAny_call_entry F.slot_set_iter hT entry_set_iter ?_ (F.args_set_iter_1 _))
  unfold Builtin.«frozenset.__iter__»
  refine wpAny_bind (wpAny_pure ?_)
  refine wpAny_bind ?_
  refine wpAny_bind (wpAny_setEntries_of ho hd hf (wpAny_pure ?_))
  refine wpAny_bind (drawn_ok ho hd hf ?_)
  have none_new : ∀ {hp : Heap}, hp.get? hp.objs.size = none := fun {hp} => by
    cases e : hp.get? hp.objs.size with
    | none => rfl
    | some ob => exact absurd (Heap.lt_size e) (Nat.lt_irrefl _)
  cases hc : (!byText w && (!t.plain && decide (es.size > 1))) with
  | false =>
    simp only [Bool.false_eq_true, if_false]
    refine wpAny_bind (wpAny_pure ?_)
    refine wpAny_bind (wpAny_setEpoch_of ho hd hf ?_)
    refine wpAny_bind (wpAny_newObj_type (wpAny_pure ⟨_, rfl, "set_iterator", _, ⟨_, Heap.get?_push_size _ rfl, rfl⟩, slot_si_next.lookup, ?_⟩))
    have hg : (s.heap.push (itObj (.int 0 0) 0 S es.size ep)).get? s.heap.objs.size = some (itObj (.int 0 0) 0 S es.size ep) := Heap.get?_push_size _ rfl
    by_cases hb : byText w = true
    · exact h _ S _ _ none_new (.inl rfl) (.text hb rfl hg) (fun b ob e => Heap.get?_push_of_some _ e) rfl rfl
    · have hb' : byText w = false := by simpa using hb
      rw [hb'] at hc
      exact h _ S _ _ none_new (.inl rfl) (.plain hb' (by simpa using hc) rfl hg) (fun b ob e => Heap.get?_push_of_some _ e) rfl rfl
  | true =>
    simp only [if_true]
    refine wpAny_bind (draw_ok _ _ (by simp) fun ps d hps => ?_)
    have hpl : ps.length = es.size := by rw [hps.length_eq, List.length_range]
    refine wpAny_bind (wpAny_newTuple (Q := _) ?_ (by rw [List.length_map, hpl]; exact fits_of_scanBound hsz))
    have ho' : ({ s with drawn := d, heap := s.heap.push { cls := .type "tuple", data := .seq (ps.map fun (i : Nat) => rawInt i).toArray 0 } } : Shared).heap.get? S = some o := Heap.get?_push_of_some _ ho
    refine wpAny_bind (wpAny_setEpoch_of ho' hd hf ?_)
    refine wpAny_bind (wpAny_newObj_type (wpAny_pure ⟨_, rfl, "set_iterator", _, ⟨_, Heap.get?_push_size _ rfl, rfl⟩, slot_si_next.lookup, ?_⟩))
    have ht : (s.heap.push (tupObj ps)).get? s.heap.objs.size = some (tupObj ps) := Heap.get?_push_size _ rfl
    have hsz' : (s.heap.push (tupObj ps)).objs.size = s.heap.objs.size + 1 := Heap.size_push ..
    have hg : ((s.heap.push (tupObj ps)).push (itObj (.ref s.heap.objs.size) 0 S es.size ep)).get? (s.heap.push (tupObj ps)).objs.size = some (itObj (.ref s.heap.objs.size) 0 S es.size ep) := Heap.get?_push_size _ rfl
    refine h (s.heap.push (tupObj ps)).objs.size s.heap.objs.size _ _ ?_ (.inr ⟨none_new, by rw [hsz']; exact Nat.ne_of_lt (Nat.lt_succ_self _)⟩) (.drawn ps hps rfl hg (Heap.get?_push_of_some _ ht)) (fun b ob e => Heap.get?_push_of_some _ (Heap.get?_push_of_some _ e)) rfl rfl
    cases e : s.heap.get? (s.heap.push (tupObj ps)).objs.size with
    | none => rfl
    | some ob => exact absurd (Heap.lt_size e) (by rw [hsz']; exact Nat.not_lt.mpr (Nat.le_succ _))

end
end Mine

namespace Mine
open PySem PySem.Calls PyProof.Rows PySem.SeqAt

section
variable {prog : Program} {w : World} {A : Around} {E : Value → Shared → Prop} {s : Shared} {S I tp : Addr} {es : Array (Int × Value)} {ep : Nat} {t : SetTable} {o : Obj} {r : List (Int × Value)} {i : Nat}

/-- the iterator moves on -/
theorem si_move {h : Heap} {first first' x : Value} {k : Nat} (e : h.get? I = some (itObj first i S k ep)) {Q : PySem.Fin → Shared → Prop} {s : Shared} (hs : s.heap = h) (kQ : ∀ h', Heap.SameBut I h h' → h'.get? I = some (itObj first' (i + 1) S k ep) → Q (.done (.ret x)) { s with heap := h' }) :
    wpAny (model prog w) A (do setField (.ref I) 0 first'; setField (.ref I) 1 (rawInt ((i : Int) + 1)); ret x) Q E s := by
  subst hs
  refine wpAny_bind (wpAny_setField_rec e (by simp) fun h1 e1 s1 => ?_)
  refine wpAny_bind (wpAny_setField_rec e1 (by simp) fun h2 e2 s2 => ?_)
  exact wpAny_pure (kQ h2 (s1.trans s2) (by rw [e2]; rfl))
theorem si_move1 {h : Heap} {first x : Value} {k : Nat} (e : h.get? I = some (itObj first i S k ep)) {Q : PySem.Fin → Shared → Prop} {s : Shared} (hs : s.heap = h) (kQ : ∀ h', Heap.SameBut I h h' → h'.get? I = some (itObj first (i + 1) S k ep) → Q (.done (.ret x)) { s with heap := h' }) :
    wpAny (model prog w) A (do setField (.ref I) 1 (rawInt ((i : Int) + 1)); ret x) Q E s := by
  subst hs
  refine wpAny_bind (wpAny_setField_rec e (by simp) fun h2 e2 s2 => ?_)
  exact wpAny_pure (kQ h2 s2 (by rw [e2]; rfl))
/-- the iterator is at its end -/
theorem si_stop {Q : Option Value → Shared → Prop} {h : Heap} {first : Value} {k : Nat} (hh : A.handled = none) (e : h.get? I = some (itObj first i S k ep)) {s : Shared} (hs : s.heap = h) {Q' : PySem.Fin → Shared → Prop} (kQ : ∀ h', Heap.ExtBut I h h' → Q none { s with heap := h' }) :
    wpAny (model prog w) A.in1 (do setField (.ref I) 2 .none; raiseNew (← newExc (.type "StopIteration") [])) Q' (fun e s' => wpAny (model prog w) A (do let b ← isInstance e (.type "StopIteration"); if b = true then pure none else throw e) Q E s') s := by
  subst hs
  refine wpAny_bind (wpAny_setField_rec e (by simp) fun h1 e1 s1 => ?_)
  refine wpAny_bind ?_
  simp only [newExc, newTuple]
  refine wpAny_bind (wpAny_newObj_type ?_ (by size_fits))
  refine wpAny_bind (m := firstArgMember _ _) (wpAny_of_eq (a := Value.none) (by first | rfl | (simp only [firstArgMember]; rfl)) ?_)
  refine wpAny_newObj_type ?_ (by size_fits)
  simp only [raiseNew]
  refine wpAny_bind (wpAny_handled ?_)
  rw [show A.in1.handled = none from hh]
  refine wpAny_bind (wpAny_pure (wpAny_throw ?_))
  refine wpAny_bind (wpAny_isInstance (T := "StopIteration") (b := true) ⟨_, Heap.get?_push_size _ rfl, rfl⟩ isSubtype_stop ?_)
  exact wpAny_pure (kQ _ ((s1.extBut.push _).push _))

theorem text_next {Q : Option (Value × Nat) → Shared → Prop} {slot : Nat} (ho : s.heap.get? S = some o) (hd : o.data = .set es ep t) (hf : t.fits es.size = true) (hb : byText w = true)
    (h : Q (((pickOrder (w.params.setOrder S ep) es)[i]?).map fun e => (e.2, slot)) s) : wpAny (model prog w) A (setNext S slot i ep) Q E s := by
  unfold setNext
  refine wpAny_bind (wpAny_setState_of ho hd hf ?_)
  dsimp only
  refine wpAny_bind (byText_ok ?_)
  rw [hb, if_pos rfl]
  simp only [bne_self_eq_false, Bool.false_eq_true, if_false]
  unfold setWalk
  refine wpAny_bind (wpAny_bind (wpAny_setState_of ho hd hf ?_))
  dsimp only
  refine wpAny_bind (byText_ok ?_)
  rw [hb, if_pos rfl]
  exact wpAny_bind (wpAny_askSetting (wpAny_pure (wpAny_pure h)))
theorem plain_next {Q : Option (Value × Nat) → Shared → Prop} (ho : s.heap.get? S = some o) (hd : o.data = .set es ep t) (hf : t.fits es.size = true) (hb : byText w = false) (hl : t.led = !byText w) (hp : (!t.plain && decide (es.size > 1)) = false) (hr : t.place.toList.Pairwise (· < ·)) (hi : i ≤ es.size)
    (h : Q (if i < es.size then some ((es.getD i (0, .none)).2, slotAt t (i + 1)) else none) s) : wpAny (model prog w) A (setNext S (slotAt t i) i ep) Q E s := by
  have hps : t.place.size = es.size := by
    unfold SetTable.fits at hf
    exact beq_iff_eq.mp (Bool.and_eq_true _ _ ▸ hf : _ ∧ _).1
  unfold setNext
  refine wpAny_bind (wpAny_setState_of ho hd hf ?_)
  dsimp only
  refine wpAny_bind (byText_ok ?_)
  rw [hb, if_neg (by decide)]
  show wpAny _ _ (if (!t.plain && decide (es.size > 1)) = true then _ else _) _ _ _
  rw [hp, if_neg (by decide)]
  have hled : (!t.led && !es.isEmpty) = false := by rw [hl, hb]; rfl
  refine wpAny_bind ?_
  show wpAny _ _ (if (!t.led && !es.isEmpty) = true then _ else _) _ _ _
  rw [hled, if_neg (by decide)]
  refine wpAny_pure (wpAny_pure ?_)
  rw [below_slotAt hr (by (first | lia | omega))]
  by_cases hlt : i < es.size
  · rw [if_pos hlt] at h
    have hlt' : i < t.place.size := by (first | lia | omega)
    rw [Array.getElem?_eq_getElem hlt, Array.getElem?_eq_getElem hlt']
    have e1 : es.getD i (0, .none) = es[i] := by simp [Array.getD, hlt]
    have e2 : slotAt t (i + 1) = t.place[i] + 1 := by unfold slotAt; rw [if_neg (by (first | lia | omega)), Nat.add_sub_cancel]; simp [Array.getD, hlt']
    rw [e1, e2] at h
    exact h
  · rw [if_neg hlt] at h
    rw [Array.getElem?_eq_none (by (first | lia | omega))]
    exact h

theorem SW.itObj_at {h : Heap} (x : SW w S I tp es ep t r i h) : ∃ first, h.get? I = some (itObj first i S es.size ep) := by
  cases x with
  | text hb hr e => exact ⟨_, e⟩
  | plain hb hd hr e => exact ⟨_, e⟩
  | drawn ps hp hr e et => exact ⟨_, e⟩
theorem get_pick {q : Array (Int × Value)} (hl : q.size = es.size) (hi : i < es.size) : q[i]? = some (q.toList.getD i (0, .none)) := by
  rw [Array.getElem?_eq_getElem (by (first | lia | omega)), List.getD_eq_getElem?_getD, Array.getElem?_toList, Array.getElem?_eq_getElem (by (first | lia | omega))]; rfl
/-- one more of the set -/
theorem next_item {Q : Option Value → Shared → Prop} (ho : s.heap.get? S = some o) (hd : o.data = .set es ep t) (hf : t.fits es.size = true) (ht : TabI (!byText w) t) (hi : i < es.size) (htp : tp ≠ I) (x : SW w S I tp es ep t r i s.heap)
    (h : ∀ h', Heap.SameBut I s.heap h' → SW w S I tp es ep t r (i + 1) h' → Q (some (r.getD i (0, .none)).2) { s with heap := h' }) : wpAny (model prog w) A (pyNext (.ref I)) Q E s := by
  obtain ⟨first, e0⟩ := x.itObj_at
  have hT : s.TypeIs (.ref I) "set_iterator" := ⟨_, e0, rfl⟩
  unfold pyNext
  refine wpAny_bind (wpAny_attempt (wpAny_callSpecial?_slot (name := Str.ofString "__next__") hT slot_si_next (wpAny_call_entry slot_si_next hT entry_si_next ?_ (args_si_next _))))
  unfold Builtin.«set_iterator.__next__»
  refine wpAny_bind (wpAny_pure ?_)
  cases x with
  | text hb hr e =>
    refine wpAny_bind (wpAny_fieldsOf e rfl ?_)
    dsimp only
    refine wpAny_bind (wpAny_setEntries_of ho hd hf ?_)
    rw [if_neg (by simp)]
    refine wpAny_bind (text_next (slot := 0) ho hd hf hb ?_)
    have hl : (pickOrder (w.params.setOrder S ep) es).size = es.size := by rw [← Array.length_toList, (pick_perm _ _).length_eq, Array.length_toList]
    simp only [Int.toNat_natCast, get_pick hl hi, ← hr, Option.map_some]
    exact si_move (first' := rawInt (0 : Nat)) e rfl fun h' sb e' => ⟨_, rfl, wpAny_pure (h h' sb (.text hb hr e'))⟩
  | plain hb hd' hr e =>
    refine wpAny_bind (wpAny_fieldsOf e rfl ?_)
    dsimp only
    refine wpAny_bind (wpAny_setEntries_of ho hd hf ?_)
    rw [if_neg (by simp)]
    simp only [Int.toNat_natCast]
    refine wpAny_bind (plain_next ho hd hf hb ht.led hd' ht.ris (Nat.le_of_lt hi) ?_)
    rw [if_pos hi]
    have er : r.getD i (0, .none) = es.getD i (0, .none) := by rw [hr, List.getD_eq_getElem?_getD, Array.getElem?_toList]; simp [Array.getD, hi]
    rw [er] at h
    exact si_move (first' := rawInt (slotAt t (i + 1) : Nat)) e rfl fun h' sb e' => ⟨_, rfl, wpAny_pure (h h' sb (.plain hb hd' hr e'))⟩
  | drawn ps hp hr e et =>
    have hpl : ps.length = es.size := by rw [hp.length_eq, List.length_range]
    have hip : i < ps.length := by (first | lia | omega)
    have hpi : ps[i] < es.size := List.mem_range.mp (hp.mem_iff.mp (List.getElem_mem hip))
    refine wpAny_bind (wpAny_fieldsOf e rfl ?_)
    dsimp only
    refine wpAny_bind (wpAny_setEntries_of ho hd hf ?_)
    rw [if_neg (by simp)]
    simp only [Int.toNat_natCast]
    refine wpAny_bind ?_
    unfold seqItems?
    refine wpAny_bind (wpAny_load et (wpAny_pure ?_))
    have eg : ((ps.map fun (i : Nat) => Value.int i 0).toArray)[i]? = some (.int (ps[i] : Nat) 0) := by rw [List.getElem?_toArray, List.getElem?_map, List.getElem?_eq_getElem hip]; rfl
    dsimp only [tupObj]
    rw [eg]
    dsimp only
    refine wpAny_bind ?_
    unfold setNextDrawn
    refine wpAny_bind (wpAny_setState_of ho hd hf ?_)
    simp only [bne_self_eq_false, Bool.false_eq_true, if_false, Int.toNat_natCast, Array.getElem?_eq_getElem hpi]
    refine wpAny_pure ?_
    have er : r.getD i (0, .none) = es[ps[i]] := by rw [hr, List.getD_eq_getElem?_getD, List.getElem?_map, List.getElem?_eq_getElem hip]; simp [Array.getD, hpi]
    rw [er] at h
    exact si_move1 e rfl fun h' sb e' => ⟨_, rfl, wpAny_pure (h h' sb (.drawn ps hp hr e' ((sb.2 _ htp).trans et)))⟩

/-- no more of the set -/
theorem next_end {Q : Option Value → Shared → Prop} (hh : A.handled = none) (ho : s.heap.get? S = some o) (hd : o.data = .set es ep t) (hf : t.fits es.size = true) (ht : TabI (!byText w) t) (x : SW w S I tp es ep t r es.size s.heap)
    (h : ∀ h', Heap.ExtBut I s.heap h' → Q none { s with heap := h' }) : wpAny (model prog w) A (pyNext (.ref I)) Q E s := by
  obtain ⟨first, e0⟩ := x.itObj_at
  have hT : s.TypeIs (.ref I) "set_iterator" := ⟨_, e0, rfl⟩
  unfold pyNext
  refine wpAny_bind (wpAny_attempt (wpAny_callSpecial?_slot (name := Str.ofString "__next__") hT slot_si_next (wpAny_call_entry slot_si_next hT entry_si_next ?_ (args_si_next _))))
  unfold Builtin.«set_iterator.__next__»
  refine wpAny_bind (wpAny_pure ?_)
  cases x with
  | text hb hr e =>
    refine wpAny_bind (wpAny_fieldsOf e rfl ?_)
    dsimp only
    refine wpAny_bind (wpAny_setEntries_of ho hd hf ?_)
    rw [if_neg (by simp)]
    refine wpAny_bind (text_next (slot := 0) ho hd hf hb ?_)
    have hl : (pickOrder (w.params.setOrder S ep) es).size = es.size := by rw [← Array.length_toList, (pick_perm _ _).length_eq, Array.length_toList]
    simp only [Int.toNat_natCast, Array.getElem?_eq_none (Nat.le_of_eq hl), Option.map_none]
    exact si_stop hh e rfl h
  | plain hb hd' hr e =>
    refine wpAny_bind (wpAny_fieldsOf e rfl ?_)
    dsimp only
    refine wpAny_bind (wpAny_setEntries_of ho hd hf ?_)
    rw [if_neg (by simp)]
    simp only [Int.toNat_natCast]
    refine wpAny_bind (plain_next ho hd hf hb ht.led hd' ht.ris (Nat.le_refl _) ?_)
    rw [if_neg (Nat.lt_irrefl _)]
    exact si_stop hh e rfl h
  | drawn ps hp hr e et =>
    have hpl : ps.length = es.size := by rw [hp.length_eq, List.length_range]
    refine wpAny_bind (wpAny_fieldsOf e rfl ?_)
    dsimp only
    refine wpAny_bind (wpAny_setEntries_of ho hd hf ?_)
    rw [if_neg (by simp)]
    simp only [Int.toNat_natCast]
    refine wpAny_bind ?_
    unfold seqItems?
    refine wpAny_bind (wpAny_load et (wpAny_pure ?_))
    have eg : ((ps.map fun (i : Nat) => Value.int i 0).toArray)[es.size]? = none := by rw [List.getElem?_toArray, List.getElem?_eq_none (by rw [List.length_map]; (first | lia | omega))]
    dsimp only [tupObj]
    rw [eg]
    dsimp only
    refine wpAny_bind (wpAny_setField_rec e (by simp) fun h1 e1 s1 => ?_)
    exact si_stop (first := rawInt 0) (h := h1) hh e1 rfl fun h' x' => h h' fun b ob hb hob => x' b ob hb (s1.extBut b ob hb hob)
end
end Mine

namespace Mine
open PySem PySem.Calls PyProof.Rows PySem.SeqAt

section
variable {prog : Program} {w : World} {A : Around} {E : Value → Shared → Prop} {s : Shared} {S I tp : Addr} {es : Array (Int × Value)} {ep : Nat} {t : SetTable} {o : Obj} {r : List (Int × Value)} {i : Nat}

theorem SW.at {h h' : Heap} (x : SW w S I tp es ep t r i h) (kI : ∀ ob, h.get? I = some ob → h'.get? I = some ob) (kt : ∀ ob, h.get? tp = some ob → h'.get? tp = some ob) : SW w S I tp es ep t r i h' := by
  cases x with
  | text hb hr e => exact .text hb hr (kI _ e)
  | plain hb hd hr e => exact .plain hb hd hr (kI _ e)
  | drawn ps hp hr e et => exact .drawn ps hp hr (kI _ e) (kt _ et)
theorem walks_set (hh : A.handled = none) (hd : o.data = .set es ep t) (hf : t.fits es.size = true) (ht : TabI (!byText w) t) (hSI : S ≠ I) (htp : tp ≠ I) :
    Walks prog w A I [I, S, tp] [I] es.size (fun i v => v = (r.getD i (0, .none)).2) (fun i h => SW w S I tp es ep t r i h ∧ h.get? S = some o) where
  sub := fun b hb => by simp at hb; simp [hb]
  frame := fun i h h' st hk => ⟨st.1.at (fun ob e => hk I (by simp) ob e) (fun ob e => hk tp (by simp) ob e), hk S (by simp) o st.2⟩
  item := fun i s Q E hi st hQ => next_item st.2 hd hf ht hi htp st.1 fun h' sb x' => hQ _ h' s.toks rfl ⟨x', (sb.2 _ hSI).trans st.2⟩ fun b ob hb e => (sb.2 b fun q => hb (by simp [q])).trans e
  done := fun s Q E st hQ => next_end hh st.2 hd hf ht st.1 fun h' x' => hQ h' s.toks fun b ob hb e => x' b ob (fun q => hb (by simp [q])) e
  self := fun i s Q E st hQ => by
    obtain ⟨first, e⟩ := st.1.itObj_at
    have hT : s.TypeIs (.ref I) "set_iterator" := ⟨_, e, rfl⟩
    refine wpAny_pyIter_slot hT slot_si_iter (wpAny_call_entry slot_si_iter hT entry_si_iter ?_ (args_si_iter _))
    show wpAny _ _ (ret (.ref I)) _ _ s
    exact wpAny_pure ⟨_, rfl, "set_iterator", _, hT, slot_si_next.lookup, hQ⟩

/-- the items of a set, in some order -/
theorem collect_set {Q : List Value → Shared → Prop} (hh : A.handled = none) (ho : s.heap.get? S = some o) (hex : o.ExactSet) (hd : o.data = .set es ep t) (hf : t.fits es.size = true) (hsz : es.size < scanBound) (ht : TabI (!byText w) t)
    (h : ∀ vs s', vs.Perm (es.toList.map (·.2)) → (∀ b ob, s.heap.get? b = some ob → s'.heap.get? b = some ob) → s'.gens = s.gens → s'.os = s.os → Q vs s') : wpAny (model prog w) A (collect (.ref S)) Q E s := by
  have hT0 : s.TypeIs (.ref S) "set" := ⟨o, ho, hex.1⟩
  have hlt : S < s.heap.objs.size := Heap.lt_size ho
  unfold collect
  refine wpAny_bind (wpAny_runValue (codeAny_builtin F.entry_proto_collect ?_))
  rw [Around.under_plainId F.plain_proto_collect _]
  show wpAny _ A.in1 (newList [] >>= fun l => again (.builtin "list.__iadd__" ⟨[l, .ref S], []⟩)) _ _ s
  refine wpAny_bind (wpAny_newObj_type ?_)
  refine wpAny_pure ⟨plainId_quiet F.plain_list_iadd _, codeAny_builtin F.entry_list_iadd ?_⟩
  rw [Around.under_plainId F.plain_list_iadd _]
  show wpAny _ A.in1 (Builtin.List.listExtendWith (.ref s.heap.objs.size) (.ref S) (.ref s.heap.objs.size)) _ _ _
  unfold Builtin.List.listExtendWith
  have ho1 : (s.heap.push { cls := .type "list", data := .seq ([] : List Value).toArray }).get? S = some o := Heap.get?_push_of_some _ ho
  have hT1 : Shared.TypeIs { s with heap := s.heap.push { cls := .type "list", data := .seq ([] : List Value).toArray } } (.ref S) "set" := ⟨o, ho1, hex.1⟩
  refine wpAny_bind (wpAny_typeOf hT1 ?_)
  have h1 : Builtin.List.listSameRef (.ref s.heap.objs.size) (.ref S) = false := by simp [Builtin.List.listSameRef, Nat.ne_of_gt hlt]
  have h2 : (Value.type "set" == Value.type "list") = false := by decide
  have h3 : (Value.type "set" == Value.type "tuple") = false := by decide
  simp only [h1, h2, h3, Bool.or_false, Bool.false_eq_true, if_false]
  refine wpAny_bind (iter_set ho1 hex hd hf hsz fun I tp r s2 hI htp x k2 hg2 ho2 => ?_)
  have hoS2 := k2 _ _ ho1
  have hT2 : s2.TypeIs (.ref S) "set" := ⟨o, hoS2, hex.1⟩
  have hL : (s.heap.push { cls := .type "list", data := .seq ([] : List Value).toArray }).get? s.heap.objs.size = some { cls := .type "list", data := .seq ([] : List Value).toArray } := Heap.get?_push_size _ rfl
  have hSI : S ≠ I := fun e => by rw [← e, ho1] at hI; cases hI
  have hLI : s.heap.objs.size ≠ I := fun e => by rw [← e, hL] at hI; cases hI
  have htI : tp ≠ I := by
    rcases htp with rfl | ⟨_, q⟩
    · exact hSI
    · exact q
  have hLt : s.heap.objs.size ≠ tp := by
    rcases htp with rfl | ⟨q, _⟩
    · exact Nat.ne_of_gt hlt
    · exact fun e => by rw [← e, hL] at q; cases q
  refine wpAny_bind (wpAny_holding ?_)
  unfold Builtin.List.listLengthHint
  refine wpAny_bind (wpAny_specialOf hT2 F.slot_set_len.lookup ?_)
  dsimp only
  rw [show splitId "set.__len__" = some ("set", "__len__") by kernel_rfl]
  dsimp only
  refine wpAny_bind (wpAny_isInstance hT2 sub_set_self ?_)
  simp only [Bool.not_true, Bool.false_eq_true, if_false]
  rw [if_pos]
  rotate_left
  · kernel_rfl
  refine wpAny_bind (wpAny_typeOf hT2 ?_)
  dsimp only
  refine wpAny_pure ?_
  rw [if_pos]
  rotate_left
  · kernel_rfl
  refine wpAny_bind (wpAny_rule ?_)
  have hS1 := k2 _ _ hL
  refine wpAny_bind ?_
  show wpAny _ A.in1 (updateSeq s.heap.objs.size (·.push .none) >>= fun _ => updateSeq s.heap.objs.size (·.pop)) _ _ _
  refine wpAny_bind (wpAny_updateSeq hS1 rfl ?_)
  have hS2 := Heap.get?_update_self (Obj.mapSeq (·.push Value.none)) hS1 rfl
  refine wpAny_updateSeq hS2 rfl ?_
  have hS3 := Heap.get?_update_self (Obj.mapSeq (·.pop)) hS2 rfl
  have oth : ∀ b ob, b ≠ s.heap.objs.size → s2.heap.get? b = some ob → ((s2.heap.update s.heap.objs.size (Obj.mapSeq (·.push Value.none))).update s.heap.objs.size (Obj.mapSeq (·.pop))).get? b = some ob :=
    fun b ob hb e => (Heap.get?_update_other _ _ (Ne.symm hb)).trans ((Heap.get?_update_other _ _ (Ne.symm hb)).trans e)
  have W := (walks_set (prog := prog) (A := A.in1) (r := r) (o := o) (by simpa using hh) hd hf ht hSI htI).toS
  refine wpAny_pure ⟨plainId_quiet F.plain_extend_loop _, codeAny_extend_loopS W (fits_of_scanBound hsz) s.heap.objs.size (by simp [hLI, Nat.ne_of_gt hlt, hLt]) _ es.size 0 _ _ _ rfl (Nat.zero_le _)
    ⟨x.at (fun ob e => oth _ _ (Ne.symm hLI) e) (fun ob e => oth _ _ (Ne.symm hLt) e), oth _ _ (Nat.ne_of_lt hlt) hoS2⟩ hS3 (ItemsOf.nil _) fun s' acc' c' hm hS' hacc => ?_⟩
  show wpAny _ A (load s.heap.objs.size >>= _) _ _ s'
  refine wpAny_bind (wpAny_load hS' ?_)
  have hrl : r.length = es.size := by rw [x.perm.length_eq, Array.length_toList]
  have hacc' : acc'.toList = r.map (·.2) := by
    refine List.ext_getElem? fun j => ?_
    rw [Array.getElem?_toList, List.getElem?_map]
    by_cases hj : j < es.size
    · have hj' : j < acc'.size := by rw [hacc.1]; exact hj
      rw [Array.getElem?_eq_getElem hj', hacc.2 j _ (Array.getElem?_eq_getElem hj'), List.getD_eq_getElem?_getD, List.getElem?_eq_getElem (by (first | lia | omega))]; rfl
    · rw [Array.getElem?_eq_none (by rw [hacc.1]; (first | lia | omega)), List.getElem?_eq_none (by (first | lia | omega))]; rfl
  have keep : ∀ b ob, s.heap.get? b = some ob → s'.heap.get? b = some ob := fun b ob e => by
    have hb := Heap.lt_size e
    have e1 : (s.heap.push { cls := .type "list", data := .seq ([] : List Value).toArray }).get? b = some ob := Heap.get?_push_of_some _ e
    refine hm.heap b ob (fun q => ?_) (oth _ _ (Nat.ne_of_lt hb) (k2 _ _ e1))
    simp only [List.mem_cons, List.not_mem_nil, or_false] at q
    rcases q with q | q
    · exact absurd q (Nat.ne_of_lt hb)
    · rw [q, hI] at e1; cases e1
  exact wpAny_pure (h _ s' (by rw [hacc']; exact x.perm.map _) keep (hm.gens.trans hg2) (hm.os.trans ho2))
end
end Mine

namespace Mine
open PySem PySem.Calls PyProof.Rows PySem.SeqAt

section
variable {prog : Program} {w : World} {A : Around} {E : Value → Shared → Prop} {s : Shared} {a : Addr} {l : List Int}

theorem ints_map : ∀ (vs : List Value), (∀ v ∈ vs, ∃ i t, v = Value.int i t) → IntsAre vs (vs.map intOf)
  | [], _ => .nil
  | v :: vs, h => by
    obtain ⟨i, t, rfl⟩ := h v List.mem_cons_self
    exact .cons i t (ints_map vs fun v hv => h v (List.mem_cons_of_mem _ hv))
/-- what sorted makes: one new list; all else stays -/
inductive SortR (s : Shared) (l : List Int) (v : Value) (s' : Shared) : Prop
  | mk (D : Addr) (out : Array Value) (ns : List Int) (k : Nat) (hv : v = .ref D) (hD : s.heap.get? D = none) (hl : s'.heap.get? D = some (seqObj "list" out k)) (hi : IntsAre out.toList ns) (hp : ns.Perm l) (hs : ns.Pairwise (· ≤ ·))
    (kp : ∀ b ob, s.heap.get? b = some ob → s'.heap.get? b = some ob) (hg : s'.gens = s.gens) (ho : s'.os = s.os) : SortR s l v s'
theorem sorted_set {Q : Value → Shared → Prop} (hh : A.handled = none) (S : SetI s.heap a (!byText w) l) (hl : l.length < 64) (h : ∀ v s', SortR s l v s' → Q v s') : wpAny (model prog w) A (call (.builtin "sorted") [.ref a]) Q E s := by
  obtain ⟨o, es, ep, t, ho, hex, hd, hel, hp, hb, hf, ht⟩ := S
  refine Calls.call_function_entry kind_sorted plain_sorted entry_sorted (args_sorted1 _) ?_
  unfold Builtin.«sorted»
  refine wpAny_bind (m := checkCount "sorted" 1 1 _) (wpAny_pure ?_)
  refine wpAny_bind (collect_set (by simpa using hh) ho hex hd hf hb ht fun vs s1 hvs k1 hg1 ho1 => ?_)
  have hlen : vs.length = l.length := by rw [hvs.length_eq, List.length_map, ← hp.length_eq, List.length_map]
  have hI : IntsAre vs (vs.map intOf) := ints_map vs fun v hv => by
    obtain ⟨e, he, rfl⟩ := List.mem_map.mp (hvs.mem_iff.mp hv)
    obtain ⟨i, tk, rfl⟩ := hel e he
    exact ⟨i, tk, rfl⟩
  have hpl : (vs.map intOf).Perm l := by
    refine (hvs.map intOf).trans ?_
    rw [List.map_map]
    exact hp
  refine wpAny_bind (wpAny_newList ?_ (by rw [hlen, sizeLine_eq]; (first | lia | omega)))
  have hoL : (s1.heap.push (seqObj "list" vs.toArray 0)).get? s1.heap.objs.size = some (seqObj "list" vs.toArray 0) := Heap.get?_push_size _ rfl
  show wpAny _ _ _ _ _ { s1 with heap := s1.heap.push (seqObj "list" vs.toArray 0) }
  refine wpAny_bind (wpAny_holding (wpAny_call_entry slot_list_sort ⟨_, hoL, rfl⟩ entry_list_sort (list_sort_tree hoL hI (by (first | lia | omega)) fun out ns' a1 a2 a3 => ⟨_, rfl, ?_⟩) (args_list_sort _)))
  obtain ⟨k, hk⟩ := sortedHeap_at (out := out) hoL
  have keep : ∀ b ob, s.heap.get? b = some ob → (sortedHeap (s1.heap.push (seqObj "list" vs.toArray 0)) s1.heap.objs.size vs out).get? b = some ob := fun b ob e => by
    have e1 := k1 b ob e
    have hlt := Heap.lt_size e1
    rw [sortedHeap_old (Nat.ne_of_lt hlt) (by rw [Heap.size_push]; exact Nat.lt_succ_of_lt hlt)]
    exact Heap.get?_push_of_some _ e1
  refine wpAny_pure ⟨_, rfl, h _ _ ⟨_, out, ns', k, rfl, ?_, hk, a1, a2.trans hpl, a3, keep, hg1, ho1⟩⟩
  cases e : s.heap.get? s1.heap.objs.size with
  | none => rfl
  | some ob => exact absurd (Heap.lt_size (k1 _ _ e)) (Nat.lt_irrefl _)
end
end Mine

namespace Mine
open PySem PySem.Calls PyProof.Rows PySem.SeqAt

theorem nodup_strict {l : List Int} (h1 : l.Pairwise (· ≤ ·)) (h2 : l.Nodup) : l.Pairwise (· < ·) := (h1.and h2).imp fun q => by (first | lia | omega)
theorem sset_same {is ns : List Int} {n : Nat} (hn : n = is.length) (hp : ns.Perm (ddL (fun i => is.getD i 0) n)) (hs : ns.Pairwise (· ≤ ·)) : ns = dedupSorted (sortI is) := by
  obtain ⟨d1, d2⟩ := dedup_spec (pw_sortI is)
  refine strict_same (nodup_strict hs (hp.nodup_iff.mpr (ddL_nodup _ _))) d1 fun x => ?_
  rw [hp.mem_iff, ddL_mem, d2, mem_sortI]
  subst hn
  constructor
  · rintro ⟨j, hj, rfl⟩
    rw [List.getD_eq_getElem?_getD, List.getElem?_eq_getElem hj]
    exact List.getElem_mem ..
  · intro h
    obtain ⟨j, hj⟩ := List.mem_iff_getElem?.mp h
    exact ⟨j, (List.getElem?_eq_some_iff.mp hj).1, by rw [List.getD_eq_getElem?_getD, hj]; rfl⟩

section
variable {C : Cx} {T : Tab} {n b : Nat} {Γ : List Str} {S : Scope} {strF : PyData → Option Str}
theorem EvOk.sset {f g : Str} {x : Expr} {np gp p2 pos : Pos} {d d1 : AEnv → AHeap → Res AV} (hf : f = ("sorted" : Str)) (hg : g = ("set" : Str)) (hgf : isGlob S f = true) (hgg : isGlob S g = true) (hn : notStar x = true) (h1 : EvOk C T n b Γ S x d1)
    (hd : ∀ ρ H, d ρ H = (d1 ρ H).get fun w H => prim strF C.sc .sortedSet [w] H) : EvOk C T n b Γ S (.Call (.Name f np) [.Call (.Name g gp) [x] [] p2] [] pos) d := by
  subst hf; subst hg
  refine ⟨?_⟩
  intro base env ρ μ H H' s A E Q v' G hS st a ed k
  rw [hd] at ed
  obtain ⟨w, H1, e1, ed⟩ := Res.get_ok ed
  cases w with
  | ref r =>
    have ed : (match H1[r]? with
      | some (.list xs) => if xs.length < 64 then (match intsOf xs with
          | some is => alloc ((dedupSorted (sortI is)).map .int) H1
          | none => .bad) else .bad
      | _ => .bad) = .ok v' H' := ed
    split at ed
    · rename_i xs ex
      split at ed
      · rename_i h64
        split at ed
        · rename_i is ei
          obtain ⟨hz, rfl, rfl⟩ := alloc_ok ed
          refine wpAny_Call_ofName (builtin_ok G hS st hgf rfl ?_)
          refine callWith_builtin (noStars rfl) (args_ok rfl (wpAny_items_cons ?_ (starEach_cons rfl)))
          refine wpAny_Call_ofName (builtin_ok G hS st hgg rfl ?_)
          refine PySem.callWith_type (noStars (by simp only [List.all_cons, hn]; rfl)) (args_ok hn (wpAny_items_cons (h1.ok G hS st a e1 fun u s' μ' X S' V => wpAny_items_nil ?_) (starEach_cons hn)))
          obtain ⟨c, rfl, ec⟩ := V.isRef
          obtain ⟨hzx, a', vs, ea', p1, q1⟩ := S'.hp.list ex
          rw [ec] at ea'; cases ea'
          have hi := ints_are ei q1
          have hvl : vs.length < 64 := by rw [← q1.length]; exact h64
          have hil : vs.length = is.length := hi.length
          refine set_listI a.handled (IsList.of_plain p1) hi (by rw [List.size_toArray]; exact Nat.lt_trans (Nat.succ_lt_succ hvl) (by decide)) fun h2 tk2 SI k2 => ?_
          refine wpAny_items_nil ?_
          rw [List.size_toArray] at SI
          refine sorted_set (s := { s' with heap := h2, toks := tk2 }) a.handled SI (Nat.lt_of_le_of_lt (ddL_length _ _) hvl) fun v2 s2 R => ?_
          obtain ⟨D, out, ns, kk, rfl, hD, hl, hi2, hp2, hs2, kp, hg2, ho2⟩ := R
          have hns := sset_same hil hp2 hs2
          subst hns
          have keep : ∀ {b : Addr} {ob : Obj}, s'.heap.get? b = some ob → s2.heap.get? b = some ob := fun e => kp _ _ (k2 _ _ e)
          have hD' : s'.heap.get? D = none := by
            cases e : s'.heap.get? D with
            | none => rfl
            | some ob => rw [show ({ s' with heap := h2, toks := tk2 } : Shared).heap = h2 from rfl, k2 _ _ e] at hD; cases hD
          have S2 := S'.grow (s' := s2) keep hg2 ho2
          have T2 := S2.track (a := D) (vs := out.toList) ⟨kk, by simpa using hl⟩ (IntsAre_of hi2) (not_mem S' hD') (base_none S' hD') hz
          exact k _ _ _ (X.trans ((Ext.grow keep).trackX hD')) T2 (.ref (by rw [← S'.hp.len]; simp))
        · cases ed
      · cases ed
    · cases ed
  | _ => exact bad_ok (v := v') (H' := H') ed
end
end Mine

namespace Mine
open PySem PySem.Calls PyProof.Rows PySem.SeqAt

theorem scopeOk_ok {scope S : Scope} {Γ xs : List Str} (h : scopeOk scope S Γ xs = true) : ScOk scope S Γ xs := by
  unfold scopeOk at h
  simp only [Bool.and_eq_true, beq_iff_eq, List.all_eq_true] at h
  obtain ⟨⟨h1, h2⟩, h3⟩ := h
  refine ⟨h1, fun x hx e => ?_, fun x hx e => ?_, fun x hx e => ?_, fun x hx e => ?_, h3⟩
  · have := (h2 x hx).1.1.1; rw [e] at this; simpa using this
  · have := (h2 x hx).1.1.2; rw [e] at this; simpa using this
  · have := (h2 x hx).1.2; rw [e] at this; simpa using this
  · have := (h2 x hx).2
    rcases e with e | e <;> rw [e] at this <;> simp at this <;> rcases this with q | q
    · exact .inl q
    · exact .inr q
    · exact .inl q
    · exact .inr q

theorem plainBase_ok {o : Expr} {m : Str} (h : plainBase o = true) : ∀ env, attributeBase o m env (eval o env) = eval o env := by
  cases o <;> first | (intro env; rfl) | cases h
theorem get_get {α β γ : Type} {r : Res α} {f : α → AHeap → Res β} {g : β → AHeap → Res γ} : (r.get f).get g = r.get fun v H => (f v H).get g := by
  cases r <;> rfl
inductive PrimC (T : Tab) (Γ : List Str) (S : Scope) (es : PEs) : Prim → Expr → Prop
  | lr {f : Str} {np : Pos} {g : Str} {gp : Pos} {args : List Expr} {p2 pos : Pos} : f = ("list" : Str) → isGlob S f = true → g = ("range" : Str) → isGlob S g = true → chkEs T Γ S es args = true → PrimC T Γ S es .listRange (.Call (.Name f np) [.Call (.Name g gp) args [] p2] [] pos)
  | fn {p : Prim} {f : Str} {np : Pos} {args : List Expr} {pos : Pos} : okPrim p = true → isGlob S f = true → primName p = some f → chkEs T Γ S es args = true → PrimC T Γ S es p (.Call (.Name f np) args [] pos)
  | ty {p : Prim} {f : Str} {np : Pos} {a : Expr} {g : Str} {gp pos : Pos} : okPrim p = true → isGlob S f = true → f = ("isinstance" : Str) → typeName p = some g → isGlob S g = true → chkEs T Γ S es [a] = true → PrimC T Γ S es p (.Call (.Name f np) [a, .Name g gp] [] pos)
theorem prim_cases {T : Tab} {Γ : List Str} {S : Scope} {p : Prim} {es : PEs} {e : Expr} (h : chkE T Γ S (.prim p es) e = true) : PrimC T Γ S es p e := by
  obtain ⟨f, np, args, pos, rfl, hk⟩ := dCallN_eq h
  clear h
  have h := hk
  have h : cond (isLR p)
      (opt (one1 args) fun a => dCallN a fun g as => f == ("list" : Str) && (isGlob S f && (g == ("range" : Str) && (isGlob S g && chkEs T Γ S es as))))
      (okPrim p && (isGlob S f && (match typeName p with
        | some t => f == ("isinstance" : Str) && opt (two2 args) fun a => opt (dName a.2) fun g => t == g.1 && (isGlob S g.1 && chkEs T Γ S es [a.1])
        | none => primName p == some f && chkEs T Γ S es args))) = true := h
  cases hp : isLR p with
  | true =>
    rw [hp] at h
    obtain ⟨a, ha, h⟩ := opt_eq h
    obtain ⟨g, gp, as, p2, rfl, hk⟩ := dCallN_eq h
    clear h
    have h := hk
    obtain ⟨h1, h⟩ := and_tt h
    obtain ⟨h2, h⟩ := and_tt h
    obtain ⟨h3, h⟩ := and_tt h
    obtain ⟨h4, h5⟩ := and_tt h
    have q : args = _ := one1_eq ha
    subst q
    cases isLR_eq hp
    exact .lr (eq_tt h1) h2 (eq_tt h3) h4 h5
  | false =>
    rw [hp] at h
    obtain ⟨h1, h⟩ := and_tt h
    obtain ⟨h2, h⟩ := and_tt h
    cases q : typeName p with
    | none =>
      rw [q] at h
      obtain ⟨h3, h4⟩ := and_tt h
      exact .fn h1 h2 (eq_tt h3) h4
    | some t =>
      rw [q] at h
      obtain ⟨h3, h⟩ := and_tt h
      obtain ⟨a, ha, h⟩ := opt_eq h
      obtain ⟨g, hg, h⟩ := opt_eq h
      obtain ⟨h4, h⟩ := and_tt h
      obtain ⟨h5, h6⟩ := and_tt h
      have q2 : args = _ := two2_eq ha
      subst q2
      rw [dName_eq hg]
      exact .ty h1 h2 (eq_tt h3) (by rw [q, eq_tt h4]) h5 h6

section
variable {C : Cx} {T : Tab} {n : Nat} {cf : Nat → List AV → AHeap → Res AV} {strF : PyData → Option Str}

theorem TrOk.bad {C : Cx} {b : Nat} {Γ : List Str} {S : Scope} {e : Expr} {d : AEnv → AHeap → Res Bool} (hd : ∀ ρ H, d ρ H = .bad) : TrOk C T n b Γ S e d := by
  refine ⟨?_⟩
  intro base env ρ μ H H' s A E Q v G hS st a ed k
  rw [hd] at ed; cases ed

theorem not_tt {a : Bool} (h : (!a) = true) : a = false := by
  cases a
  · rfl
  · cases h
theorem chkEs_cons {Γ : List Str} {S : Scope} {a : PE} {as : PEs} {vs : List Expr} (h : chkEs T Γ S (.cons a as) vs = true) : ∃ e r, vs = e :: r ∧ notStar e = true ∧ chkE T Γ S a e = true ∧ chkEs T Γ S as r = true := by
  cases vs with
  | nil => cases h
  | cons e r =>
    obtain ⟨h1, h⟩ := and_tt h
    obtain ⟨h2, h3⟩ := and_tt h
    exact ⟨e, r, rfl, h1, h2, h3⟩
theorem chkEs_nil {Γ : List Str} {S : Scope} {vs : List Expr} (h : chkEs T Γ S .nil vs = true) : vs = [] := nilO_eq h
theorem chkEs_stars {Γ : List Str} {S : Scope} : ∀ (es : PEs) (vs : List Expr), chkEs T Γ S es vs = true → vs.all notStar = true
  | .nil, vs, h => by rw [chkEs_nil h]; rfl
  | .cons a as, vs, h => by
    obtain ⟨e, r, rfl, h1, h2, h3⟩ := chkEs_cons h
    rw [List.all_cons, h1, chkEs_stars as r h3]; rfl
theorem chkEs_some {Γ : List Str} {S : Scope} {es : PEs} {vs : List Expr} (h : chkEs T Γ S es vs = true) (hs : someArgs es = true) : ∃ e r, vs = e :: r := by
  cases es with
  | nil => cases hs
  | cons a as => obtain ⟨e, r, rfl, _⟩ := chkEs_cons h; exact ⟨e, r, rfl⟩
theorem chk_cmp {Γ : List Str} {S : Scope} {op : CmpOp} {a b : PE} {e : Expr} (h : chkE T Γ S (.cmp op a b) e = true) : ∃ l r p, e = .Compare l [op] [r] p ∧ notSet r = true ∧ chkE T Γ S a l = true ∧ chkE T Γ S b r = true := by
  obtain ⟨x, hx, h⟩ := opt_eq h
  obtain ⟨o, ho, h⟩ := opt_eq h
  obtain ⟨r, hr, h⟩ := opt_eq h
  obtain ⟨h1, h⟩ := and_tt h
  obtain ⟨h2, h⟩ := and_tt h
  obtain ⟨h3, h4⟩ := and_tt h
  exact ⟨_, _, _, by rw [dCmp_eq hx, one1_eq ho, one1_eq hr, eq_tt h1], h2, h3, h4⟩
theorem chk_cmp2 {Γ : List Str} {S : Scope} {o1 o2 : CmpOp} {a b c : PE} {e : Expr} (h : chkE T Γ S (.cmp2 o1 o2 a b c) e = true) : ∃ l r1 r2 p, e = .Compare l [o1, o2] [r1, r2] p ∧ notSet r2 = true ∧ chkE T Γ S a l = true ∧ chkE T Γ S b r1 = true ∧ chkE T Γ S c r2 = true := by
  obtain ⟨x, hx, h⟩ := opt_eq h
  obtain ⟨o, ho, h⟩ := opt_eq h
  obtain ⟨r, hr, h⟩ := opt_eq h
  obtain ⟨h1, h⟩ := and_tt h
  obtain ⟨h2, h⟩ := and_tt h
  obtain ⟨h3, h⟩ := and_tt h
  obtain ⟨h4, h⟩ := and_tt h
  obtain ⟨h5, h6⟩ := and_tt h
  exact ⟨_, _, _, _, by rw [dCmp_eq hx, two2_eq ho, two2_eq hr, eq_tt h1, eq_tt h2], h3, h4, h5, h6⟩
theorem chk_bool {Γ : List Str} {S : Scope} {o : BoolOp} {es : PEs} {e : Expr} (h : (opt (dBool e) fun x => o == x.1 && chkEs T Γ S es x.2.1) = true) : ∃ vs p, e = .BoolOp o vs p ∧ chkEs T Γ S es vs = true := by
  obtain ⟨x, hx, h⟩ := opt_eq h
  obtain ⟨h1, h2⟩ := and_tt h
  exact ⟨_, _, by rw [dBool_eq hx, eq_tt h1], h2⟩
theorem chk_un {Γ : List Str} {S : Scope} {o : UnaryOp} {a : PE} {e : Expr} (h : (opt (dUn e) fun x => o == x.1 && chkE T Γ S a x.2.1) = true) : ∃ v p, e = .UnaryOp o v p ∧ chkE T Γ S a v = true := by
  obtain ⟨x, hx, h⟩ := opt_eq h
  obtain ⟨h1, h2⟩ := and_tt h
  exact ⟨_, _, by rw [dUn_eq hx, eq_tt h1], h2⟩
theorem chk_call {Γ : List Str} {S : Scope} {k : Nat} {es : PEs} {e : Expr} (h : chkE T Γ S (.call k es) e = true) : ∃ f np e' r pos, e = .Call (.Name f np) (e' :: r) [] pos ∧ T.fns.lookup k = some f ∧ isGlob S f = true ∧ chkEs T Γ S es (e' :: r) = true := by
  obtain ⟨f, np, args, pos, rfl, hk⟩ := dCallN_eq h
  clear h
  have h := hk
  obtain ⟨h1, h⟩ := and_tt h
  obtain ⟨h2, h⟩ := and_tt h
  obtain ⟨h3, h4⟩ := and_tt h
  obtain ⟨e', r, rfl⟩ := chkEs_some h4 h3
  exact ⟨_, _, _, _, _, rfl, eq_tt h1, h2, h4⟩
inductive Comp1C (T : Tab) (Γ : List Str) (S : Scope) (el : PE) (it : It) (c : PEo) : Expr → Prop
  | mk {el' : Expr} {x : Str} {px : Pos} {iter : Expr} {ifs : List Expr} {scope : Scope} {p : Pos} : scopeOk scope S Γ [x] = true → notZip it = true → notSet iter = true → chkI T Γ S it iter = true → chkC T (x :: Γ) (relab scope S) c ifs = true → chkE T (x :: Γ) (relab scope S) el el' = true → Comp1C T Γ S el it c (.ListComp el' [⟨.Name x px, iter, ifs, 0⟩] scope p)
inductive Comp2C (T : Tab) (Γ : List Str) (S : Scope) (el : PE) (it : It) : Expr → Prop
  | mk {el' : Expr} {x : Str} {px : Pos} {y : Str} {py : Pos} {k : Nat} {tp : Pos} {iter : Expr} {scope : Scope} {p : Pos} : scopeOk scope S Γ [x, y] = true → (x == y) = false → notSet iter = true → chkI T Γ S it iter = true → chkE T (x :: y :: Γ) (relab scope S) el el' = true → Comp2C T Γ S el it (.ListComp el' [⟨.Tuple [.Name x px, .Name y py] k tp, iter, [], 0⟩] scope p)
theorem chk_comp1 {Γ : List Str} {S : Scope} {el : PE} {it : It} {c : PEo} {e : Expr} (h : chkE T Γ S (.comp1 el it c) e = true) : Comp1C T Γ S el it c e := by
  obtain ⟨x, hx, h⟩ := opt_eq h
  obtain ⟨g, hg, h⟩ := opt_eq h
  obtain ⟨v, hv, h⟩ := opt_eq h
  obtain ⟨h1, h⟩ := and_tt h
  obtain ⟨h2, h⟩ := and_tt h
  obtain ⟨h3, h⟩ := and_tt h
  obtain ⟨h4, h⟩ := and_tt h
  obtain ⟨h5, h⟩ := and_tt h
  obtain ⟨h6, h7⟩ := and_tt h
  have e1 : e = .ListComp x.1 [⟨.Name v.1 v.2, g.iter, g.ifs, 0⟩] x.2.2.1 x.2.2.2 := by
    rw [← dName_eq hv, ← eq_tt h1]
    exact (dComp_eq hx).trans (by rw [one1_eq hg]; cases g; rfl)
  rw [e1]
  exact .mk h2 h3 h4 h5 h6 h7
theorem chk_comp2 {Γ : List Str} {S : Scope} {el : PE} {it : It} {e : Expr} (h : chkE T Γ S (.comp2 el it) e = true) : Comp2C T Γ S el it e := by
  obtain ⟨x, hx, h⟩ := opt_eq h
  obtain ⟨g, hg, h⟩ := opt_eq h
  obtain ⟨ts, hts, h⟩ := opt_eq h
  obtain ⟨t, ht, h⟩ := opt_eq h
  obtain ⟨v, hv, h⟩ := opt_eq h
  obtain ⟨w, hw, h⟩ := opt_eq h
  obtain ⟨h1, h⟩ := and_tt h
  obtain ⟨h0, h⟩ := and_tt h
  obtain ⟨h2, h⟩ := and_tt h
  obtain ⟨h3, h⟩ := and_tt h
  obtain ⟨h4, h⟩ := and_tt h
  obtain ⟨h5, h6⟩ := and_tt h
  have e1 : e = .ListComp x.1 [⟨.Tuple [.Name v.1 v.2, .Name w.1 w.2] ts.2.1 ts.2.2, g.iter, [], 0⟩] x.2.2.1 x.2.2.2 := by
    rw [← dName_eq hv, ← dName_eq hw, ← two2_eq ht, ← dTup_eq hts, ← eq_tt h1, ← nilO_eq h0]
    exact (dComp_eq hx).trans (by rw [one1_eq hg]; cases g; rfl)
  rw [e1]
  exact .mk h2 (not_tt h3) h4 h5 h6

theorem prim_true {Γ : List Str} {S : Scope} {p : Prim} {es : PEs} {e : Expr} (h : chkE T Γ S (.prim p es) e = true) (env : Env) (whole : _) : isTrue e env whole = (do let v ← whole; standAt e.pos; holding [v] (truthy v)) := by
  obtain ⟨f, np, args, pos, rfl, _⟩ := dCallN_eq h
  rfl
theorem prim0 {b : Nat} {Γ : List Str} {S : Scope} {p : Prim} {e : Expr} {z : Addr → Prop} (h : chkE T Γ S (.prim p .nil) e = true) : EvOk (C.withZ z) T n b Γ S e (denE strF cf C.sc b (.prim p .nil)) := by
  refine ⟨?_⟩
  intro base env ρ μ H H' s A E Q v' G hS st a ed k
  cases p <;> exact bad_ok (v := v') (H' := H') ed
theorem prim2 {b : Nat} {Γ : List Str} {S : Scope} {p : Prim} {e : Expr} {z : Addr → Prop} {x y : PE} {r : PEs} (h : chkE T Γ S (.prim p (.cons x (.cons y r))) e = true) (es : ∀ vs, chkEs T Γ S (.cons x (.cons y r)) vs = true → EsOk (C.withZ z) T n b Γ S vs (denEs strF cf C.sc b (.cons x (.cons y r)))) :
    EvOk (C.withZ z) T n b Γ S e (denE strF cf C.sc b (.prim p (.cons x (.cons y r)))) := by
  rcases prim_cases h with ⟨h1, h2, h3, h4, h5⟩ | ⟨h1, h2, h3, h4⟩ | ⟨h1, h2, h3, h4, h5, h6⟩
  · refine ⟨?_⟩
    intro base env ρ μ H H' s A E Q v' G hS st a ed k
    obtain ⟨vs, H1, e1, ed⟩ := Res.get_ok ed
    obtain ⟨v1, H2, e2, e1⟩ := Res.thn_ok e1
    obtain ⟨vs2, H3, e3, e1⟩ := Res.thn_ok e1
    obtain ⟨v3, H4, e4, e3⟩ := Res.thn_ok e3
    obtain ⟨vs4, H5, e5, e3⟩ := Res.thn_ok e3
    cases e3; cases e1
    cases v1 <;> exact bad_ok (v := v') (H' := H') ed
  · obtain ⟨e', r', rfl⟩ := chkEs_some h4 rfl
    exact .primCall (strF := strF) h3 h1 h2 (chkEs_stars _ _ h4) (es _ h4) fun ρ H => rfl
  · obtain ⟨_, _, q, g1, g2, g3⟩ := chkEs_cons h6
    cases q
    obtain ⟨_, _, q, _⟩ := chkEs_cons g3
    cases q
theorem prim1 {b : Nat} {Γ : List Str} {S : Scope} {p : Prim} {e : Expr} {z : Addr → Prop} {x : PE} (h : chkE T Γ S (.prim p (.cons x .nil)) e = true) (ev : ∀ e, chkE T Γ S x e = true → EvOk (C.withZ z) T n b Γ S e (denE strF cf C.sc b x)) (es : ∀ vs, chkEs T Γ S (.cons x .nil) vs = true → EsOk (C.withZ z) T n b Γ S vs (denEs strF cf C.sc b (.cons x .nil))) :
    EvOk (C.withZ z) T n b Γ S e (denE strF cf C.sc b (.prim p (.cons x .nil))) := by
  rcases prim_cases h with ⟨h1, h2, h3, h4, h5⟩ | ⟨h1, h2, h3, h4⟩ | ⟨h1, h2, h3, h4, h5, h6⟩
  · obtain ⟨a, r, rfl, g1, g2, g3⟩ := chkEs_cons h5
    cases chkEs_nil g3
    exact .listRange (strF := strF) h1 h3 h2 h4 g1 (ev _ g2) fun ρ H => one_get
  · obtain ⟨e', r', rfl⟩ := chkEs_some h4 rfl
    exact .primCall (strF := strF) h3 h1 h2 (chkEs_stars _ _ h4) (es _ h4) fun ρ H => rfl
  · obtain ⟨_, _, q, g1, g2, g3⟩ := chkEs_cons h6
    cases q
    exact .isCall (strF := strF) h4 h1 h3 h2 h5 g1 (ev _ g2) fun ρ H => one_get

variable (hcf : ∀ z, CallOk (C.withZ z) T n cf) (hfn : ∀ k, ∃ x, T.fns.lookup k = some x ∨ ∀ vs H, cf k vs H = .bad)
include hcf hfn

mutual
theorem evD (b : Nat) : ∀ (pe : PE) (Γ : List Str) (S : Scope) (e : Expr), chkE T Γ S pe e = true → ∀ z, EvOk (C.withZ z) T n b Γ S e (denE strF cf C.sc b pe)
  | .none, Γ, S, e, h, z => by
    obtain ⟨c, hc, h⟩ := opt_eq h
    obtain ⟨d, hd, _⟩ := opt_eq h
    rw [dConst_eq hc, cNone_eq hd]
    exact .cNone fun ρ H => rfl
  | .bool v, Γ, S, e, h, z => by
    obtain ⟨c, hc, h⟩ := opt_eq h
    obtain ⟨d, hd, h⟩ := opt_eq h
    rw [dConst_eq hc, cBool_eq hd, ← eq_tt h]
    exact .cBool fun ρ H => rfl
  | .int i, Γ, S, e, h, z => by
    obtain ⟨c, hc, h⟩ := opt_eq h
    obtain ⟨d, hd, h⟩ := opt_eq h
    rw [dConst_eq hc, cInt_eq hd, ← eq_tt h]
    exact .cInt fun ρ H => rfl
  | .str x, Γ, S, e, h, z => by cases h
  | .var i, Γ, S, e, h, z => by
    obtain ⟨x, hx, h⟩ := opt_eq h
    obtain ⟨h1, h2⟩ := and_tt h
    rw [dName_eq hx]
    exact .var (eq_tt h1) h2 fun ρ H => rfl
  | .gfn k, Γ, S, e, h, z => by cases h
  | .gint k i, Γ, S, e, h, z => by
    obtain ⟨x, hx, h⟩ := opt_eq h
    obtain ⟨h1, h2⟩ := and_tt h
    rw [dName_eq hx]
    exact .gint (eq_tt h1) h2 fun ρ H => rfl
  | .bin op x y, Γ, S, e, h, z => by
    obtain ⟨w, hw, h⟩ := opt_eq h
    obtain ⟨h1, h⟩ := and_tt h
    obtain ⟨h2, h3⟩ := and_tt h
    rw [dBin_eq hw, ← eq_tt h1]
    exact .bin (evD b x Γ S _ h2 z) (evD b y Γ S _ h3 z) fun ρ H => rfl
  | .neg x, Γ, S, e, h, z => by cases h
  | .not x, Γ, S, e, h, z => by
    obtain ⟨v, p, rfl, h⟩ := chk_un h
    exact .not (evD b x Γ S _ h z) fun ρ H => rfl
  | .cmp op x y, Γ, S, e, h, z => by
    obtain ⟨l, r, p, rfl, h1, h2, h3⟩ := chk_cmp h
    exact .cmp h1 (evD b x Γ S _ h2 z) (evD b y Γ S _ h3 z) fun ρ H => rfl
  | .cmp2 o1 o2 x y w, Γ, S, e, h, z => by
    obtain ⟨l, r1, r2, p, rfl, h3, h4, h5, h6⟩ := chk_cmp2 h
    exact .cmp2 h3 (evD b x Γ S _ h4 z) (evD b y Γ S _ h5 z) (evD b w Γ S _ h6 z) fun ρ H => rfl
  | .and es, Γ, S, e, h, z => by
    obtain ⟨vs, p, rfl, h⟩ := chk_bool h
    exact .boolOp (andD b es Γ S _ h z)
  | .or es, Γ, S, e, h, z => by
    obtain ⟨vs, p, rfl, h⟩ := chk_bool h
    exact .boolOp (orD b es Γ S _ h z)
  | .ite c x y, Γ, S, e, h, z => by
    obtain ⟨w, hw, h⟩ := opt_eq h
    obtain ⟨h1, h⟩ := and_tt h
    obtain ⟨h2, h3⟩ := and_tt h
    rw [dIfe_eq hw]
    exact .ite (trD b c Γ S _ h1 z) (evD b x Γ S _ h2 z) (evD b y Γ S _ h3 z) fun ρ H => rfl
  | .call k es, Γ, S, e, h, z => by
    obtain ⟨f, np, e', r, pos, rfl, h1, h2, h4⟩ := chk_call h
    exact .userCall (hcf z) h1 h2 (chkEs_stars es _ h4) (esD b es Γ S _ h4 z) fun ρ H => rfl
  | .callv f es, Γ, S, e, h, z => by cases h
  | .prim p .nil, Γ, S, e, h, z => prim0 h
  | .prim p (.cons x .nil), Γ, S, e, h, z => prim1 h (fun e h => evD b x Γ S e h z) (fun vs h => esD b (.cons x .nil) Γ S vs h z)
  | .prim p (.cons x (.cons y r)), Γ, S, e, h, z => prim2 h (fun vs h => esD b (.cons x (.cons y r)) Γ S vs h z)
  | .idx x i, Γ, S, e, h, z => by
    obtain ⟨w, hw, h⟩ := opt_eq h
    obtain ⟨h1, h⟩ := and_tt h
    obtain ⟨h2, h3⟩ := and_tt h
    rw [dSub_eq hw]
    exact .idx h1 (evD b x Γ S _ h2 z) (evD b i Γ S _ h3 z) fun ρ H => rfl
  | .slice x lo hi, Γ, S, e, h, z => by
    obtain ⟨w, hw, h⟩ := opt_eq h
    obtain ⟨y, hy, h⟩ := opt_eq h
    obtain ⟨h1, h⟩ := and_tt h
    obtain ⟨h2, h⟩ := and_tt h
    obtain ⟨h3, h4⟩ := and_tt h
    rw [dSub_eq hw, dSl_eq hy, Option.isNone_iff_eq_none.mp h1]
    exact .slice (evD b x Γ S _ h2 z) (optD b lo Γ S _ h3 z) (optD b hi Γ S _ h4 z) fun ρ H => rfl
  | .rev x, Γ, S, e, h, z => by cases h
  | .list es, Γ, S, e, h, z => by
    obtain ⟨w, hw, h⟩ := opt_eq h
    rw [dList_eq hw]
    exact .mkList (esD b es Γ S _ h z) fun ρ H => rfl
  | .tuple es, Γ, S, e, h, z => by
    obtain ⟨w, hw, h⟩ := opt_eq h
    rw [dTup_eq hw]
    exact .mkTuple (esD b es Γ S _ h z) fun ρ H => rfl
  | .dict, Γ, S, e, h, z => by cases h
  | .comp1 el it c, Γ, S, e, h, z => by
    obtain ⟨h1, h2, h3, h4, h5, h6⟩ := chk_comp1 h
    exact .comp1 (scopeOk_ok h1) h3 (by have := itD b it Γ S _ h4 z; rwa [h2] at this) (fun z' => coD b c _ _ _ h5 z') (fun z' => evD b el _ _ _ h6 z') fun ρ H => rfl
  | .comp2 el it, Γ, S, e, h, z => by
    obtain ⟨h1, h2, h3, h4, h6⟩ := chk_comp2 h
    exact .comp2 (scopeOk_ok h1) h2 h3 (itD b it Γ S _ h4 z) (fun z' => evD b el _ _ _ h6 z') fun ρ H => rfl
  | .append x y, Γ, S, e, h, z => by
    obtain ⟨f, as, p, rfl, hk⟩ := dCall_eq h
    clear h
    have h := hk
    obtain ⟨t, ht, h⟩ := opt_eq h
    obtain ⟨v, hv, h⟩ := opt_eq h
    obtain ⟨h1, h⟩ := and_tt h
    obtain ⟨h2, h⟩ := and_tt h
    obtain ⟨h3, h⟩ := and_tt h
    obtain ⟨h4, h⟩ := and_tt h
    obtain ⟨h5, h6⟩ := and_tt h
    have q1 : f = _ := dAttr_eq ht
    have q2 : as = _ := one1_eq hv
    subst q1; subst q2
    rw [eq_tt h1]
    exact .append (plainBase_ok h3) h4 h2 (evD b x Γ S _ h5 z) (evD b y Γ S _ h6 z) fun ρ H => rfl
  | .count x y, Γ, S, e, h, z => by cases h
  | .sset x, Γ, S, e, h, z => by
    obtain ⟨f, np, args, pos, rfl, h⟩ := dCallN_eq h
    obtain ⟨y, hy, h⟩ := opt_eq h
    obtain ⟨g, gp, as, p2, rfl, h⟩ := dCallN_eq h
    obtain ⟨x', hx, h⟩ := opt_eq h
    obtain ⟨h1, h⟩ := and_tt h
    obtain ⟨h2, h⟩ := and_tt h
    obtain ⟨h3, h⟩ := and_tt h
    obtain ⟨h4, h⟩ := and_tt h
    obtain ⟨h5, h6⟩ := and_tt h
    have q : args = _ := one1_eq hy
    subst q
    have q2 : as = _ := one1_eq hx
    subst q2
    exact .sset (strF := strF) (eq_tt h1) (eq_tt h3) h2 h4 h5 (evD b x Γ S _ h6 z) fun ρ H => rfl
  | .index x y, Γ, S, e, h, z => by cases h
theorem trD (b : Nat) : ∀ (pe : PE) (Γ : List Str) (S : Scope) (e : Expr), chkE T Γ S pe e = true → ∀ z, TrOk (C.withZ z) T n b Γ S e (denT strF cf C.sc b pe)
  | .not x, Γ, S, e, h, z => by
    obtain ⟨v, p, rfl, h⟩ := chk_un h
    exact .not (trD b x Γ S _ h z) fun ρ H => rfl
  | .cmp op x y, Γ, S, e, h, z => by
    obtain ⟨l, r, p, rfl, h1, h2, h3⟩ := chk_cmp h
    exact .cmp h1 (evD b x Γ S _ h2 z) (evD b y Γ S _ h3 z) fun ρ H => rfl
  | .cmp2 o1 o2 x y w, Γ, S, e, h, z => by
    obtain ⟨l, r1, r2, p, rfl, h3, h4, h5, h6⟩ := chk_cmp2 h
    exact .cmp2 h3 (evD b x Γ S _ h4 z) (evD b y Γ S _ h5 z) (evD b w Γ S _ h6 z) fun ρ H => rfl
  | .and es, Γ, S, e, h, z => by
    obtain ⟨vs, p, rfl, h⟩ := chk_bool h
    exact .boolOp (andT b es Γ S _ h z)
  | .or es, Γ, S, e, h, z => by
    obtain ⟨vs, p, rfl, h⟩ := chk_bool h
    exact .boolOp (orT b es Γ S _ h z)
  | .var i, Γ, S, e, h, z => by
    obtain ⟨x, hx, h⟩ := opt_eq h
    obtain ⟨h1, h2⟩ := and_tt h
    rw [dName_eq hx]
    refine .ofEv (fun _ _ => rfl) (EvOk.var (d := denE strF cf C.sc b (.var i)) (eq_tt h1) h2 fun ρ H => rfl) fun ρ H => ?_
    show (match ρ[i]? with | some (some (.bool v)) => Res.ok v H | _ => .bad) = (match ρ[i]? with | some (some v) => Res.ok v H | _ => Res.bad).get _
    cases e1 : ρ[i]? with
    | none => rfl
    | some o => cases o with
      | none => rfl
      | some v => cases v <;> rfl
  | .call k es, Γ, S, e, h, z => by
    obtain ⟨f, np, e', r, pos, rfl, h1, h2, h4⟩ := chk_call h
    exact .ofEv (fun _ _ => rfl) (EvOk.userCall (d := denE strF cf C.sc b (.call k es)) (hcf z) h1 h2 (chkEs_stars es _ h4) (esD b es Γ S _ h4 z) fun ρ H => rfl) fun ρ H => get_get.symm
  | .prim p .nil, Γ, S, e, h, z => .ofEv (prim_true h) (prim0 h) fun ρ H => get_get.symm
  | .prim p (.cons x .nil), Γ, S, e, h, z => .ofEv (prim_true h) (prim1 h (fun e h => evD b x Γ S e h z) (fun vs h => esD b (.cons x .nil) Γ S vs h z)) fun ρ H => get_get.symm
  | .prim p (.cons x (.cons y r)), Γ, S, e, h, z => .ofEv (prim_true h) (prim2 h (fun vs h => esD b (.cons x (.cons y r)) Γ S vs h z)) fun ρ H => get_get.symm
  | .none, Γ, S, e, h, z => .bad fun ρ H => rfl
  | .bool v, Γ, S, e, h, z => .bad fun ρ H => rfl
  | .int v, Γ, S, e, h, z => .bad fun ρ H => rfl
  | .str v, Γ, S, e, h, z => .bad fun ρ H => rfl
  | .gfn v, Γ, S, e, h, z => .bad fun ρ H => rfl
  | .gint k v, Γ, S, e, h, z => .bad fun ρ H => rfl
  | .bin _ _ _, Γ, S, e, h, z => .bad fun ρ H => rfl
  | .neg _, Γ, S, e, h, z => .bad fun ρ H => rfl
  | .ite _ _ _, Γ, S, e, h, z => .bad fun ρ H => rfl
  | .callv _ _, Γ, S, e, h, z => .bad fun ρ H => rfl
  | .idx _ _, Γ, S, e, h, z => .bad fun ρ H => rfl
  | .sset _, Γ, S, e, h, z => .bad fun ρ H => rfl
  | .slice _ _ _, Γ, S, e, h, z => .bad fun ρ H => rfl
  | .rev _, Γ, S, e, h, z => .bad fun ρ H => rfl
  | .list _, Γ, S, e, h, z => .bad fun ρ H => rfl
  | .tuple _, Γ, S, e, h, z => .bad fun ρ H => rfl
  | .dict, Γ, S, e, h, z => by cases h
  | .comp1 _ _ _, Γ, S, e, h, z => .bad fun ρ H => rfl
  | .comp2 _ _, Γ, S, e, h, z => .bad fun ρ H => rfl
  | .append _ _, Γ, S, e, h, z => .bad fun ρ H => rfl
  | .count _ _, Γ, S, e, h, z => .bad fun ρ H => rfl
  | .index _ _, Γ, S, e, h, z => .bad fun ρ H => rfl
theorem andD (b : Nat) : ∀ (es : PEs) (Γ : List Str) (S : Scope) (vs : List Expr), chkEs T Γ S es vs = true → ∀ z, BoOk (C.withZ z) T n b Γ S .And vs (denAnd strF cf C.sc b es)
  | .nil, Γ, S, vs, h, z => ⟨fun _ _ _ _ ed _ => bad_ok ed⟩
  | .cons x .nil, Γ, S, vs, h, z => by
    obtain ⟨e, r, rfl, h1, h2, h3⟩ := chkEs_cons h
    cases chkEs_nil h3
    exact .one (evD b x Γ S _ h2 z) fun ρ H => rfl
  | .cons x (.cons y es), Γ, S, vs, h, z => by
    obtain ⟨e, r, rfl, h1, h2, h3⟩ := chkEs_cons h
    obtain ⟨e', r', q, _⟩ := chkEs_cons h3
    rw [q] at h3 ⊢
    exact .andE (evD b x Γ S _ h2 z) (andD b (.cons y es) Γ S _ h3 z) fun ρ H => rfl
theorem orD (b : Nat) : ∀ (es : PEs) (Γ : List Str) (S : Scope) (vs : List Expr), chkEs T Γ S es vs = true → ∀ z, BoOk (C.withZ z) T n b Γ S .Or vs (denOr strF cf C.sc b es)
  | .nil, Γ, S, vs, h, z => ⟨fun _ _ _ _ ed _ => bad_ok ed⟩
  | .cons x .nil, Γ, S, vs, h, z => by
    obtain ⟨e, r, rfl, h1, h2, h3⟩ := chkEs_cons h
    cases chkEs_nil h3
    exact .one (evD b x Γ S _ h2 z) fun ρ H => rfl
  | .cons x (.cons y es), Γ, S, vs, h, z => by
    obtain ⟨e, r, rfl, h1, h2, h3⟩ := chkEs_cons h
    obtain ⟨e', r', q, _⟩ := chkEs_cons h3
    rw [q] at h3 ⊢
    exact .orE (evD b x Γ S _ h2 z) (orD b (.cons y es) Γ S _ h3 z) fun ρ H => rfl
theorem andT (b : Nat) : ∀ (es : PEs) (Γ : List Str) (S : Scope) (vs : List Expr), chkEs T Γ S es vs = true → ∀ z, AtOk (C.withZ z) T n b Γ S .And vs (denAndT strF cf C.sc b es)
  | .nil, Γ, S, vs, h, z => by cases chkEs_nil h; exact .nilA fun ρ H => rfl
  | .cons x es, Γ, S, vs, h, z => by
    obtain ⟨e, r, rfl, h1, h2, h3⟩ := chkEs_cons h
    exact .andE (trD b x Γ S _ h2 z) (andT b es Γ S _ h3 z) fun ρ H => rfl
theorem orT (b : Nat) : ∀ (es : PEs) (Γ : List Str) (S : Scope) (vs : List Expr), chkEs T Γ S es vs = true → ∀ z, AtOk (C.withZ z) T n b Γ S .Or vs (denOrT strF cf C.sc b es)
  | .nil, Γ, S, vs, h, z => by cases chkEs_nil h; exact .nilO fun ρ H => rfl
  | .cons x es, Γ, S, vs, h, z => by
    obtain ⟨e, r, rfl, h1, h2, h3⟩ := chkEs_cons h
    exact .orE (trD b x Γ S _ h2 z) (orT b es Γ S _ h3 z) fun ρ H => rfl
theorem esD (b : Nat) : ∀ (es : PEs) (Γ : List Str) (S : Scope) (vs : List Expr), chkEs T Γ S es vs = true → ∀ z, EsOk (C.withZ z) T n b Γ S vs (denEs strF cf C.sc b es)
  | .nil, Γ, S, vs, h, z => by cases chkEs_nil h; exact .nilE fun ρ H => rfl
  | .cons x es, Γ, S, vs, h, z => by
    obtain ⟨e, r, rfl, h1, h2, h3⟩ := chkEs_cons h
    exact .consE h1 (evD b x Γ S _ h2 z) (esD b es Γ S _ h3 z) fun ρ H => rfl
theorem optD (b : Nat) : ∀ (o : PEo) (Γ : List Str) (S : Scope) (v : Option Expr), chkO T Γ S o v = true → ∀ z, PtOk (C.withZ z) T n b Γ S v (denO strF cf C.sc b o)
  | .none, Γ, S, v, h, z => by
    cases Option.isNone_iff_eq_none.mp h
    exact .no fun ρ H => rfl
  | .some x, Γ, S, v, h, z => by
    obtain ⟨e, rfl, h⟩ := opt_eq h
    exact .yes (evD b x Γ S _ h z) fun ρ H => rfl
theorem coD (b : Nat) : ∀ (o : PEo) (Γ : List Str) (S : Scope) (vs : List Expr), chkC T Γ S o vs = true → ∀ z, CoOk (C.withZ z) T n b Γ S vs (denC strF cf C.sc b o)
  | .none, Γ, S, v, h, z => by
    cases nilO_eq h
    exact .nil fun ρ H => rfl
  | .some x, Γ, S, v, h, z => by
    obtain ⟨e, he, h⟩ := opt_eq h
    rw [one1_eq he]
    exact .one (trD b x Γ S _ h z)
theorem itD (b : Nat) : ∀ (it : It) (Γ : List Str) (S : Scope) (e : Expr), chkI T Γ S it e = true → ∀ z, ItOk (C.withZ z) T n b Γ S (notZip it) e (denI strF cf C.sc b it)
  | .of x, Γ, S, e, h, z => .of (evD b x Γ S _ h z) fun ρ H => rfl
  | .range1 x, Γ, S, e, h, z => by
    have h : dCallN e (fun f args => opt (one1 args) fun x' => f == ("range" : Str) && (isGlob S f && (notStar x' && chkE T Γ S x x'))) = true := h
    obtain ⟨f, np, args, pos, rfl, hk⟩ := dCallN_eq h
    clear h
    have h := hk
    obtain ⟨a, ha, h⟩ := opt_eq h
    obtain ⟨h1, h⟩ := and_tt h
    obtain ⟨h2, h⟩ := and_tt h
    obtain ⟨h3, h4⟩ := and_tt h
    rw [one1_eq ha]
    exact .range1 (by rw [eq_tt h1]; rfl) h2 h3 (evD b x Γ S _ h4 z) fun ρ H => rfl
  | .range2 x y, Γ, S, e, h, z => by cases h
  | .zip x y, Γ, S, e, h, z => by cases h
end
end
end Mine

namespace Mine
open PySem PySem.Calls PyProof.Rows PySem.SeqAt

section
variable {C : Cx} {T : Tab} {n : Nat} {cf : Nat → List AV → AHeap → Res AV} {strF : PyData → Option Str}
variable (hcf : ∀ z, CallOk (C.withZ z) T n cf) (hfn : ∀ k, ∃ x, T.fns.lookup k = some x ∨ ∀ vs H, cf k vs H = .bad)
include hcf hfn

theorem assignD (b : Nat) {i : Nat} {e : PE} {x : Str} {px pos : Pos} {v : Expr} {Γ : List Str} {S : Scope} (h1 : slot Γ x = some i) (h2 : isStoreK S x = true) (h3 : (isCompP e || notComp v) = true)
    (h4 : chkE T Γ S e v = true) (z : Addr → Prop) : SOk (C.withZ z) T n b Γ S (.Assign [.Name x px] v pos) (denS strF cf C.sc b (.assign i e)) := by
  by_cases hc : isCompP e = true
  · cases e with
    | comp1 el it c =>
      obtain ⟨g1, g2, g3, g4, g5, g6⟩ := chk_comp1 h4
      exact .assignC1 (C := C.withZ z) (d1 := denE strF cf C.sc b (.comp1 el it c)) h1 h2 (scopeOk_ok g1) g3 (by have := itD (strF := strF) hcf hfn b it Γ S _ g4 z; rwa [g2] at this) (fun z' => coD hcf hfn b c _ _ _ g5 z') (fun z' => evD hcf hfn b el _ _ _ g6 z')
        (fun ρ H => rfl) fun ρ H => rfl
    | comp2 el it =>
      obtain ⟨g1, g2, g3, g4, g6⟩ := chk_comp2 h4
      exact .assignC2 (C := C.withZ z) (d1 := denE strF cf C.sc b (.comp2 el it)) h1 h2 (scopeOk_ok g1) g2 g3 (itD (strF := strF) hcf hfn b it Γ S _ g4 z) (fun z' => evD hcf hfn b el _ _ _ g6 z')
        (fun ρ H => rfl) fun ρ H => rfl
    | _ => cases hc
  · rw [Bool.not_eq_true] at hc
    rw [hc] at h3
    exact .assignN h1 h2 h3 (evD (strF := strF) hcf hfn b _ Γ S _ h4 z) fun ρ H => rfl

mutual
theorem stD (b : Nat) : ∀ (ps : PS) (Γ : List Str) (S : Scope) (st : Stmt), chkS T Γ S ps st = true → ∀ z, SOk (C.withZ z) T n b Γ S st (denS strF cf C.sc b ps)
  | .assign i e, Γ, S, st, h, z => by
    obtain ⟨x, hx, h⟩ := opt_eq h
    obtain ⟨t, ht, h⟩ := opt_eq h
    obtain ⟨v, hv, h⟩ := opt_eq h
    obtain ⟨h1, h⟩ := and_tt h
    obtain ⟨h2, h⟩ := and_tt h
    obtain ⟨h3, h4⟩ := and_tt h
    rw [dAsg_eq hx, one1_eq ht, dName_eq hv]
    exact assignD hcf hfn b (eq_tt h1) h2 h3 h4 z
  | .assigns is e, Γ, S, st, h, z => by
    obtain ⟨x, hx, h⟩ := opt_eq h
    obtain ⟨t, ht, h⟩ := opt_eq h
    obtain ⟨ts, hts, h⟩ := opt_eq h
    obtain ⟨h1, h⟩ := and_tt h
    obtain ⟨h2, h⟩ := and_tt h
    obtain ⟨h3, h4⟩ := and_tt h
    rw [dAsg_eq hx, one1_eq ht, dTup_eq hts]
    exact .assignT h2 h1 (evD hcf hfn b e Γ S _ h4 z) fun ρ H => rfl
  | .setIdx x i e, Γ, S, st, h, z => by
    obtain ⟨y, hy, h⟩ := opt_eq h
    obtain ⟨t, ht, h⟩ := opt_eq h
    obtain ⟨w, hw, h⟩ := opt_eq h
    obtain ⟨h1, h⟩ := and_tt h
    obtain ⟨h2, h3⟩ := and_tt h
    rw [dAsg_eq hy, one1_eq ht, dSub_eq hw]
    exact .setIdx (evD hcf hfn b e Γ S _ h3 z) (evD hcf hfn b x Γ S _ h1 z) (evD hcf hfn b i Γ S _ h2 z) fun ρ H => rfl
  | .swap x i c j p q, Γ, S, st, h, z => by cases h
  | .ite c t e, Γ, S, st, h, z => by
    obtain ⟨x, hx, h⟩ := opt_eq h
    obtain ⟨h1, h⟩ := and_tt h
    obtain ⟨h2, h3⟩ := and_tt h
    rw [dIf_eq hx]
    exact .ite (trD hcf hfn b c Γ S _ h1 z) (ssD b t Γ S _ h2 z) (ssD b e Γ S _ h3 z) fun ρ H => rfl
  | .for1 i it body, Γ, S, st, h, z => by
    obtain ⟨x, hx, h⟩ := opt_eq h
    obtain ⟨v, hv, h⟩ := opt_eq h
    obtain ⟨h0, h⟩ := and_tt h
    obtain ⟨h1, h⟩ := and_tt h
    obtain ⟨h2, h⟩ := and_tt h
    obtain ⟨h3, h⟩ := and_tt h
    obtain ⟨h4, h⟩ := and_tt h
    obtain ⟨h5, h6⟩ := and_tt h
    rw [dFor_eq hx, dName_eq hv, nilO_eq h0]
    exact .for1 (eq_tt h1) h2 h4 (by have := itD (strF := strF) hcf hfn b it Γ S _ h5 z; rwa [h3] at this) (fun z' => ssD b body Γ S _ h6 z') fun ρ H => rfl
  | .for2 i j it body, Γ, S, st, h, z => by
    obtain ⟨x, hx, h⟩ := opt_eq h
    obtain ⟨ts, hts, h⟩ := opt_eq h
    obtain ⟨t, ht, h⟩ := opt_eq h
    obtain ⟨v, hv, h⟩ := opt_eq h
    obtain ⟨w, hw, h⟩ := opt_eq h
    obtain ⟨h0, h⟩ := and_tt h
    obtain ⟨h1, h⟩ := and_tt h
    obtain ⟨h2, h⟩ := and_tt h
    obtain ⟨h3, h⟩ := and_tt h
    obtain ⟨h4, h⟩ := and_tt h
    obtain ⟨h5, h⟩ := and_tt h
    obtain ⟨h6, h7⟩ := and_tt h
    rw [dFor_eq hx, dTup_eq hts, two2_eq ht, dName_eq hv, dName_eq hw, nilO_eq h0]
    exact .for2 (eq_tt h1) h2 (eq_tt h3) h4 h5 (itD (strF := strF) hcf hfn b it Γ S _ h6 z) (fun z' => ssD b body Γ S _ h7 z') fun ρ H => rfl
  | .whl c body, Γ, S, st, h, z => by
    obtain ⟨x, hx, h⟩ := opt_eq h
    obtain ⟨h0, h⟩ := and_tt h
    obtain ⟨h1, h2⟩ := and_tt h
    rw [dWh_eq hx, nilO_eq h0]
    exact .whl (trD hcf hfn b c Γ S _ h1 z) (ssD b body Γ S _ h2 z) fun ρ H => rfl
  | .ret e, Γ, S, st, h, z => by
    obtain ⟨x, hx, h⟩ := opt_eq h
    obtain ⟨v, hv, h⟩ := opt_eq h
    rw [dRet_eq hx, hv]
    exact .ret (evD hcf hfn b e Γ S _ h z) fun ρ H => rfl
  | .expr e, Γ, S, st, h, z => by
    obtain ⟨x, hx, h⟩ := opt_eq h
    obtain ⟨h1, h2⟩ := and_tt h
    rw [dEx_eq hx]
    exact .expr h1 (evD hcf hfn b e Γ S _ h2 z) fun ρ H => rfl
  | .raise c m, Γ, S, st, h, z => by
    refine ⟨?_⟩
    intro base env ρ μ H s A E Q G hS st a k
    exact False.elim k
  | .tryRet e c i hh, Γ, S, st, h, z => by cases h
  | .tryExpr e c i hh, Γ, S, st, h, z => by cases h
theorem ssD (b : Nat) : ∀ (ps : PSs) (Γ : List Str) (S : Scope) (ss : List Stmt), chkSs T Γ S ps ss = true → ∀ z, SsOk (C.withZ z) T n b Γ S ss (denSs strF cf C.sc b ps)
  | .nil, Γ, S, ss, h, z => by cases nilO_eq h; exact .nilS fun ρ H => rfl
  | .cons s ss, Γ, S, [], h, z => by cases h
  | .cons s ss, Γ, S, st :: r, h, z => by
    obtain ⟨h1, h2⟩ := and_tt h
    exact .consS (stD b s Γ S _ h1 z) (ssD b ss Γ S _ h2 z) fun ρ H => rfl
end
end

section
variable {C : Cx} {T : Tab} {strF : PyData → Option Str}
theorem bods (hd : ∀ k f, T.defs.lookup k = some f → ∃ x, T.fns.lookup k = some x) : ∀ n, (∀ z, CallOk (C.withZ z) T n (callF strF (fun k => T.defs.lookup k) C.sc n)) ∧ ∀ z, Bods (C.withZ z) T n strF (callF strF (fun k => T.defs.lookup k) C.sc n) := by
  have hfn : ∀ n k, ∃ x, T.fns.lookup k = some x ∨ ∀ vs H, callF strF (fun k => T.defs.lookup k) C.sc n k vs H = .bad := by
    intro n k
    cases e : T.defs.lookup k with
    | none =>
      refine ⟨"", .inr fun vs H => ?_⟩
      cases n with
      | zero => rfl
      | succ n => unfold callF; simp only [e]
    | some f => obtain ⟨x, hx⟩ := hd k f e; exact ⟨x, .inl hx⟩
  intro n
  induction n with
  | zero =>
    have h : ∀ z, CallOk (C.withZ z) T 0 (callF strF (fun k => T.defs.lookup k) C.sc 0) := fun z => CallOk.zero (C := C.withZ z)
    exact ⟨h, fun z => ⟨fun b hb => ssD h (hfn 0) b _ _ _ _ hb z⟩⟩
  | succ n ih =>
    have h : ∀ z, CallOk (C.withZ z) T (n + 1) (callF strF (fun k => T.defs.lookup k) C.sc (n + 1)) := fun z => CallOk.step (C := C.withZ z) (ih.2 z)
    exact ⟨h, fun z => ⟨fun b hb => ssD h (hfn (n + 1)) b _ _ _ _ hb z⟩⟩
end
end Mine

namespace Mine
open PySem PySem.W PySem.Calls PyProof.Rows PySem.SeqAt

/-! A row's ground, by a look at its text. -/
noncomputable def gintOk (p : Program) (x : Str) (i : Int) : Bool := match valOf p x with
  | some (.int j) => i == j
  | _ => false
noncomputable def freeOk (p : Program) (loose : List Str) (x : Str) : Bool := !(startupNames.contains x) && (!(loose.contains x) && (!(((recsOf p).map (·.name)).contains x) && (!(((litsOf p).map (·.1)).contains x) && !(((clssOf p loose).map (·.name)).contains x))))
noncomputable def defOk (p : Program) (T : Tab) (q : Nat × FnI) : Bool := match T.fns.lookup q.1 with
  | some x => (recsOf p).any fun d => d.name == x && chkFn T q.2 d.params d.body d.scope
  | none => false
noncomputable def rowOk (p : Program) (loose : List Str) (T : Tab) : Bool :=
  T.fns.all (fun q => (recsOf p).any fun d => d.name == q.2) && (T.defs.all (defOk p T) && (T.gints.all (fun q => gintOk p q.2.1 q.2.2) && (T.excs.isEmpty && biVals.all fun q => freeOk p loose q.1)))

theorem lookup_mem {α : Type} : ∀ {l : List (Nat × α)} {n : Nat} {c : α}, l.lookup n = some c → (n, c) ∈ l
  | (k, v) :: r, n, c, h => by
    rw [List.lookup_cons] at h
    cases hb : n == k with
    | true => rw [hb] at h; cases h; rw [beq_iff_eq.mp hb]; exact List.mem_cons_self
    | false => rw [hb] at h; exact List.mem_cons_of_mem _ (lookup_mem h)

theorem bi_boot : ∀ p ∈ biVals, bootBuiltins p.1 = some p.2 ∧ p.1 ≠ "__name__" := by
  intro p hp
  simp only [biVals, List.mem_cons, List.not_mem_nil, or_false] at hp
  rcases hp with rfl | rfl | rfl | rfl | rfl | rfl | rfl | rfl | rfl | rfl | rfl | rfl | rfl | rfl | rfl | rfl <;> exact ⟨by rfl, by decide⟩

noncomputable def cxOf (prog : Program) (w : World) (sa : Addr) (sc : List Int) (T : Tab) (os : OsState) (mg mb : Str → Option Value) : Cx :=
  { prog, w, sa, sc, os, mg, mb, z := fun _ => False, fa := fun k => (match T.fns.lookup k with | some x => (match mg x with | some (.ref a) => a | _ => 0) | none => 0), ea := fun _ => .none }

theorem not_in {x : Str} {l : List Str} (h : (!(l.contains x)) = true) : x ∉ l := fun m => by
  have := List.contains_iff_mem.mpr m
  rw [not_tt h] at this; cases this

theorem gnd_of {prog : Program} {w : World} {sa : Addr} {sc : List Int} {T : Tab} {os : OsState} {mean : ExcName → Option Value} {mg mb : Str → Option Value} {h : Heap} {p : Program} {loose : List Str} {svs : List Value} (TR : Top p loose mean mg mb h) (hK : rowOk p loose T = true)
    (hL : h.IsList sa svs.toArray) (hI : IntsAre svs sc) (hlen : sc.length ≤ lim) : Gnd (cxOf prog w sa sc T os mg mb) T h := by
  obtain ⟨h1, hK⟩ := and_tt hK
  obtain ⟨h2, hK⟩ := and_tt hK
  obtain ⟨h3, hK⟩ := and_tt hK
  obtain ⟨h4, h5⟩ := and_tt hK
  have hrec : ∀ {d : DefRec}, d ∈ recsOf p → ∀ {k : Nat}, T.fns.lookup k = some d.name → ∃ o pm code doc, mg d.name = some (.ref ((cxOf prog w sa sc T os mg mb).fa k)) ∧ h.get? ((cxOf prog w sa sc T os mg mb).fa k) = some o ∧ o.data = .func (docDef d.name d.params d.body d.scope pm code doc) ∧ h.CodeRec code d.name := by
    intro d hd k e
    obtain ⟨a, o, pm, code, doc, q1, q2, q3, q4⟩ := TR.fn d hd
    have : (cxOf prog w sa sc T os mg mb).fa k = a := by simp only [cxOf, e, q1]
    rw [this]
    exact ⟨o, pm, code, doc, q1, q2, q3, q4⟩
  refine ⟨⟨⟨svs, hL, hI, hlen⟩⟩, TR.g, TR.b, ?_, ?_, ?_, ?_, TR.nolimit, ?_⟩
  · intro x v e
    have hm := mem_of_lookup e
    obtain ⟨b1, b2⟩ := bi_boot _ hm
    refine ⟨?_, (TR.builtins x b2).trans b1⟩
    have q := List.all_eq_true.mp h5 _ hm
    obtain ⟨q1, q⟩ := and_tt q
    obtain ⟨q2, q⟩ := and_tt q
    obtain ⟨q3, q⟩ := and_tt q
    obtain ⟨q4, q5⟩ := and_tt q
    exact TR.free x (not_in q1) (not_in q2) (not_in q3) (not_in q4) (not_in q5)
  · intro k x e
    obtain ⟨d, hd, q⟩ := List.any_eq_true.mp (List.all_eq_true.mp h1 _ (lookup_mem e))
    cases eq_tt q
    obtain ⟨o, pm, code, doc, q1, q2, q3, q4⟩ := hrec hd e
    exact ⟨q1, o, _, q2, q3⟩
  · intro k x i e
    have q := List.all_eq_true.mp h3 _ (lookup_mem e)
    unfold gintOk at q
    split at q
    · rename_i j ej
      obtain ⟨v, q1, q2⟩ := TR.const x _ ej
      have := q2 h
      cases this
      have e' : i = j := eq_tt q
      rw [e']
      exact ⟨_, q1⟩
    · cases q
  · intro k x e
    rw [List.isEmpty_iff.mp h4] at e; cases e
  · intro k f e
    have q := List.all_eq_true.mp h2 _ (lookup_mem e)
    unfold defOk at q
    cases ex : T.fns.lookup k with
    | none => simp only [ex] at q; cases q
    | some x =>
      simp only [ex] at q
      obtain ⟨d, hd, q⟩ := List.any_eq_true.mp q
      obtain ⟨e1, e2⟩ := and_tt q
      cases eq_tt e1
      obtain ⟨o, pm, code, doc, q1, q2, q3, q4⟩ := hrec hd ex
      exact ⟨o, _, d.body, q2, q3, rfl, rfl, rfl, rfl, rfl, q4, e2⟩

theorem defs_fns {p : Program} {loose : List Str} {T : Tab} (hK : rowOk p loose T = true) : ∀ k f, T.defs.lookup k = some f → ∃ x, T.fns.lookup k = some x := by
  obtain ⟨_, hK⟩ := and_tt hK
  obtain ⟨h2, _⟩ := and_tt hK
  intro k f e
  have q := List.all_eq_true.mp h2 _ (lookup_mem e)
  unfold defOk at q
  cases ex : T.fns.lookup k with
  | none => simp only [ex] at q; cases q
  | some x => exact ⟨x, rfl⟩

/-- the law's call ends well -/
theorem law_ends {prog : Program} {w : World} {sa fa : Addr} {sc : List Int} {T : Tab} {mean' : ExcName → Option Value} {mg mb : Str → Option Value} {s : Shared} {p : Program} {loose : List Str} {svs : List Value} {strF : PyData → Option Str} {N klaw : Nat} {x : Str} {H' : AHeap} {A : Around}
    {c : ClaimW} {cl : Str → Option Addr} {mean : ExcName → Option Value} {args : List WData}
    (TR : Top p loose mean' mg mb s.heap) (hK : rowOk p loose T = true) (hL : s.heap.IsList sa svs.toArray) (hI : IntsAre svs sc) (hlen : sc.length ≤ 63) (hg : s.gens = #[]) (a : AOk A (N + 1)) (hx : T.fns.lookup klaw = some x) (hmg : mg x = some (.ref fa))
    (ev : callF strF (fun k => T.defs.lookup k) sc (N + 1) klaw [.scr] [] = .ok (.bool true) H') (hn : ∀ cls, c.raises args cls = false) (hp : c.post args (.bool true) args = true) :
    wpAny (model prog w) A (call (.ref fa) [.ref sa] []) (fun v s' => GoodW c cl mean args s (.ok (.ret v)) s') (fun e s' => GoodW c cl mean args s (.error e) s') s := by
  have G := gnd_of (prog := prog) (w := w) (os := s.os) TR hK hL hI (Nat.le_trans hlen (by decide))
  have hfa : fa = (cxOf prog w sa sc T s.os mg mb).fa klaw := by
    have := (G.fn hx).1
    have hmg' : (cxOf prog w sa sc T s.os mg mb).mg x = some (.ref fa) := hmg
    rw [hmg'] at this
    cases this; rfl
  rw [hfa]
  have B := (bods (C := cxOf prog w sa sc T s.os mg mb) (T := T) (strF := strF) (defs_fns hK) N).2 (fun _ => False)
  refine call_pre (C := cxOf prog w sa sc T s.os mg mb) (μ := []) (H := []) B G ⟨rfl, .nil, fun e => by simp at e, fun e => by simp at e⟩ hg rfl (fun z => z.elim) a (.cons .scr .nil) ev ?_
  intro u s' μ' kp pre new fr hp' hg' ho' zl' V
  cases V
  exact ⟨.inl ⟨.bool true, _, [], rfl, hn, .bool true, hp, fun _ => ⟨.nil, by simp⟩⟩, kp, ho', hg'⟩
end Mine

namespace Mine
open PySem
noncomputable def tab : Tab := { fns := [(0, Str.ofString "is_among"), (1, Str.ofString "need_net"), (2, Str.ofString "labels_of"), (3, Str.ofString "parts_of"), (4, Str.ofString "hangs"), (5, Str.ofString "_law_cell_at"), (6, Str.ofString "_law_mixed"), (7, Str.ofString "_law_tree"), (8, Str.ofString "_law_net"), (9, Str.ofString "_law_whole"), (10, Str.ofString "_law_reached"), (11, Str.ofString "_law_parts"), (12, Str.ofString "law")], excs := [], gints := [(0, Str.ofString "MOST_PLACES", 7), (1, Str.ofString "MOST_TIES", 16)], defs := [(0, fn_0), (1, fn_1), (2, fn_2), (3, fn_3), (4, fn_4), (5, fn_5), (6, fn_6), (7, fn_7), (8, fn_8), (9, fn_9), (10, fn_10), (11, fn_11), (12, fn_12)] }
noncomputable abbrev P (k : Nat) : Option FnI := tab.defs.lookup k

end Mine
open PySem PySem.W PyProof.Rows
set_option maxHeartbeats 8000000 in
theorem PySem.Challenge.cw_uf040038_01_holds : PySem.Challenge.rw_uf040038_01.Holds := by
  w_on
  o_law
  o_head Hook.none
  case hw => w_witness2
  intro w s₀ s₁ mg mb G Y fa o pm cd doc dV kV ho hd hcd hD hmg hg args vals as hpre hlay hrd hwl hlo
  have TR := G.T
  wrow_args hpre hlay hrd hwl hlo
  rename_i sc hs hlay0 hL1 hr1 hl2 a4 a3 sa svs a0 hL ra w1 r0 hI hr hc hc2
  obtain ⟨v, H', ev, hv⟩ := Mine.Res.sat_ex (Mine.law01 (strF := fun _ => none) (sc := sc) (P := Mine.P) (m := 36) ⟨rfl, rfl, rfl, rfl, rfl, rfl, rfl, rfl, rfl, rfl, rfl, rfl, rfl⟩)
  subst hv
  exact wpAny_mono (Mine.law_ends (T := Mine.tab) (x := Str.ofString "law") TR (by kernel_rfl) hL hI (by (first | lia | omega)) hg ⟨by decide, by decide, rfl⟩ rfl hmg ev (fun _ => rfl) (by kernel_rfl)) (fun v s' g => GoodW.toG g) (fun e s' g => GoodW.toG g)



