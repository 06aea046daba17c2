import PyProof.Rows.All
import Wide.All
import Open.Line
import Wide.FinOn
import KE.KSortTup
import PySem.Challenge.RW_uf040038_13
set_option linter.unusedVariables false
set_option linter.unusedSimpArgs false
set_option linter.unusedSectionVars false
set_option maxRecDepth 100000
set_option maxHeartbeats 4000000
set_option Elab.async false
set_option genSizeOf false

namespace Mine
open PySem

/-! The abstract values, heap, small tongue and its interpreter. -/
inductive AV where
  | none
  | bool (b : Bool)
  | int (i : Int)
  | str (s : Str)
  | tup (vs : List AV)
  | ref (n : Nat)
  | scr
  | fn (k : Nat)
  | exc (c : Nat)

inductive AObj where
  | list (xs : List AV)
  | dict
abbrev AHeap := List AObj

/-- is the object at r still this list? -/
noncomputable def still (H : AHeap) (r : Nat) (xs : List AV) : Bool := match H[r]? with
  | some (.list ys) => @decide (ys = xs) (Classical.propDecidable _)
  | _ => false

inductive Res (α : Type) where
  | ok (a : α) (H : AHeap)
  | exc (c : Nat) (H : AHeap)
  | bad

/-- goes on behind an answer; a raise is passed on -/
noncomputable def Res.thn {α β : Type} (r : Res α) (f : α → AHeap → Res β) : Res β := match r with
  | .ok a H => f a H
  | .exc c H => .exc c H
  | .bad => .bad
/-- goes on behind an answer alone -/
noncomputable def Res.get {α β : Type} (r : Res α) (f : α → AHeap → Res β) : Res β := match r with
  | .ok a H => f a H
  | _ => .bad

abbrev AEnv := List (Option AV)
inductive SR where
  | next (ρ : AEnv) (H : AHeap)
  | ret (v : AV) (H : AHeap)
  | exc (c : Nat) (H : AHeap)
  | bad

set_option genInjectivity false
inductive Prim where
  | len | list | listRange | tuple | sorted | sortedSet | min2 | max2 | max1 | all | sortedP
  | isInt | isBool | isList | isTuple | isExc (c : Nat) | isValueError

mutual
inductive PE where
  | none | bool (b : Bool) | int (i : Int) | str (s : Str)
  | var (i : Nat)
  | gint (k : Nat) (i : Int)
  | bin (op : Operator) (a b : PE)
  | neg (a : PE)
  | not (a : PE)
  | cmp (op : CmpOp) (a b : PE)
  | cmp2 (o1 o2 : CmpOp) (a b c : PE)
  | and (es : PEs) | or (es : PEs)
  | ite (c a b : PE)
  | call (k : Nat) (es : PEs)
  | prim (p : Prim) (es : PEs)
  | idx (a i : PE)
  | slice (a : PE) (lo hi : PEo)
  | list (es : PEs) | tuple (es : PEs) | dict
  | comp1 (elt : PE) (it : It) (cond : PEo)
  | comp2 (elt : PE) (it : It)
  | append (a e : PE)
  | count (a e : PE)
  | index (a e : PE)
  | sset (a : PE)
inductive PEs where
  | nil | cons (e : PE) (es : PEs)
inductive PEo where
  | none | some (e : PE)
inductive It where
  | of (e : PE)
  | range1 (n : PE)
  | range2 (a b : PE)
  | zip (a b : PE)
end

mutual
inductive PS where
  | assign (i : Nat) (e : PE)
  | assigns (is : List Nat) (e : PE)
  | ite (c : PE) (t e : PSs)
  | for1 (i : Nat) (it : It) (body : PSs)
  | for2 (i j : Nat) (it : It) (body : PSs)
  | whl (c : PE) (body : PSs)
  | ret (e : PE)
  | expr (e : PE)
  | raise (c : Nat) (msg : Str)
  | tryRet (e : PE) (c : Nat) (i : Option Nat) (h : PSs)
inductive PSs where
  | nil | any | cons (s : PS) (ss : PSs)
end

/-- may raise what a handler sees -/
noncomputable def raisy : PE → Bool
  | .call .. => true
  | _ => false
noncomputable def onlyRet (r : SR) : SR := match r with
  | .ret v H => .ret v H
  | _ => .bad
noncomputable def excS (t : Bool) (c : Nat) (H : AHeap) : SR := if t then .exc c H else .bad

structure FnI where
  np : Nat
  nv : Nat
  body : PSs

/-- the longest list that is made -/
noncomputable def lim : Nat := 2 ^ 20
/-- the greatest factor, the greatest divisor -/
noncomputable def big : Nat := 2 ^ 5000
noncomputable def small (i : Int) : Bool := decide (i.natAbs < 2 ^ 60)
noncomputable def mulOk (a b : Int) : Bool := small a || small b || (decide (a.natAbs < big) && decide (b.natAbs < big))

noncomputable def alloc (xs : List AV) (H : AHeap) : Res AV := if xs.length ≤ lim then .ok (.ref H.length) (H ++ [.list xs]) else .bad

noncomputable def tupOf (vs : List AV) (H : AHeap) : Res AV := if vs.length ≤ lim then .ok (.tup vs) H else .bad
noncomputable def intV : AV → Option Int
  | .int i => some i
  | _ => none
noncomputable def refV : AV → Option Nat
  | .ref r => some r
  | _ => none
noncomputable def objL : AObj → Option (List AV)
  | .list xs => some xs
  | .dict => none
/-- both are whole numbers -/
noncomputable def ints2 {α : Type} (no : α) (x y : AV) (f : Int → Int → α) : α := ((intV x).bind fun a => (intV y).map fun b => f a b).getD no
/-- the list that this is -/
noncomputable def listAt (H : AHeap) (x : AV) : Option (List AV) := (refV x).bind fun r => (H[r]?).bind objL
noncomputable def lists2 (x y : AV) (H : AHeap) : Res AV := ((listAt H x).bind fun xs => (listAt H y).map fun ys => alloc (xs ++ ys) H).getD .bad
noncomputable def binop (op : Operator) (x y : AV) (H : AHeap) : Res AV := match op with
  | .Add => if (intV x).isSome then ints2 .bad x y fun a b => .ok (.int (a + b)) H else lists2 x y H
  | .Sub => ints2 .bad x y fun a b => .ok (.int (a - b)) H
  | .Mult => if (intV x).isSome then ints2 .bad x y fun a b => if mulOk a b then .ok (.int (a * b)) H else .bad else .bad
  | .FloorDiv => ints2 .bad x y fun a b => if b ≠ 0 ∧ b.natAbs < big then .ok (.int (a.fdiv b)) H else .bad
  | .Mod => ints2 .bad x y fun a b => if b ≠ 0 then .ok (.int (a.fmod b)) H else .bad
  | _ => .bad

noncomputable def boolV : AV → Option Bool
  | .bool i => some i
  | _ => none
noncomputable def intsOf : List AV → Option (List Int)
  | [] => some []
  | x :: r => (intV x).bind fun i => (intsOf r).map (i :: ·)
noncomputable def boolsOf : List AV → Option (List Bool)
  | [] => some []
  | x :: r => (boolV x).bind fun i => (boolsOf r).map (i :: ·)


/-- what a value reads as, through the heap, to a depth -/
noncomputable def leafD : AV → Option PyData
  | .none => some .none
  | .bool b => some (.bool b)
  | .int i => some (.int i)
  | .str s => if PyData.strOk s then some (.str s) else none
  | _ => none
noncomputable def rd (H : AHeap) : Nat → AV → Option PyData
  | 0, v => leafD v
  | n + 1, v => (match v with
    | .tup vs => (vs.mapM (rd H n)).map .tuple
    | .ref r => (match H[r]? with
      | some (.list xs) => (xs.mapM (rd H n)).map .list
      | _ => none)
    | v => leafD v)

noncomputable def eqOf (x y : AV) (H : AHeap) : Option Bool := match rd H 8 x, rd H 8 y with
  | some d, some e => some (PyData.eqv d e)
  | _, _ => none
noncomputable def inOf (x y : AV) (H : AHeap) : Option Bool := match x, y with
  | .int i, .ref r => (match H[r]? with
      | some (.list xs) => (intsOf xs).map fun is => decide (i ∈ is)
      | _ => none)
  | _, _ => none
noncomputable def eqV (x y : AV) (H : AHeap) : Option Bool := if (intV x).isSome ∧ (intV y).isSome then ints2 none x y fun a b => some (a == b) else eqOf x y H
noncomputable def neV (x y : AV) (H : AHeap) : Option Bool := if (intV x).isSome ∧ (intV y).isSome then ints2 none x y fun a b => some (!(a == b)) else (eqOf x y H).map (!·)
noncomputable def cmpop (op : CmpOp) (x y : AV) (H : AHeap) : Option Bool := match op with
  | .Lt => ints2 none x y fun a b => some (decide (a < b))
  | .LtE => ints2 none x y fun a b => some (decide (a ≤ b))
  | .Gt => ints2 none x y fun a b => some (decide (b < a))
  | .Eq => eqV x y H
  | .NotEq => neV x y H
  | .NotIn => (inOf x y H).map (!·)
  | _ => none

noncomputable def insertI (x : Int) : List Int → List Int
  | [] => [x]
  | y :: r => if x ≤ y then x :: y :: r else y :: insertI x r
noncomputable def sortI : List Int → List Int
  | [] => []
  | x :: r => insertI x (sortI r)
noncomputable def dedupSorted : List Int → List Int
  | [] => []
  | x :: r => match dedupSorted r with
    | [] => [x]
    | y :: r' => if x = y then y :: r' else x :: y :: r'

/-- the items of a list or a tuple -/
noncomputable def items (v : AV) (H : AHeap) : Option (List AV) := match v with
  | .tup vs => some vs
  | .ref r => (match H[r]? with
      | some (.list xs) => some xs
      | _ => none)
  | _ => none

noncomputable def inR (i : Int) : Bool := decide (-1000 ≤ i ∧ i ≤ 1000)
noncomputable def rangeL (a b : Int) : List AV := (List.range (b - a).toNat).map fun (k : Nat) => AV.int (a + (k : Int))

/-- an index from the front or the back -/
noncomputable def at? (n : Nat) (i : Int) : Option Nat := if 0 ≤ i ∧ i < n then some i.toNat else if i < 0 ∧ -(n : Int) ≤ i then some (i + n).toNat else none
noncomputable def itemOf (sc : List Int) (v w : AV) (H : AHeap) : Res AV := match w with
  | .int k => (match v with
    | .scr => if 0 ≤ k ∧ k < sc.length then .ok (.int (sc.getD k.toNat 0)) H else .bad
    | v => (match items v H with
      | some xs => (match at? xs.length k with
        | some j => (match xs[j]? with | some x => .ok x H | none => .bad)
        | none => .bad)
      | none => .bad))
  | _ => .bad
/-- a cut's place -/
noncomputable def cutAt (n : Nat) (i : Int) : Nat := (max 0 (min (if i < 0 then i + n else i) n)).toNat
noncomputable def cut (xs : List AV) (lo hi : Option Int) : List AV :=
  let a := match lo with | some i => cutAt xs.length i | none => 0
  let b := match hi with | some i => cutAt xs.length i | none => xs.length
  (xs.take b).drop a

noncomputable def ofKind (o : Option Bool) (H : AHeap) : Res AV := match o with
  | some t => .ok (.bool t) H
  | none => .bad
noncomputable def isIntK : AV → Option Bool
  | .int _ => some true
  | .bool _ => some true
  | .none => some false
  | .str _ => some false
  | .tup _ => some false
  | .ref _ => some false
  | _ => none
noncomputable def isBoolK : AV → Option Bool
  | .int _ => some false
  | .bool _ => some true
  | .none => some false
  | .str _ => some false
  | .tup _ => some false
  | .ref _ => some false
  | _ => none
noncomputable def isTupleK : AV → Option Bool
  | .int _ => some false
  | .bool _ => some false
  | .none => some false
  | .str _ => some false
  | .tup _ => some true
  | .ref _ => some false
  | _ => none
noncomputable def isListK (v : AV) (H : AHeap) : Option Bool := match v with
  | .int _ => some false
  | .bool _ => some false
  | .none => some false
  | .str _ => some false
  | .tup _ => some false
  | .ref r => (match H[r]? with
    | some (.list _) => some true
    | some .dict => some false
    | none => none)
  | _ => none

/-- a pair of ints -/
noncomputable def pairI : AV → Option (Int × Int)
  | .tup vs => (match vs with
    | [x, y] => (intV x).bind fun i => (intV y).map fun j => (i, j)
    | _ => none)
  | _ => none
noncomputable def pairV (p : Int × Int) : AV := .tup [.int p.1, .int p.2]
noncomputable def pairsOf : List AV → Option (List (Int × Int))
  | [] => some []
  | x :: r => (pairI x).bind fun p => (pairsOf r).map (p :: ·)
/-- how pairs are put in order -/
abbrev SrtF := List (Int × Int) → Option (List (Int × Int))
variable (strF : SrtF)

noncomputable def primA (sc : List Int) (p : Prim) (v : AV) (H : AHeap) : Res AV := match p with
  | .len => (match v with
    | .scr => .ok (.int sc.length) H
    | v => (match items v H with | some xs => .ok (.int xs.length) H | none => .bad))
  | .list => (match items v H with | some xs => alloc xs H | none => .bad)
  | .listRange => (match v with
    | .int n => if inR n then alloc (rangeL 0 n) H else .bad
    | _ => .bad)
  | .tuple => (match items v H with | some xs => .ok (.tup xs) H | none => .bad)
  | .sorted => (match v with
    | .ref r => (match H[r]? with
      | some (.list xs) => if xs.length < 64 then (match intsOf xs with
          | some is => alloc ((sortI is).map .int) H
          | none => .bad) else .bad
      | _ => .bad)
    | _ => .bad)
  | .sortedSet => (match v with
    | .ref r => (match H[r]? with
      | some (.list xs) => if xs.length < 64 then (match intsOf xs with
          | some is => alloc ((dedupSorted (sortI is)).map .int) H
          | none => .bad) else .bad
      | _ => .bad)
    | _ => .bad)
  | .max1 => (match v with
        | .ref r => (match H[r]? with
          | some (.list xs) => (match intsOf xs with
              | some (i :: is) => .ok (.int (is.foldl max i)) H
              | _ => .bad)
          | _ => .bad)
        | _ => .bad)
  | .all => (match v with
    | .ref r => (match H[r]? with
      | some (.list xs) => (match boolsOf xs with
          | some bs => .ok (.bool (bs.all id)) H
          | none => .bad)
      | _ => .bad)
    | _ => .bad)
  | .sortedP => (((listAt H v).bind pairsOf).bind fun ps => (strF ps).map fun qs => if ps.length < 64 then alloc (qs.map pairV) H else .bad).getD .bad
  | .isInt => ofKind (isIntK v) H
  | .isBool => ofKind (isBoolK v) H
  | .isList => ofKind (isListK v H) H
  | .isTuple => ofKind (isTupleK v) H
  | .isExc c => (match v with | .exc d => .ok (.bool (decide (d = c) || decide (c = 0))) H | _ => .bad)
  | .isValueError => (match v with | .exc _ => .ok (.bool true) H | _ => .bad)
  | _ => .bad
noncomputable def primB (p : Prim) (v w : AV) (H : AHeap) : Res AV := match p with
  | .min2 => ints2 .bad v w fun a b => .ok (.int (min a b)) H
  | .max2 => ints2 .bad v w fun a b => .ok (.int (max a b)) H
  | _ => .bad
noncomputable def prim (sc : List Int) (p : Prim) (vs : List AV) (H : AHeap) : Res AV := match vs with
  | [] => .bad
  | x :: r => (match r with
    | [] => primA strF sc p x H
    | y :: r => (match r with
      | [] => primB p x y H
      | _ :: _ => .bad))

/-- the turns of a for over items; the lists walked over must stay -/
noncomputable def forL (ws : List (Nat × List AV)) (step : AV → AEnv → AHeap → SR) : List AV → AEnv → AHeap → SR
  | [], ρ, H => .next ρ H
  | v :: vs, ρ, H => match step v ρ H with
    | .next ρ' H' => if ws.all (fun w => still H' w.1 w.2) then forL ws step vs ρ' H' else .bad
    | r => r
noncomputable def consO (o : Option AV) (r : List AV) : List AV := match o with
  | some x => x :: r
  | none => r
noncomputable def compL (ws : List (Nat × List AV)) (step : AV → AHeap → Res (Option AV)) : List AV → AHeap → Res (List AV)
  | [], H => .ok [] H
  | v :: vs, H => (step v H).get fun o H' => if ws.all (fun w => still H' w.1 w.2) then (compL ws step vs H').get fun r H'' => .ok (consO o r) H'' else .bad
noncomputable def whileL (test : AEnv → AHeap → Res Bool) (body : AEnv → AHeap → SR) : Nat → AEnv → AHeap → SR
  | 0, _, _ => .bad
  | n + 1, ρ, H => match test ρ H with
    | .ok false H' => .next ρ H'
    | .ok true H' => (match body ρ H' with
      | .next ρ' H'' => whileL test body n ρ' H''
      | r => r)
    | _ => .bad

noncomputable def pairS (f : AV → AV → SR) (v : AV) : SR := match v with
  | .tup [x, y] => f x y
  | _ => .bad
noncomputable def pairR (f : AV → AV → Res (Option AV)) (v : AV) : Res (Option AV) := match v with
  | .tup [x, y] => f x y
  | _ => .bad
noncomputable def isL (v : AV) (H : AHeap) : Bool := match v with
  | .ref r => (match H[r]? with
    | some (.list _) => true
    | _ => false)
  | _ => false
noncomputable def appendTo (b : Nat) (v w : AV) (H : AHeap) : Res AV := match v with
  | .ref r => (match H[r]? with
    | some (.list xs) => if b ≤ r ∧ xs.length < lim then .ok .none (H.set r (.list (xs ++ [w]))) else .bad
    | _ => .bad)
  | _ => .bad
noncomputable def countOf (v w : AV) (H : AHeap) : Res AV := match w with
  | .bool t => (match v with
    | .ref r => (match H[r]? with
      | some (.list xs) => (match boolsOf xs with
        | some bs => .ok (.int (bs.countP (· == t) : Nat)) H
        | none => .bad)
      | _ => .bad)
    | _ => .bad)
  | _ => .bad
noncomputable def indexOf (v w : AV) (H : AHeap) : Res AV := match w with
  | .bool t => (match v with
    | .ref r => (match H[r]? with
      | some (.list xs) => (match boolsOf xs with
        | some bs => (match bs.findIdx? (· == t) with
          | some k => .ok (.int k) H
          | none => .bad)
        | none => .bad)
      | _ => .bad)
    | _ => .bad)
  | _ => .bad

noncomputable def zipL : List AV → List AV → List AV
  | x :: xs, y :: ys => .tup [x, y] :: zipL xs ys
  | _, _ => []

section
variable (cf : Nat → List AV → AHeap → Res AV) (sc : List Int) (b : Nat)

mutual
noncomputable def denE : PE → AEnv → AHeap → Res AV
  | .none, _, H => .ok .none H
  | .bool v, _, H => .ok (.bool v) H
  | .int i, _, H => .ok (.int i) H
  | .str s, _, H => .ok (.str s) H
  | .var i, ρ, H => (match ρ[i]? with | some (some v) => .ok v H | _ => .bad)
  | .gint _ i, _, H => .ok (.int i) H
  | .bin op x y, ρ, H => (denE x ρ H).get fun v H => (denE y ρ H).get fun w H => binop op v w H
  | .neg x, ρ, H => (denE x ρ H).get fun v H => (match v with | .int i => .ok (.int (-i)) H | _ => .bad)
  | .not x, ρ, H => (denE x ρ H).get fun v H => (match v with | .bool t => .ok (.bool (!t)) H | _ => .bad)
  | .cmp op x y, ρ, H => (denE x ρ H).get fun v H => (denE y ρ H).get fun w H => (match cmpop op v w H with | some r => .ok (.bool r) H | none => .bad)
  | .cmp2 o1 o2 x y z, ρ, H => (denE x ρ H).get fun v H => (denE y ρ H).get fun w H => (match cmpop o1 v w H with
      | some true => (denE z ρ H).get fun u H => (match cmpop o2 w u H with | some r => .ok (.bool r) H | none => .bad)
      | some false => .ok (.bool false) H
      | none => .bad)
  | .and es, ρ, H => denAnd es ρ H
  | .or es, ρ, H => denOr es ρ H
  | .ite c x y, ρ, H => (denT c ρ H).get fun t H => if t then denE x ρ H else denE y ρ H
  | .call k es, ρ, H => (denEs es ρ H).get fun vs H => cf k vs H
  | .prim p es, ρ, H => (denEs es ρ H).get fun vs H => prim strF sc p vs H
  | .idx a i, ρ, H => (denE a ρ H).get fun v H => (denE i ρ H).get fun w H => itemOf sc v w H
  | .slice a lo hi, ρ, H => (denE a ρ H).get fun v H => (denO lo ρ H).get fun l H => (denO hi ρ H).get fun h H => (match v with
      | .ref r => (match H[r]? with
        | some (.list xs) => alloc (cut xs l h) H
        | _ => .bad)
      | _ => .bad)
  | .list es, ρ, H => (denEs es ρ H).thn fun vs H => alloc vs H
  | .tuple es, ρ, H => (denEs es ρ H).get fun vs H => tupOf vs H
  | .dict, _, H => .ok (.ref H.length) (H ++ [.dict])
  | .comp1 e it c, ρ, H => (denI it ρ H).get fun p H => (compL p.2 (fun v H => (denC c (some v :: ρ) H).get fun t H => if t then (denE e (some v :: ρ) H).get fun x H => .ok (some x) H else .ok none H) p.1 H).get fun vs H => alloc vs H
  | .comp2 e it, ρ, H => (denI it ρ H).get fun p H => (compL p.2 (fun v H => pairR (fun x y => (denE e (some x :: some y :: ρ) H).get fun x H => .ok (some x) H) v) p.1 H).get fun vs H => alloc vs H
  | .append a e, ρ, H => (denE a ρ H).get fun v H => if isL v H then (denE e ρ H).get fun w H => appendTo b v w H else .bad
  | .count a e, ρ, H => (denE a ρ H).get fun v H => if isL v H then (denE e ρ H).get fun w H => countOf v w H else .bad
  | .index a e, ρ, H => (denE a ρ H).get fun v H => if isL v H then (denE e ρ H).get fun w H => indexOf v w H else .bad
  | .sset a, ρ, H => (denE a ρ H).get fun v H => prim strF sc .sortedSet [v] H
noncomputable def denT : PE → AEnv → AHeap → Res Bool
  | .not x, ρ, H => (denT x ρ H).get fun v H => .ok (!v) H
  | .cmp op x y, ρ, H => (denE x ρ H).get fun v H => (denE y ρ H).get fun w H => (match cmpop op v w H with | some r => .ok r H | none => .bad)
  | .and es, ρ, H => denAndT es ρ H
  | .or es, ρ, H => denOrT es ρ H
  | .var i, ρ, H => (match ρ[i]? with | some (some (.bool v)) => .ok v H | _ => .bad)
  | .call k es, ρ, H => (denEs es ρ H).get fun vs H => (cf k vs H).get fun v H => (match v with | .bool t => .ok t H | _ => .bad)
  | .prim p es, ρ, H => (denEs es ρ H).get fun vs H => (prim strF sc p vs H).get fun v H => (match v with | .bool t => .ok t H | _ => .bad)
  | _, _, _ => .bad
noncomputable def denAnd : PEs → AEnv → AHeap → Res AV
  | .nil, _, _ => .bad
  | .cons e .nil, ρ, H => denE e ρ H
  | .cons e es, ρ, H => (denE e ρ H).get fun v H => (match v with
      | .bool false => .ok (.bool false) H
      | .bool true => denAnd es ρ H
      | _ => .bad)
noncomputable def denOr : PEs → AEnv → AHeap → Res AV
  | .nil, _, _ => .bad
  | .cons e .nil, ρ, H => denE e ρ H
  | .cons e es, ρ, H => (denE e ρ H).get fun v H => (match v with
      | .bool true => .ok (.bool true) H
      | .bool false => denOr es ρ H
      | _ => .bad)
noncomputable def denAndT : PEs → AEnv → AHeap → Res Bool
  | .nil, _, H => .ok true H
  | .cons e es, ρ, H => (denT e ρ H).get fun v H => if v then denAndT es ρ H else .ok false H
noncomputable def denOrT : PEs → AEnv → AHeap → Res Bool
  | .nil, _, H => .ok false H
  | .cons e es, ρ, H => (denT e ρ H).get fun v H => if v then .ok true H else denOrT es ρ H
noncomputable def denEs : PEs → AEnv → AHeap → Res (List AV)
  | .nil, _, H => .ok [] H
  | .cons e es, ρ, H => (denE e ρ H).thn fun v H => (denEs es ρ H).thn fun vs H => .ok (v :: vs) H
noncomputable def denO : PEo → AEnv → AHeap → Res (Option Int)
  | .none, _, H => .ok none H
  | .some e, ρ, H => (denE e ρ H).get fun v H => (match v with | .int i => .ok (some i) H | _ => .bad)
noncomputable def denC : PEo → AEnv → AHeap → Res Bool
  | .none, _, H => .ok true H
  | .some e, ρ, H => denT e ρ H
noncomputable def denI : It → AEnv → AHeap → Res (List AV × List (Nat × List AV))
  | .of e, ρ, H => (denE e ρ H).get fun v H => (match v with
      | .ref r => (match H[r]? with | some (.list xs) => .ok (xs, [(r, xs)]) H | _ => .bad)
      | _ => .bad)
  | .range1 n, ρ, H => (denE n ρ H).get fun v H => (match v with | .int k => if inR k then .ok (rangeL 0 k, []) H else .bad | _ => .bad)
  | .range2 x y, ρ, H => (denE x ρ H).get fun v H => (denE y ρ H).get fun w H => (match v, w with | .int j, .int k => if inR j ∧ inR k then .ok (rangeL j k, []) H else .bad | _, _ => .bad)
  | .zip x y, ρ, H => (denE x ρ H).get fun v H => (denE y ρ H).get fun w H => (match v, w with
      | .ref r, .ref q => (match H[r]?, H[q]? with
        | some (.list xs), some (.list ys) => .ok (zipL xs ys, [(r, xs), (q, ys)]) H
        | _, _ => .bad)
      | _, _ => .bad)
end

noncomputable def setVars : List Nat → List AV → AEnv → Option AEnv
  | [], [], ρ => some ρ
  | i :: is, v :: vs, ρ => setVars is vs (ρ.set i (some v))
  | _, _, _ => none

mutual
noncomputable def denS : PS → AEnv → AHeap → SR
  | .assign i e, ρ, H => (match denE strF cf sc b e ρ H with | .ok v H => .next (ρ.set i (some v)) H | _ => .bad)
  | .assigns is e, ρ, H => (match denE strF cf sc b e ρ H with
      | .ok v H => (match v with
        | .tup vs => (match setVars is vs ρ with | some ρ' => .next ρ' H | none => .bad)
        | _ => .bad)
      | _ => .bad)
  | .ite c t e, ρ, H => (match denT strF cf sc b c ρ H with
      | .ok true H => denSs t ρ H
      | .ok false H => denSs e ρ H
      | _ => .bad)
  | .for1 i it body, ρ, H => (match denI strF cf sc b it ρ H with
      | .ok p H => forL p.2 (fun v ρ H => denSs body (ρ.set i (some v)) H) p.1 ρ H
      | _ => .bad)
  | .for2 i j it body, ρ, H => (match denI strF cf sc b it ρ H with
      | .ok p H => forL p.2 (fun v ρ H => pairS (fun x y => denSs body ((ρ.set i (some x)).set j (some y)) H) v) p.1 ρ H
      | _ => .bad)
  | .whl c body, ρ, H => whileL (denT strF cf sc b c) (denSs body) 100 ρ H
  | .ret e, ρ, H => (match denE strF cf sc b e ρ H with | .ok v H => .ret v H | .exc c H => excS (raisy e) c H | .bad => .bad)
  | .expr e, ρ, H => (match denE strF cf sc b e ρ H with | .ok _ H => .next ρ H | .exc c H => excS (raisy e) c H | .bad => .bad)
  | .raise c _, _, H => .exc c H
  | .tryRet e c i h, ρ, H => (match denE strF cf sc b e ρ H with
      | .ok v H => .ret v H
      | .exc d H => if raisy e = true ∧ (d = c ∨ c = 0) then (match i with
        | some j => onlyRet (denSs h (ρ.set j (some (.exc d))) H)
        | none => onlyRet (denSs h ρ H)) else .bad
      | .bad => .bad)
noncomputable def denSs : PSs → AEnv → AHeap → SR
  | .nil, ρ, H => .next ρ H
  | .any, _, _ => .bad
  | .cons s ss, ρ, H => (match denS s ρ H with
      | .next ρ H => denSs ss ρ H
      | r => r)
end
end

noncomputable def callF (P : Nat → Option FnI) (sc : List Int) : Nat → Nat → List AV → AHeap → Res AV
  | 0, _, _, _ => .bad
  | n + 1, k, args, H => match P k with
    | none => .bad
    | some f => if args.length = f.np then (match denSs strF (callF P sc n) sc H.length f.body (args.map some ++ List.replicate (f.nv - f.np) none) H with
      | .next _ H' => .ok .none H'
      | .ret v H' => .ok v H'
      | .exc c H' => .exc c H'
      | .bad => .bad) else .bad
end Mine
set_option genInjectivity false


namespace Mine
open PySem

section
variable {strF : SrtF} {cf : Nat → List AV → AHeap → Res AV} {sc : List Int} {b : Nat} {ρ : AEnv} {H : AHeap} {x y z : PE} {es : PEs}
theorem dE_none : denE strF cf sc b .none ρ H = .ok .none H := rfl
theorem dE_bool {v : Bool} : denE strF cf sc b (.bool v) ρ H = .ok (.bool v) H := rfl
theorem dE_int {i : Int} : denE strF cf sc b (.int i) ρ H = .ok (.int i) H := rfl
theorem dE_var {i : Nat} : denE strF cf sc b (.var i) ρ H = (match ρ[i]? with | some (some v) => .ok v H | _ => .bad) := rfl
theorem dE_gint {k : Nat} {i : Int} : denE strF cf sc b (.gint k i) ρ H = .ok (.int i) H := rfl
theorem dE_bin {op : Operator} : denE strF cf sc b (.bin op x y) ρ H = (denE strF cf sc b x ρ H).get fun v H => (denE strF cf sc b y ρ H).get fun w H => binop op v w H := rfl
theorem dE_neg : denE strF cf sc b (.neg x) ρ H = (denE strF cf sc b x ρ H).get fun v H => (match v with | .int i => .ok (.int (-i)) H | _ => .bad) := rfl
theorem dE_not : denE strF cf sc b (.not x) ρ H = (denE strF cf sc b x ρ H).get fun v H => (match v with | .bool t => .ok (.bool (!t)) H | _ => .bad) := rfl
theorem dE_cmp {op : CmpOp} : denE strF cf sc b (.cmp op x y) ρ H = (denE strF cf sc b x ρ H).get fun v H => (denE strF cf sc b y ρ H).get fun w H => (match cmpop op v w H with | some r => .ok (.bool r) H | none => .bad) := rfl
theorem dE_cmp2 {o1 o2 : CmpOp} : denE strF cf sc b (.cmp2 o1 o2 x y z) ρ H = (denE strF cf sc b x ρ H).get fun v H => (denE strF cf sc b y ρ H).get fun w H => (match cmpop o1 v w H with
      | some true => (denE strF cf sc b z ρ H).get fun u H => (match cmpop o2 w u H with | some r => .ok (.bool r) H | none => .bad)
      | some false => .ok (.bool false) H
      | none => .bad) := rfl
theorem dE_and : denE strF cf sc b (.and es) ρ H = denAnd strF cf sc b es ρ H := rfl
theorem dE_or : denE strF cf sc b (.or es) ρ H = denOr strF cf sc b es ρ H := rfl
theorem dE_ite : denE strF cf sc b (.ite x y z) ρ H = (denT strF cf sc b x ρ H).get fun t H => if t then denE strF cf sc b y ρ H else denE strF cf sc b z ρ H := rfl
theorem dE_call {k : Nat} : denE strF cf sc b (.call k es) ρ H = (denEs strF cf sc b es ρ H).get fun vs H => cf k vs H := rfl
theorem dE_prim {p : Prim} : denE strF cf sc b (.prim p es) ρ H = (denEs strF cf sc b es ρ H).get fun vs H => prim strF sc p vs H := rfl
theorem dE_idx : denE strF cf sc b (.idx x y) ρ H = (denE strF cf sc b x ρ H).get fun v H => (denE strF cf sc b y ρ H).get fun w H => itemOf sc v w H := rfl
theorem dE_slice {lo hi : PEo} : denE strF cf sc b (.slice x lo hi) ρ H = (denE strF cf sc b x ρ H).get fun v H => (denO strF cf sc b lo ρ H).get fun l H => (denO strF cf sc b hi ρ H).get fun h H => (match v with
      | .ref r => (match H[r]? with
        | some (.list xs) => alloc (cut xs l h) H
        | _ => .bad)
      | _ => .bad) := rfl
theorem dE_list : denE strF cf sc b (.list es) ρ H = (denEs strF cf sc b es ρ H).thn fun vs H => alloc vs H := rfl
theorem dE_tuple : denE strF cf sc b (.tuple es) ρ H = (denEs strF cf sc b es ρ H).get fun vs H => tupOf vs H := rfl
theorem dE_comp1 {it : It} {c : PEo} : denE strF cf sc b (.comp1 x it c) ρ H = (denI strF cf sc b it ρ H).get fun p H => (compL p.2 (fun v H => (denC strF cf sc b c (some v :: ρ) H).get fun t H => if t then (denE strF cf sc b x (some v :: ρ) H).get fun x H => .ok (some x) H else .ok none H) p.1 H).get fun vs H => alloc vs H := rfl
theorem dE_comp2 {it : It} : denE strF cf sc b (.comp2 x it) ρ H = (denI strF cf sc b it ρ H).get fun p H => (compL p.2 (fun v H => pairR (fun u w => (denE strF cf sc b x (some u :: some w :: ρ) H).get fun x H => .ok (some x) H) v) p.1 H).get fun vs H => alloc vs H := rfl
theorem dE_append : denE strF cf sc b (.append x y) ρ H = (denE strF cf sc b x ρ H).get fun v H => if isL v H then (denE strF cf sc b y ρ H).get fun w H => appendTo b v w H else .bad := rfl
theorem dE_sset : denE strF cf sc b (.sset x) ρ H = (denE strF cf sc b x ρ H).get fun v H => prim strF sc .sortedSet [v] H := rfl
theorem dT_not : denT strF cf sc b (.not x) ρ H = (denT strF cf sc b x ρ H).get fun v H => .ok (!v) H := rfl
theorem dT_cmp {op : CmpOp} : denT strF cf sc b (.cmp op x y) ρ H = (denE strF cf sc b x ρ H).get fun v H => (denE strF cf sc b y ρ H).get fun w H => (match cmpop op v w H with | some r => .ok r H | none => .bad) := rfl
theorem dT_and : denT strF cf sc b (.and es) ρ H = denAndT strF cf sc b es ρ H := rfl
theorem dT_or : denT strF cf sc b (.or es) ρ H = denOrT strF cf sc b es ρ H := rfl
theorem dT_var {i : Nat} : denT strF cf sc b (.var i) ρ H = (match ρ[i]? with | some (some (.bool v)) => .ok v H | _ => .bad) := rfl
theorem dT_call {k : Nat} : denT strF cf sc b (.call k es) ρ H = (denEs strF cf sc b es ρ H).get fun vs H => (cf k vs H).get fun v H => (match v with | .bool t => .ok t H | _ => .bad) := rfl
theorem dT_prim {p : Prim} : denT strF cf sc b (.prim p es) ρ H = (denEs strF cf sc b es ρ H).get fun vs H => (prim strF sc p vs H).get fun v H => (match v with | .bool t => .ok t H | _ => .bad) := rfl
theorem dA_cons : denAnd strF cf sc b (.cons x (.cons y es)) ρ H = (denE strF cf sc b x ρ H).get fun v H => (match v with
      | .bool false => .ok (.bool false) H
      | .bool true => denAnd strF cf sc b (.cons y es) ρ H
      | _ => .bad) := rfl
theorem dAT_cons : denAndT strF cf sc b (.cons x es) ρ H = (denT strF cf sc b x ρ H).get fun v H => if v then denAndT strF cf sc b es ρ H else .ok false H := rfl
theorem dOT_cons : denOrT strF cf sc b (.cons x es) ρ H = (denT strF cf sc b x ρ H).get fun v H => if v then .ok true H else denOrT strF cf sc b es ρ H := rfl
theorem dEs_nil : denEs strF cf sc b .nil ρ H = .ok [] H := rfl
theorem dEs_cons : denEs strF cf sc b (.cons x es) ρ H = (denE strF cf sc b x ρ H).thn fun v H => (denEs strF cf sc b es ρ H).thn fun vs H => .ok (v :: vs) H := rfl
theorem dO_some : denO strF cf sc b (.some x) ρ H = (denE strF cf sc b x ρ H).get fun v H => (match v with | .int i => .ok (some i) H | _ => .bad) := rfl
theorem dI_of : denI strF cf sc b (.of x) ρ H = (denE strF cf sc b x ρ H).get fun v H => (match v with
      | .ref r => (match H[r]? with | some (.list xs) => .ok (xs, [(r, xs)]) H | _ => .bad)
      | _ => .bad) := rfl
theorem dI_range1 : denI strF cf sc b (.range1 x) ρ H = (denE strF cf sc b x ρ H).get fun v H => (match v with | .int k => if inR k then .ok (rangeL 0 k, []) H else .bad | _ => .bad) := rfl
end
section
variable {i j : Int} {H : AHeap} {r q : Nat}
theorem b_add : binop .Add (.int i) (.int j) H = .ok (.int (i + j)) H := rfl
theorem b_sub : binop .Sub (.int i) (.int j) H = .ok (.int (i - j)) H := rfl
theorem b_mul : binop .Mult (.int i) (.int j) H = if mulOk i j then .ok (.int (i * j)) H else .bad := rfl
theorem b_div : binop .FloorDiv (.int i) (.int j) H = if j ≠ 0 ∧ j.natAbs < big then .ok (.int (i.fdiv j)) H else .bad := rfl
theorem b_mod : binop .Mod (.int i) (.int j) H = if j ≠ 0 then .ok (.int (i.fmod j)) H else .bad := rfl
theorem b_addL : binop .Add (.ref r) (.ref q) H = (match H[r]?, H[q]? with
      | some (.list xs), some (.list ys) => alloc (xs ++ ys) H
      | _, _ => .bad) := by
  show (((H[r]?).bind objL).bind fun xs => ((H[q]?).bind objL).map fun ys => alloc (xs ++ ys) H).getD .bad = _
  rcases H[r]? with _ | (_ | _) <;> rcases H[q]? with _ | (_ | _) <;> rfl
theorem c_lt : cmpop .Lt (.int i) (.int j) H = some (decide (i < j)) := rfl
theorem c_le : cmpop .LtE (.int i) (.int j) H = some (decide (i ≤ j)) := rfl
theorem c_gt : cmpop .Gt (.int i) (.int j) H = some (decide (j < i)) := rfl
theorem c_eq : cmpop .Eq (.int i) (.int j) H = some (i == j) := rfl
theorem c_ne : cmpop .NotEq (.int i) (.int j) H = some (!(i == j)) := rfl
theorem c_eqR {v : AV} : cmpop .Eq (.ref r) v H = eqOf (.ref r) v H := rfl
theorem c_neR {v : AV} : cmpop .NotEq (.ref r) v H = (eqOf (.ref r) v H).map (!·) := rfl
theorem c_neB {c : Bool} {v : AV} : cmpop .NotEq (.bool c) v H = (eqOf (.bool c) v H).map (!·) := rfl
theorem c_notin {v w : AV} : cmpop .NotIn v w H = (inOf v w H).map (!·) := rfl
end
section
variable {strF : SrtF} {sc : List Int} {H : AHeap} {r : Nat} {vs : List AV} {i j : Int} {v : AV}
theorem p_lenS : prim strF sc .len [.scr] H = .ok (.int sc.length) H := rfl
theorem p_lenR : prim strF sc .len [.ref r] H = (match items (.ref r) H with | some xs => .ok (.int xs.length) H | none => .bad) := rfl
theorem p_lenT : prim strF sc .len [.tup vs] H = .ok (.int vs.length) H := rfl
theorem p_list : prim strF sc .list [v] H = (match items v H with | some xs => alloc xs H | none => .bad) := rfl
theorem p_lrange : prim strF sc .listRange [.int i] H = if inR i then alloc (rangeL 0 i) H else .bad := rfl
theorem p_sorted : prim strF sc .sorted [.ref r] H = (match H[r]? with
      | some (.list xs) => if xs.length < 64 then (match intsOf xs with
          | some is => alloc ((sortI is).map .int) H
          | none => .bad) else .bad
      | _ => .bad) := rfl
theorem p_min2 : prim strF sc .min2 [.int i, .int j] H = .ok (.int (min i j)) H := rfl
theorem p_max2 : prim strF sc .max2 [.int i, .int j] H = .ok (.int (max i j)) H := rfl
theorem p_all : prim strF sc .all [.ref r] H = (match H[r]? with
      | some (.list xs) => (match boolsOf xs with
          | some bs => .ok (.bool (bs.all id)) H
          | none => .bad)
      | _ => .bad) := rfl
theorem p_tuple : prim strF sc .tuple [v] H = (match items v H with | some xs => .ok (.tup xs) H | none => .bad) := rfl
theorem p_isInt : prim strF sc .isInt [v] H = ofKind (isIntK v) H := rfl
theorem p_isBool : prim strF sc .isBool [v] H = ofKind (isBoolK v) H := rfl
theorem p_isList : prim strF sc .isList [v] H = ofKind (isListK v H) H := rfl
theorem p_isTuple : prim strF sc .isTuple [v] H = ofKind (isTupleK v) H := rfl
theorem k_list : isListK (.ref r) H = (match H[r]? with
    | some (.list _) => some true
    | some .dict => some false
    | none => none) := rfl
theorem i_ref : items (.ref r) H = (match H[r]? with
      | some (.list xs) => some xs
      | _ => none) := rfl
end
theorem rangeL_cons {a c : Int} (h : a < c) : rangeL a c = .int a :: rangeL (a + 1) c := by
  unfold rangeL
  rw [show (c - a).toNat = (c - (a + 1)).toNat + 1 by (first | lia | omega), List.range_succ_eq_map]
  simp only [List.map_cons, List.map_map, List.cons.injEq]
  refine ⟨by simp, List.map_congr_left fun k _ => ?_⟩
  simp only [Function.comp]
  congr 1
  (first | lia | omega)
theorem cutAt_nat {n c : Nat} (h : c ≤ n) : cutAt n (c : Int) = c := by
  unfold cutAt
  rw [if_neg (by (first | lia | omega)), Int.min_eq_left (by (first | lia | omega)), Int.max_eq_right (by (first | lia | omega))]; rfl
end Mine

namespace Mine

/-! Sums and determinants. -/
abbrev Mat := Nat → Nat → Int
noncomputable def sumR : Nat → (Nat → Int) → Int
  | 0, _ => 0
  | n + 1, f => sumR n f + f n

noncomputable def sgn (i : Nat) : Int := if i % 2 = 0 then 1 else -1
noncomputable def skip (i a : Nat) : Nat := if a < i then a else a + 1
theorem skip_lt {n i a : Nat} (hi : i < n + 1) (ha : a < n) : skip i a < n + 1 := by unfold skip; split <;> (first | lia | omega)
noncomputable def det : Nat → Mat → Int
  | 0, _ => 1
  | n + 1, M => sumR (n + 1) fun i => sgn i * M i 0 * det n (fun a b => M (skip i a) (b + 1))

end Mine

namespace Mine

noncomputable def sel (k i a : Nat) : Nat := if a < k then a else i
/-- the minor of the first k rows and i, the first k columns and j -/
noncomputable def E (M : Mat) (k i j : Nat) : Int := det (k + 1) fun a b => M (sel k i a) (sel k j b)
end Mine

namespace Mine
open PySem

/-! sorted lists without repeats -/
theorem strict_same : ∀ {a b : List Int}, a.Pairwise (· < ·) → b.Pairwise (· < ·) → (∀ x, x ∈ a ↔ x ∈ b) → a = b
  | [], [], _, _, _ => rfl
  | [], y :: b, _, _, h => absurd ((h y).mpr List.mem_cons_self) (by simp)
  | x :: a, [], _, _, h => absurd ((h x).mp List.mem_cons_self) (by simp)
  | x :: a, y :: b, ha, hb, h => by
    obtain ⟨a1, a2⟩ := List.pairwise_cons.mp ha
    obtain ⟨b1, b2⟩ := List.pairwise_cons.mp hb
    have e : x = y := by
      rcases List.mem_cons.mp ((h x).mp List.mem_cons_self) with e | m
      · exact e
      · rcases List.mem_cons.mp ((h y).mpr List.mem_cons_self) with e | m'
        · exact e.symm
        · have := a1 y m'; have := b1 x m; (first | lia | omega)
    subst e
    rw [strict_same a2 b2 fun z => ?_]
    constructor
    · intro m
      rcases List.mem_cons.mp ((h z).mp (List.mem_cons_of_mem _ m)) with e | m'
      · have := a1 z m; (first | lia | omega)
      · exact m'
    · intro m
      rcases List.mem_cons.mp ((h z).mpr (List.mem_cons_of_mem _ m)) with e | m'
      · have := b1 z m; (first | lia | omega)
      · exact m'
theorem mem_insertI {x z : Int} : ∀ {l : List Int}, z ∈ insertI x l ↔ z = x ∨ z ∈ l
  | [] => by unfold insertI; simp
  | y :: l => by
    unfold insertI
    split
    · simp
    · rw [List.mem_cons, mem_insertI, List.mem_cons]
      constructor <;> rintro (h | h | h) <;> simp [h]
theorem mem_sortI {z : Int} : ∀ {l : List Int}, z ∈ sortI l ↔ z ∈ l
  | [] => Iff.rfl
  | x :: l => by unfold sortI; rw [mem_insertI, mem_sortI, List.mem_cons]
theorem pw_insertI {x : Int} : ∀ {l : List Int}, l.Pairwise (· ≤ ·) → (insertI x l).Pairwise (· ≤ ·)
  | [], _ => by unfold insertI; exact List.pairwise_singleton _ _
  | y :: l, h => by
    obtain ⟨h1, h2⟩ := List.pairwise_cons.mp h
    unfold insertI
    split
    · rename_i q
      exact List.pairwise_cons.mpr ⟨fun z hz => by
        rcases List.mem_cons.mp hz with rfl | hz
        · exact q
        · exact Int.le_trans q (h1 z hz), h⟩
    · rename_i q
      exact List.pairwise_cons.mpr ⟨fun z hz => by
        rcases mem_insertI.mp hz with rfl | hz
        · (first | lia | omega)
        · exact h1 z hz, pw_insertI h2⟩
theorem pw_sortI : ∀ (l : List Int), (sortI l).Pairwise (· ≤ ·)
  | [] => .nil
  | x :: l => by unfold sortI; exact pw_insertI (pw_sortI l)
theorem dedup_cons (x : Int) (l : List Int) : dedupSorted (x :: l) = (match dedupSorted l with
    | [] => [x]
    | y :: r' => if x = y then y :: r' else x :: y :: r') := rfl
theorem dedup_head {x : Int} : ∀ {l : List Int}, (∀ z ∈ l, x ≤ z) → ∀ z ∈ dedupSorted l, x ≤ z
  | [], _, z, h => by cases h
  | y :: l, h, z, hz => by
    rw [dedup_cons] at hz
    have ih := dedup_head fun z hz => h z (List.mem_cons_of_mem _ hz)
    have hy := h y List.mem_cons_self
    cases e : dedupSorted l with
    | nil => rw [e] at hz; simp at hz; (first | lia | omega)
    | cons u r =>
      rw [e] at hz ih
      dsimp only at hz
      split at hz
      · exact ih z hz
      · rcases List.mem_cons.mp hz with rfl | hz
        · exact hy
        · exact ih z hz
theorem dedup_spec : ∀ {l : List Int}, l.Pairwise (· ≤ ·) → (dedupSorted l).Pairwise (· < ·) ∧ ∀ z, z ∈ dedupSorted l ↔ z ∈ l
  | [], _ => ⟨.nil, fun z => Iff.rfl⟩
  | x :: l, h => by
    obtain ⟨h1, h2⟩ := List.pairwise_cons.mp h
    obtain ⟨i1, i2⟩ := dedup_spec h2
    have hh := dedup_head h1
    rw [dedup_cons]
    cases e : dedupSorted l with
    | nil =>
      rw [e] at i2
      refine ⟨List.pairwise_singleton _ _, fun z => ?_⟩
      rw [List.mem_cons, List.mem_cons, ← i2 z]
    | cons y r =>
      rw [e] at i1 i2 hh
      dsimp only
      by_cases q : x = y
      · rw [if_pos q]
        refine ⟨i1, fun z => ?_⟩
        rw [i2 z, List.mem_cons]
        constructor
        · exact .inr
        · rintro (rfl | m)
          · exact (i2 z).mp (by rw [q]; exact List.mem_cons_self)
          · exact m
      · rw [if_neg q]
        refine ⟨List.pairwise_cons.mpr ⟨fun z hz => ?_, i1⟩, fun z => ?_⟩
        · have a1 := hh z hz
          have a2 := hh y List.mem_cons_self
          rcases List.mem_cons.mp hz with rfl | hz
          · (first | lia | omega)
          · have := (List.pairwise_cons.mp i1).1 z hz; (first | lia | omega)
        · rw [List.mem_cons, i2 z, List.mem_cons]
end Mine

namespace Mine
open PySem

/-! What the interpreter answers, by what is wanted of it. -/
noncomputable def Res.sat {α : Type} (r : Res α) (K : α → AHeap → Prop) : Prop := match r with
  | .ok a H => K a H
  | _ => False
noncomputable def SR.sat (r : SR) (N : AEnv → AHeap → Prop) (R : AV → AHeap → Prop) : Prop := match r with
  | .next ρ H => N ρ H
  | .ret v H => R v H
  | _ => False

theorem Res.sat_ok {α : Type} {a : α} {H : AHeap} {K : α → AHeap → Prop} : (Res.ok a H).sat K = K a H := rfl
theorem Res.sat_get {α β : Type} {r : Res α} {f : α → AHeap → Res β} {K : β → AHeap → Prop} : (r.get f).sat K = r.sat fun a H => (f a H).sat K := by cases r <;> rfl
inductive SatEx {α : Type} (r : Res α) (K : α → AHeap → Prop) : Prop
  | mk (a : α) (H : AHeap) (e : r = .ok a H) (k : K a H) : SatEx r K
theorem Res.sat_ex {α : Type} {r : Res α} {K : α → AHeap → Prop} (h : r.sat K) : SatEx r K := by
  cases r with
  | ok a H => exact ⟨a, H, rfl, h⟩
  | exc c H => exact h.elim
  | bad => exact h.elim
theorem SR.sat_mono {r : SR} {N N' : AEnv → AHeap → Prop} {R R' : AV → AHeap → Prop} (h : r.sat N R) (q : ∀ a H, N a H → N' a H) (q' : ∀ a H, R a H → R' a H) : r.sat N' R' := by
  cases r with
  | next ρ H => exact q _ _ h
  | ret v H => exact q' _ _ h
  | exc c H => exact h
  | bad => exact h

section
variable {strF : SrtF} {cf : Nat → List AV → AHeap → Res AV} {sc : List Int} {b : Nat} {ρ : AEnv} {H : AHeap} {N : AEnv → AHeap → Prop} {R : AV → AHeap → Prop}

theorem sat_nil : (denSs strF cf sc b .nil ρ H).sat N R = N ρ H := rfl
theorem sat_cons {s : PS} {ss : PSs} : (denSs strF cf sc b (.cons s ss) ρ H).sat N R = (denS strF cf sc b s ρ H).sat (fun ρ H => (denSs strF cf sc b ss ρ H).sat N R) R := by
  show SR.sat (match denS strF cf sc b s ρ H with | .next ρ H => denSs strF cf sc b ss ρ H | r => r) N R = _
  cases denS strF cf sc b s ρ H <;> rfl
theorem sat_assign {i : Nat} {e : PE} : (denS strF cf sc b (.assign i e) ρ H).sat N R = (denE strF cf sc b e ρ H).sat fun v H => N (ρ.set i (some v)) H := by
  show SR.sat (match denE strF cf sc b e ρ H with | .ok v H => .next (ρ.set i (some v)) H | _ => .bad) N R = _
  cases denE strF cf sc b e ρ H <;> rfl
theorem sat_assigns {is : List Nat} {e : PE} : (denS strF cf sc b (.assigns is e) ρ H).sat N R = (denE strF cf sc b e ρ H).sat fun v H => ∃ vs ρ', v = .tup vs ∧ setVars is vs ρ = some ρ' ∧ N ρ' H := by
  show SR.sat (match denE strF cf sc b e ρ H with
      | .ok v H => (match v with
        | .tup vs => (match setVars is vs ρ with | some ρ' => .next ρ' H | none => .bad)
        | _ => .bad)
      | _ => .bad) N R = _
  cases denE strF cf sc b e ρ H with
  | ok v H =>
    cases v with
    | tup vs =>
      simp only [Res.sat]
      cases e' : setVars is vs ρ with
      | none => simp [SR.sat, e']
      | some ρ' => simp [SR.sat, e']
    | _ => simp [SR.sat, Res.sat]
  | exc c H => rfl
  | bad => rfl
theorem sat_ite {c : PE} {t e : PSs} : (denS strF cf sc b (.ite c t e) ρ H).sat N R = (denT strF cf sc b c ρ H).sat fun v H => if v then (denSs strF cf sc b t ρ H).sat N R else (denSs strF cf sc b e ρ H).sat N R := by
  show SR.sat (match denT strF cf sc b c ρ H with
      | .ok true H => denSs strF cf sc b t ρ H
      | .ok false H => denSs strF cf sc b e ρ H
      | _ => .bad) N R = _
  cases denT strF cf sc b c ρ H with
  | ok v H => cases v <;> rfl
  | exc c H => rfl
  | bad => rfl
theorem sat_for1 {i : Nat} {it : It} {body : PSs} : (denS strF cf sc b (.for1 i it body) ρ H).sat N R = (denI strF cf sc b it ρ H).sat fun p H => (forL p.2 (fun v ρ H => denSs strF cf sc b body (ρ.set i (some v)) H) p.1 ρ H).sat N R := by
  show SR.sat (match denI strF cf sc b it ρ H with
      | .ok p H => forL p.2 (fun v ρ H => denSs strF cf sc b body (ρ.set i (some v)) H) p.1 ρ H
      | _ => .bad) N R = _
  cases denI strF cf sc b it ρ H <;> rfl
theorem sat_for2 {i j : Nat} {it : It} {body : PSs} : (denS strF cf sc b (.for2 i j it body) ρ H).sat N R = (denI strF cf sc b it ρ H).sat fun p H => (forL p.2 (fun v ρ H => pairS (fun x y => denSs strF cf sc b body ((ρ.set i (some x)).set j (some y)) H) v) p.1 ρ H).sat N R := by
  show SR.sat (match denI strF cf sc b it ρ H with
      | .ok p H => forL p.2 (fun v ρ H => pairS (fun x y => denSs strF cf sc b body ((ρ.set i (some x)).set j (some y)) H) v) p.1 ρ H
      | _ => .bad) N R = _
  cases denI strF cf sc b it ρ H <;> rfl
theorem excS_sat {t : Bool} {c : Nat} {H : AHeap} : (excS t c H).sat N R = False := by cases t <;> rfl
theorem sat_ret {e : PE} : (denS strF cf sc b (.ret e) ρ H).sat N R = (denE strF cf sc b e ρ H).sat R := by
  show SR.sat (match denE strF cf sc b e ρ H with | .ok v H => .ret v H | .exc c H => excS (raisy e) c H | .bad => .bad) N R = _
  cases denE strF cf sc b e ρ H with
  | ok => rfl
  | exc => exact excS_sat
  | bad => rfl
theorem sat_expr {e : PE} : (denS strF cf sc b (.expr e) ρ H).sat N R = (denE strF cf sc b e ρ H).sat fun _ H => N ρ H := by
  show SR.sat (match denE strF cf sc b e ρ H with | .ok _ H => .next ρ H | .exc c H => excS (raisy e) c H | .bad => .bad) N R = _
  cases denE strF cf sc b e ρ H with
  | ok => rfl
  | exc => exact excS_sat
  | bad => rfl

/-- a def's call -/
theorem sat_call {P : Nat → Option FnI} {n k : Nat} {f : FnI} {args : List AV} {K : AV → AHeap → Prop} (hk : P k = some f) (hl : args.length = f.np) :
    (callF strF P sc (n + 1) k args H).sat K = (denSs strF (callF strF P sc n) sc H.length f.body (args.map some ++ List.replicate (f.nv - f.np) none) H).sat (fun _ H => K .none H) K := by
  rw [callF, hk]
  simp only [hl, if_true]
  cases denSs strF (callF strF P sc n) sc H.length f.body (args.map some ++ List.replicate (f.nv - f.np) none) H <;> rfl

/-- a for over ints -/
theorem forL_range {step : AV → AEnv → AHeap → SR} (I : Int → AEnv → AHeap → Prop) {x y : Int} (hxy : x ≤ y) (h0 : I x ρ H)
    (hs : ∀ i ρ H, x ≤ i → i < y → I i ρ H → (step (.int i) ρ H).sat (I (i + 1)) R) (hN : ∀ ρ H, I y ρ H → N ρ H) : (forL [] step (rangeL x y) ρ H).sat N R := by
  obtain ⟨d, hd⟩ : ∃ d : Nat, y = x + d := ⟨(y - x).toNat, by (first | lia | omega)⟩
  induction d generalizing x ρ H with
  | zero =>
    have : rangeL x y = [] := by unfold rangeL; rw [show (y - x).toNat = 0 by (first | lia | omega)]; rfl
    rw [this]
    show N ρ H
    exact hN _ _ (by rw [show y = x by (first | lia | omega)]; exact h0)
  | succ d ih =>
    have : rangeL x y = .int x :: rangeL (x + 1) y := rangeL_cons (by (first | lia | omega))
    rw [this]
    unfold forL
    have h1 := hs x ρ H (by (first | lia | omega)) (by (first | lia | omega)) h0
    cases e : step (.int x) ρ H with
    | next ρ' H' =>
      rw [e] at h1
      simp only [List.all_nil, if_true]
      exact ih (by (first | lia | omega)) h1 (fun i ρ H hi hy q => hs i ρ H (by (first | lia | omega)) hy q) (by (first | lia | omega))
    | ret v H' => rw [e] at h1; exact h1
    | exc c H' => rw [e] at h1; exact h1
    | bad => rw [e] at h1; exact h1
end
end Mine

namespace Mine
open PySem

noncomputable def fn_5 : FnI := ⟨2, 2, .cons (.ite (.cmp .Lt (.var 1) (.prim .len (.cons (.var 0) .nil))) (.cons (.ret (.idx (.var 0) (.var 1))) .nil) .nil) (.cons (.ret (.int 0)) .nil)⟩
noncomputable def fn_6 : FnI := ⟨2, 2, .cons (.ret (.bin .Mod (.bin .Add (.bin .Mult (.call 5 (.cons (.var 0) (.cons (.var 1) .nil))) (.int 48271)) (.bin .Mult (.bin .Mult (.int 7919) (.var 1)) (.var 1))) (.int 1000003))) .nil⟩
section
variable {strF : SrtF} {sc : List Int} {P : Nat → Option FnI} {H : AHeap} {n : Nat}

noncomputable def cellAt (sc : List Int) (k : Nat) : Int := sc.getD k 0
noncomputable def mix (sc : List Int) (k : Nat) : Int := (cellAt sc k * 48271 + 7919 * k * k).fmod 1000003
theorem cell_spec (h5 : P 5 = some fn_5) (k : Nat) : callF strF P sc (n + 1) 5 [.scr, .int k] H = .ok (.int (cellAt sc k)) H := by
  have : (callF strF P sc (n + 1) 5 [.scr, .int k] H).sat fun v H' => v = .int (cellAt sc k) ∧ H' = H := by
    rw [sat_call h5 rfl]
    simp only [fn_5, sat_cons, sat_ite, sat_ret, sat_nil, dE_none, dE_bool, dE_int, dE_var, dE_gint, dE_bin, dE_neg, dE_not, dE_cmp, dE_cmp2, dE_and, dE_or, dE_ite, dE_call, dE_prim, dE_idx, dE_slice, dE_list, dE_tuple, dE_comp1, dE_comp2, dE_append, dEs_nil, dEs_cons, dT_not, dT_cmp, dT_and, dT_or, dT_var, dT_call, dT_prim, Res.sat_get, Res.sat_ok, List.map, List.cons_append, List.nil_append, List.getElem?_cons_zero, List.getElem?_cons_succ, Res.get, Res.thn, p_lenS, p_lenR, p_lenT, p_list, p_lrange, p_sorted, p_min2, p_max2, p_all, p_isInt, p_isBool, p_isList, p_isTuple, c_lt, c_le, c_gt, c_eq, c_ne, c_eqR, c_neR, c_neB, c_notin, itemOf]
    by_cases h : k < sc.length
    · have : decide ((k : Int) < (sc.length : Int)) = true := by simpa using h
      simp [this, Res.sat, h, cellAt]
    · have : decide ((k : Int) < (sc.length : Int)) = false := by simpa using h
      have hn : sc[k]? = none := List.getElem?_eq_none (by (first | lia | omega))
      simp [h, hn, Res.sat, cellAt]
  obtain ⟨v, H', e, rfl, rfl⟩ := Res.sat_ex this
  exact e
theorem small_lit {i : Int} (h : i.natAbs < 2 ^ 60) : small i = true := by unfold small; simpa using h
theorem mix_spec (h5 : P 5 = some fn_5) (h6 : P 6 = some fn_6) {k : Nat} (hk : k < 1000) : callF strF P sc (n + 2) 6 [.scr, .int k] H = .ok (.int (mix sc k)) H := by
  have : (callF strF P sc (n + 2) 6 [.scr, .int k] H).sat fun v H' => v = .int (mix sc k) ∧ H' = H := by
    rw [sat_call h6 rfl]
    have m1 : mulOk (cellAt sc k) 48271 = true := by unfold mulOk; rw [small_lit (i := 48271) (by decide)]; simp
    have m2 : mulOk 7919 k = true := by unfold mulOk; rw [small_lit (i := 7919) (by decide)]; simp
    have m3 : mulOk (7919 * (k : Int)) k = true := by unfold mulOk; rw [small_lit (i := (k : Int)) (by (first | lia | omega))]; simp
    simp only [fn_6, sat_cons, sat_ret, sat_nil, dE_none, dE_bool, dE_int, dE_var, dE_gint, dE_bin, dE_neg, dE_not, dE_cmp, dE_cmp2, dE_and, dE_or, dE_ite, dE_call, dE_prim, dE_idx, dE_slice, dE_list, dE_tuple, dE_comp1, dE_comp2, dE_append, dEs_nil, dEs_cons, Res.sat_get, Res.sat_ok, List.map, List.cons_append, List.nil_append, List.getElem?_cons_zero, List.getElem?_cons_succ, Res.get, Res.thn, b_add, b_sub, b_mul, b_div, b_mod, b_addL, cell_spec h5, m1, m2, m3, if_true]
    simp [Res.sat, mix]
  obtain ⟨v, H', e, rfl, rfl⟩ := Res.sat_ex this
  exact e
end

/-! tables -/
section
variable {sc : List Int} {H : AHeap} {t n : Nat} {qs : List Nat} {A : Mat}
theorem item_ref {r : Nat} {xs : List AV} {x : AV} {k : Nat} (h : H[r]? = some (.list xs)) (hx : xs[k]? = some x) : itemOf sc (.ref r) (.int k) H = .ok x H := by
  have hk : k < xs.length := (List.getElem?_eq_some_iff.mp hx).1
  unfold itemOf items at?
  simp only [h]
  rw [if_pos ⟨by (first | lia | omega), by (first | lia | omega)⟩]
  simp [hx]
end

section
variable {strF : SrtF} {sc : List Int} {P : Nat → Option FnI} {H : AHeap} {n m : Nat} {t at' : Nat} {qs : List Nat} {A : Mat}
end
end Mine

namespace Mine
open PySem

theorem prefix_set {H0 H : AHeap} {r : Nat} {o : AObj} (p : H0 <+: H) (h : H0.length ≤ r) : H0 <+: H.set r o := by
  obtain ⟨x, rfl⟩ := p
  rw [List.set_append_right _ _ h]
  exact List.prefix_append ..

section
variable {H0 H : AHeap} {t n : Nat} {qs : List Nat} {A : Mat}
end

section
variable {strF : SrtF} {cf : Nat → List AV → AHeap → Res AV} {sc : List Int} {H0 H : AHeap} {t n k : Nat} {qs : List Nat} {A M : Mat} {sg last : Int} {ρ : AEnv} {N : AEnv → AHeap → Prop} {R : AV → AHeap → Prop}

end
end Mine

namespace Mine
open PySem

theorem still_of {H : AHeap} {r : Nat} {xs : List AV} (h : H[r]? = some (.list xs)) : still H r xs = true := by
  unfold still
  rw [h]
  simp
theorem get_pre {H H' : AHeap} {r : Nat} {o : AObj} (p : H <+: H') (h : H[r]? = some o) : H'[r]? = some o := by
  obtain ⟨x, rfl⟩ := p
  rw [List.getElem?_append_left (List.getElem?_eq_some_iff.mp h).1]; exact h

section
variable {strF : SrtF} {cf : Nat → List AV → AHeap → Res AV} {sc : List Int} {b : Nat} {H : AHeap} {t n : Nat} {qs : List Nat} {A : Mat} {ρ : AEnv}

end

section
variable {strF : SrtF} {sc : List Int} {P : Nat → Option FnI} {H0 H : AHeap} {t n m k : Nat} {qs : List Nat} {A M M0 : Mat} {sg last : Int} {ρ : AEnv} {N : AEnv → AHeap → Prop} {R : AV → AHeap → Prop}

end
end Mine

namespace Mine
open PySem

theorem last_get (H : AHeap) (o : AObj) : (H ++ [o])[H.length]? = some o := by simp
theorem pre_app (H X : AHeap) : H <+: H ++ X := List.prefix_append ..

section
variable {strF : SrtF} {sc : List Int} {P : Nat → Option FnI} {H : AHeap} {n m : Nat} {ρ : AEnv}

theorem rangeL_nat (n : Nat) : rangeL 0 n = (List.range n).map fun (k : Nat) => AV.int (k : Int) := by
  unfold rangeL
  simp

end
end Mine

namespace Mine
open PySem

section
variable {strF : SrtF} {sc : List Int} {P : Nat → Option FnI} {H H0 : AHeap} {n m : Nat} {ρ : AEnv}

end
end Mine

namespace Mine
open PySem

/-! reading tables -/
/-! triangular tables -/
end Mine

namespace Mine
open PySem

section
variable {strF : SrtF} {sc : List Int} {P : Nat → Option FnI} {H : AHeap} {n m : Nat} {ρ : AEnv} {N : AEnv → AHeap → Prop} {R : AV → AHeap → Prop} {t : Nat} {due : Int} {A : Mat} {qs : List Nat}

inductive ModR (c : Int) (n : Nat) : Prop
  | mk (k : Nat) (e : c.fmod n = k) (h : k < n) : ModR c n
theorem fmod_nat {c : Int} {n : Nat} (hn : 0 < n) : ModR c n := by
  have h1 : 0 ≤ c.fmod n := Int.fmod_nonneg_of_pos _ (by (first | lia | omega))
  have h2 : c.fmod n < n := Int.fmod_lt_of_pos _ (by (first | lia | omega))
  exact ⟨(c.fmod n).toNat, by (first | lia | omega), by (first | lia | omega)⟩
theorem natAbs_small {i : Int} (h1 : -1000 ≤ i) (h2 : i ≤ 1000) : small i = true := small_lit (Nat.lt_trans (show i.natAbs < 2000 by (first | lia | omega)) (by decide))
theorem big_lit {i : Int} (h : i.natAbs < 1000000) : i.natAbs < big := Nat.lt_of_lt_of_le h (by decide)

end
end Mine

namespace Mine
open PySem

section
variable {strF : SrtF} {sc : List Int} {P : Nat → Option FnI} {H : AHeap} {n m : Nat} {ρ : AEnv}

end
end Mine

namespace Mine
open PySem

theorem inR_nat {n : Nat} (h : n ≤ 1000) : inR (n : Int) = true := by unfold inR; simp; (first | lia | omega)
theorem lim_nat {n : Nat} (h : n ≤ 1000) : n ≤ lim := Nat.le_trans h (by decide)

section
variable {strF : SrtF} {sc : List Int} {P : Nat → Option FnI} {H H0 : AHeap} {n m : Nat} {ρ : AEnv} {cf : Nat → List AV → AHeap → Res AV}

end
end Mine

namespace Mine
open PySem

section
variable {strF : SrtF} {sc : List Int} {P : Nat → Option FnI} {H H0 : AHeap} {n m : Nat} {ρ : AEnv} {cf : Nat → List AV → AHeap → Res AV}

end
end Mine

namespace Mine

/-! expansion along any row, cofactors -/
/-! ties -/
noncomputable def okT (n : Nat) (E : List (Nat × Nat)) : Prop := ∀ e ∈ E, e.1 < n ∧ e.2 < n
/-- two places are one -/
noncomputable def join (lo hi p : Nat) : Nat := if p = hi then lo else if p < hi then p else p - 1
noncomputable def joinE (lo hi : Nat) (e : Nat × Nat) : Nat × Nat := (join lo hi e.1, join lo hi e.2)
theorem okT_join {n lo hi : Nat} {E : List (Nat × Nat)} (hl : lo < hi) (hh : hi < n + 1) (h : okT (n + 1) E) : okT n (E.map (joinE lo hi)) := by
  intro e he
  obtain ⟨x, hx, rfl⟩ := List.mem_map.mp he
  have := h x hx
  unfold joinE join
  constructor <;> simp only <;> split <;> (try split) <;> (first | lia | omega)
/-! tallies are not below nought; they are nought just where the net does not hang together -/
theorem okT_tail {n : Nat} {e : Nat × Nat} {E : List (Nat × Nat)} (h : okT n (e :: E)) : okT n E := fun x hx => h x (List.mem_cons_of_mem _ hx)

inductive Conn (E : List (Nat × Nat)) : Nat → Nat → Prop
  | refl (p : Nat) : Conn E p p
  | tie {e : Nat × Nat} : e ∈ E → Conn E e.1 e.2
  | symm {p q : Nat} : Conn E p q → Conn E q p
  | trans {p q r : Nat} : Conn E p q → Conn E q r → Conn E p r
theorem Conn.mono {E F : List (Nat × Nat)} {p q : Nat} (c : Conn E p q) (h : ∀ e ∈ E, Conn F e.1 e.2) : Conn F p q := by
  induction c with
  | refl p => exact .refl p
  | tie m => exact h _ m
  | symm _ ih => exact ih.symm
  | trans _ _ i1 i2 => exact i1.trans i2
theorem Conn.join {lo hi : Nat} {E : List (Nat × Nat)} {p q : Nat} (c : Conn ((lo, hi) :: E) p q) (hl : lo < hi) : Conn (E.map (joinE lo hi)) (join lo hi p) (join lo hi q) := by
  induction c with
  | refl p => exact .refl _
  | tie m =>
    rcases List.mem_cons.mp m with rfl | m
    · have : Mine.join lo hi lo = Mine.join lo hi hi := by unfold Mine.join; rw [if_neg (by (first | lia | omega)), if_pos hl, if_pos rfl]
      show Conn _ (Mine.join lo hi lo) (Mine.join lo hi hi)
      rw [this]; exact .refl _
    · exact Conn.tie (E := E.map (joinE lo hi)) (List.mem_map_of_mem m)
  | symm _ ih => exact ih.symm
  | trans _ _ i1 i2 => exact i1.trans i2
theorem join_skip {lo hi y : Nat} : join lo hi (skip hi y) = y := by
  unfold join skip
  repeat' split
  all_goals (first | lia | omega)
theorem join_hi {lo hi : Nat} : join lo hi hi = lo := if_pos rfl
theorem skip_join {lo hi x : Nat} (h : x ≠ hi) : skip hi (join lo hi x) = x := by
  unfold skip join
  rw [if_neg h]
  by_cases q : x < hi
  · rw [if_pos q, if_pos q]
  · rw [if_neg q, if_neg (by (first | lia | omega))]; (first | lia | omega)
theorem join_eq {lo hi p q : Nat} (hl : lo < hi) (h : join lo hi p = join lo hi q) : p = q ∨ ((p = lo ∨ p = hi) ∧ (q = lo ∨ q = hi)) := by
  have hs : skip hi lo = lo := if_pos hl
  by_cases hp : p = hi
  · by_cases hq : q = hi
    · exact .inl (hp.trans hq.symm)
    · refine .inr ⟨.inr hp, .inl ?_⟩
      rw [← skip_join (lo := lo) hq, ← h, hp, join_hi, hs]
  · by_cases hq : q = hi
    · refine .inr ⟨.inl ?_, .inr hq⟩
      rw [← skip_join (lo := lo) hp, h, hq, join_hi, hs]
    · exact .inl (by rw [← skip_join (lo := lo) hp, h, skip_join hq])
theorem Conn.unjoin {lo hi : Nat} {E : List (Nat × Nat)} {x y : Nat} (hl : lo < hi) (c : Conn (E.map (joinE lo hi)) x y) : ∀ p q, Mine.join lo hi p = x → Mine.join lo hi q = y → Conn ((lo, hi) :: E) p q := by
  have hlh : Conn ((lo, hi) :: E) lo hi := Conn.tie (e := (lo, hi)) List.mem_cons_self
  have same : ∀ p q, Mine.join lo hi p = Mine.join lo hi q → Conn ((lo, hi) :: E) p q := fun p q h => by
    rcases join_eq hl h with rfl | ⟨rfl | rfl, rfl | rfl⟩
    · exact .refl _
    · exact .refl _
    · exact hlh
    · exact hlh.symm
    · exact .refl _
  induction c with
  | refl x => intro p q h1 h2; exact same p q (h1.trans h2.symm)
  | tie m =>
    intro p q h1 h2
    obtain ⟨e, he, rfl⟩ := List.mem_map.mp m
    exact ((same p e.1 h1).trans (Conn.tie (List.mem_cons_of_mem _ he))).trans (same e.2 q h2.symm)
  | symm _ ih => intro p q h1 h2; exact (ih q p h2 h1).symm
  | @trans a b c _ _ i1 i2 =>
    intro p q h1 h2
    exact (i1 p (skip hi b) h1 join_skip).trans (i2 (skip hi b) q join_skip h2)
noncomputable def AllC (n : Nat) (E : List (Nat × Nat)) : Prop := ∀ p q, p < n → q < n → Conn E p q
theorem conn_nil {p q : Nat} (c : Conn [] p q) : p = q := by
  induction c with
  | refl p => rfl
  | tie m => cases m
  | symm _ ih => exact ih.symm
  | trans _ _ i1 i2 => exact i1.trans i2

end Mine

namespace Mine

/-! renumbering, order, turning -/
theorem join_lt {n lo hi x : Nat} (hl : lo < hi) (hh : hi < n + 1) (hx : x < n + 1) : join lo hi x < n := by
  unfold join
  repeat' split
  all_goals (first | lia | omega)
/-! two nets that meet at one place -/
noncomputable def ends (f p x : Nat) : Nat := if x = 0 then p else f + (x - 1)
end Mine

namespace Mine
open PySem

/-! ties in the heap -/
noncomputable def tieV (e : Nat × Nat) : AV := .tup [.int e.1, .int e.2]
noncomputable def tieD (e : Nat × Nat) : PyData := .tuple [.int e.1, .int e.2]
noncomputable abbrev TL (H : AHeap) (r : Nat) (E : List (Nat × Nat)) : Prop := H[r]? = some (.list (E.map tieV))

theorem mapM_ties {H : AHeap} {d : Nat} : ∀ (E : List (Nat × Nat)), (E.map tieV).mapM (rd H (d + 1)) = some (E.map tieD)
  | [] => rfl
  | x :: E => by
    rw [List.map_cons, List.mapM_cons, mapM_ties E]
    cases d <;> rfl
theorem rd_ties {H : AHeap} {r d : Nat} {E : List (Nat × Nat)} (h : TL H r E) : rd H (d + 2) (.ref r) = some (.list (E.map tieD)) := by
  unfold rd
  simp only [show H[r]? = some (.list (E.map tieV)) from h, mapM_ties]; rfl
theorem eqvAll_ties : ∀ (E : List (Nat × Nat)), PyData.eqvAll (E.map tieD) (E.map tieD) = true
  | [] => rfl
  | x :: E => by
    simp only [List.map_cons, PyData.eqvAll, eqvAll_ties E, tieD]
    simp [PyData.eqv, PyData.eqvAll]
theorem eqv_ties (E : List (Nat × Nat)) : PyData.eqv (.list (E.map tieD)) (.list (E.map tieD)) = true := by unfold PyData.eqv; exact eqvAll_ties E
theorem eqOf_ties {H : AHeap} {r q : Nat} {E : List (Nat × Nat)} (h : TL H r E) (h' : TL H q E) : eqOf (.ref r) (.ref q) H = some true := by
  unfold eqOf
  rw [rd_ties (d := 6) h, rd_ties (d := 6) h']
  simp only [eqv_ties]
theorem eqOf_nil {H : AHeap} {r : Nat} {E : List (Nat × Nat)} (h : TL H r E) : eqOf (.ref r) (.ref H.length) (H ++ [.list []]) = some (decide (E = [])) := by
  have h2 : TL (H ++ [.list []]) H.length [] := last_get _ _
  unfold eqOf
  rw [rd_ties (d := 6) (get_pre (pre_app _ _) h), rd_ties (d := 6) h2]
  cases E with
  | nil => rfl
  | cons e E => rfl

section
variable {strF : SrtF} {sc : List Int} {P : Nat → Option FnI} {H H0 : AHeap} {n m : Nat} {ρ : AEnv} {cf : Nat → List AV → AHeap → Res AV} {N : AEnv → AHeap → Prop} {R : AV → AHeap → Prop}

theorem ties_get {E : List (Nat × Nat)} {k : Nat} {v : AV} (h : (E.map tieV)[k]? = some v) : ∃ e, E[k]? = some e ∧ v = tieV e := by
  rw [List.getElem?_map] at h
  cases q : E[k]? with
  | none => rw [q] at h; cases h
  | some e => rw [q] at h; cases h; exact ⟨e, rfl, rfl⟩

/-- a for over a list -/
theorem forL_list {step : AV → AEnv → AHeap → SR} {r : Nat} {ws : List AV} (I : Nat → AEnv → AHeap → Prop) (h0 : I 0 ρ H)
    (hs : ∀ k v ρ H, ws[k]? = some v → I k ρ H → (step v ρ H).sat (fun ρ H => I (k + 1) ρ H ∧ H[r]? = some (.list ws)) R) (hN : ∀ ρ H, I ws.length ρ H → N ρ H) : (forL [(r, ws)] step ws ρ H).sat N R := by
  have : ∀ (us pre : List AV) (ρ : AEnv) (H : AHeap), pre ++ us = ws → I pre.length ρ H → (forL [(r, ws)] step us ρ H).sat N R := by
    intro us
    induction us with
    | nil =>
      intro pre ρ H e hI
      rw [List.append_nil] at e; subst e
      exact hN _ _ hI
    | cons v us ih =>
      intro pre ρ H e hI
      have h1 := hs pre.length v ρ H (by rw [← e]; simp) hI
      unfold forL
      cases e1 : step v ρ H with
      | next ρ' H' =>
        rw [e1] at h1
        have h2 : H'[r]? = some (.list ws) := h1.2
        simp only [List.all_cons, List.all_nil, Bool.and_true, still_of h2, if_true]
        exact ih (pre ++ [v]) ρ' H' (by rw [← e]; simp) (by rw [List.length_append]; exact h1.1)
      | ret w H' => rw [e1] at h1; exact h1
      | exc c H' => rw [e1] at h1; exact h1
      | bad => rw [e1] at h1; exact h1
  exact this ws [] ρ H rfl h0

/-- a comprehension over ties that makes ties -/
theorem compL_ties {r : Nat} {ws : List AV} {step : AV → AHeap → Res (Option AV)} (hr : H[r]? = some (.list ws)) (f : Nat × Nat → Nat × Nat) : ∀ (E : List (Nat × Nat)), (∀ e ∈ E, step (tieV e) H = .ok (some (tieV (f e))) H) →
    compL [(r, ws)] step (E.map tieV) H = .ok ((E.map f).map tieV) H
  | [], _ => rfl
  | e :: E, h => by
    rw [List.map_cons, compL, h e List.mem_cons_self]
    simp only [Res.get, List.all_cons, List.all_nil, Bool.and_true, still_of hr, if_true, compL_ties hr f E fun e he => h e (List.mem_cons_of_mem _ he), consO, List.map_cons]

theorem append_tie {r : Nat} {E : List (Nat × Nat)} {e : Nat × Nat} (h : TL H r E) (hge : H0.length ≤ r) (hl : E.length < lim) : appendTo H0.length (.ref r) (tieV e) H = .ok .none (H.set r (.list ((E ++ [e]).map tieV))) := by
  unfold appendTo
  simp only [show H[r]? = some (.list (E.map tieV)) from h]
  rw [if_pos ⟨hge, by simpa using hl⟩]
  simp
theorem set_top {r : Nat} {o : AObj} (h : ∃ p, H[r]? = some p) : (H.set r o)[r]? = some o := by
  obtain ⟨p, h⟩ := h
  exact List.getElem?_set_self (List.getElem?_eq_some_iff.mp h).1

noncomputable def fn_7 : FnI := ⟨2, 6, .cons (.assign 2 (.list .nil)) (.cons (.for1 3 (.range1 (.bin .Sub (.var 1) (.int 1))) (.cons (.assign 4 (.call 6 (.cons (.var 0) (.cons (.bin .Add (.int 4) (.var 3)) .nil)))) (.cons (.assign 5 (.tuple (.cons (.bin .Mod (.var 4) (.bin .Add (.var 3) (.int 1))) (.cons (.bin .Add (.var 3) (.int 1)) .nil)))) (.cons (.expr (.append (.var 2) (.idx (.list (.cons (.var 5) (.cons (.tuple (.cons (.idx (.var 5) (.int 1)) (.cons (.idx (.var 5) (.int 0)) .nil))) .nil))) (.bin .Mod (.bin .FloorDiv (.var 4) (.int 7)) (.int 2))))) .nil)))) (.cons (.ret (.var 2)) .nil))⟩

theorem item_tup0 {x y : AV} : itemOf sc (.tup [x, y]) (.int 0) H = .ok x H := rfl
theorem item_tup1 {x y : AV} : itemOf sc (.tup [x, y]) (.int 1) H = .ok y H := rfl
theorem tup2 {x y : AV} : tupOf [x, y] H = .ok (.tup [x, y]) H := by unfold tupOf; rw [if_pos]; exact lim_nat (by simp)
theorem isL_of {r : Nat} {xs : List AV} (h : H[r]? = some (.list xs)) : isL (.ref r) H = true := by unfold isL; simp only [h]

end
end Mine

namespace Mine
open PySem

noncomputable def fn_8 : FnI := ⟨3, 12, .cons (.assign 3 (.call 6 (.cons (.var 0) (.cons (.int 0) .nil)))) (.cons (.assign 4 (.bin .Add (.int 1) (.bin .Mod (.var 3) (.var 1)))) (.cons (.assign 5 (.list .nil)) (.cons (.ite (.cmp .Gt (.bin .Mod (.bin .FloorDiv (.var 3) (.int 7)) (.int 5)) (.int 0)) (.cons (.assign 5 (.call 7 (.cons (.var 0) (.cons (.var 4) .nil)))) .nil) .nil) (.cons (.for1 6 (.range1 (.bin .Mod (.call 6 (.cons (.var 0) (.cons (.int 1) .nil))) (.bin .Add (.bin .Sub (.var 2) (.prim .len (.cons (.var 5) .nil))) (.int 1)))) (.cons (.assign 7 (.call 6 (.cons (.var 0) (.cons (.bin .Add (.int 11) (.var 6)) .nil)))) (.cons (.assign 8 (.bin .Mod (.var 7) (.var 4))) (.cons (.assign 9 (.tuple (.cons (.var 8) (.cons (.bin .Mod (.bin .Add (.var 8) (.bin .Mod (.bin .FloorDiv (.var 7) (.int 7)) (.var 4))) (.var 4)) .nil)))) (.cons (.ite (.and (.cons (.cmp .Eq (.bin .Mod (.bin .FloorDiv (.var 7) (.int 49)) (.int 6)) (.int 5)) (.cons (.cmp .NotEq (.var 5) (.list .nil)) .nil))) (.cons (.assign 9 (.idx (.var 5) (.bin .Mod (.bin .FloorDiv (.var 7) (.int 300)) (.prim .len (.cons (.var 5) .nil))))) .nil) .nil) (.cons (.expr (.append (.var 5) (.var 9))) .nil)))))) (.cons (.assign 10 (.bin .Mod (.bin .FloorDiv (.var 3) (.int 35)) (.var 4))) (.cons (.assign 5 (.comp2 (.tuple (.cons (.bin .Mod (.bin .Add (.var 0) (.var 12)) (.var 6)) (.cons (.bin .Mod (.bin .Add (.var 1) (.var 12)) (.var 6)) .nil))) (.of (.var 5)))) (.cons (.assign 11 (.bin .Mod (.call 6 (.cons (.var 0) (.cons (.int 2) .nil))) (.bin .Add (.prim .len (.cons (.var 5) .nil)) (.int 1)))) (.cons (.ret (.tuple (.cons (.var 4) (.cons (.bin .Add (.slice (.var 5) (.some (.var 11)) .none) (.slice (.var 5) .none (.some (.var 11)))) .nil)))) .nil))))))))⟩

noncomputable def netTail : PSs := .cons (.assign 10 (.bin .Mod (.bin .FloorDiv (.var 3) (.int 35)) (.var 4))) (.cons (.assign 5 (.comp2 (.tuple (.cons (.bin .Mod (.bin .Add (.var 0) (.var 12)) (.var 6)) (.cons (.bin .Mod (.bin .Add (.var 1) (.var 12)) (.var 6)) .nil))) (.of (.var 5)))) (.cons (.assign 11 (.bin .Mod (.call 6 (.cons (.var 0) (.cons (.int 2) .nil))) (.bin .Add (.prim .len (.cons (.var 5) .nil)) (.int 1)))) (.cons (.ret (.tuple (.cons (.var 4) (.cons (.bin .Add (.slice (.var 5) (.some (.var 11)) .none) (.slice (.var 5) .none (.some (.var 11)))) .nil)))) .nil)))
noncomputable def netBody : PSs := .cons (.assign 7 (.call 6 (.cons (.var 0) (.cons (.bin .Add (.int 11) (.var 6)) .nil)))) (.cons (.assign 8 (.bin .Mod (.var 7) (.var 4))) (.cons (.assign 9 (.tuple (.cons (.var 8) (.cons (.bin .Mod (.bin .Add (.var 8) (.bin .Mod (.bin .FloorDiv (.var 7) (.int 7)) (.var 4))) (.var 4)) .nil)))) (.cons (.ite (.and (.cons (.cmp .Eq (.bin .Mod (.bin .FloorDiv (.var 7) (.int 49)) (.int 6)) (.int 5)) (.cons (.cmp .NotEq (.var 5) (.list .nil)) .nil))) (.cons (.assign 9 (.idx (.var 5) (.bin .Mod (.bin .FloorDiv (.var 7) (.int 300)) (.prim .len (.cons (.var 5) .nil))))) .nil) .nil) (.cons (.expr (.append (.var 5) (.var 9))) .nil))))
noncomputable def netLoop : PSs := .cons (.for1 6 (.range1 (.bin .Mod (.call 6 (.cons (.var 0) (.cons (.int 1) .nil))) (.bin .Add (.bin .Sub (.var 2) (.prim .len (.cons (.var 5) .nil))) (.int 1)))) netBody) netTail
/-- what _law_net answers -/
inductive NetR (H : AHeap) (most room : Nat) (v : AV) (H' : AHeap) : Prop
  | mk (n r : Nat) (E : List (Nat × Nat)) (e : v = .tup [.int n, .ref r]) (t : TL H' r E) (p : H <+: H') (g : H.length ≤ r) (l : E.length ≤ room) (ok : okT n E) (h1 : 1 ≤ n) (h2 : n ≤ most) : NetR H most room v H'

section
variable {strF : SrtF} {sc : List Int} {P : Nat → Option FnI} {H H0 : AHeap} {n m : Nat} {ρ : AEnv} {cf : Nat → List AV → AHeap → Res AV} {N : AEnv → AHeap → Prop} {R : AV → AHeap → Prop}

theorem cut_lo {xs : List AV} {c : Nat} (hc : c ≤ xs.length) : cut xs (some (c : Int)) none = xs.drop c := by
  unfold cut
  simp only [cutAt_nat hc, List.take_length]
theorem cut_hi {xs : List AV} {c : Nat} (hc : c ≤ xs.length) : cut xs none (some (c : Int)) = xs.take c := by
  unfold cut
  simp only [cutAt_nat hc, List.drop_zero]

end
end Mine

namespace Mine
open PySem

noncomputable def fn_0 : FnI := ⟨3, 3, .cons (.ret (.and (.cons (.prim .isInt (.cons (.var 0) .nil)) (.cons (.not (.prim .isBool (.cons (.var 0) .nil))) (.cons (.cmp2 .LtE .LtE (.var 1) (.var 0) (.var 2)) .nil))))) .nil⟩
noncomputable def fn_1 : FnI := ⟨2, 3, .cons (.ite (.not (.call 0 (.cons (.var 0) (.cons (.int 1) (.cons (.gint 0 7) .nil))))) (.cons (.raise 1 "one to seven places") .nil) .nil) (.cons (.ite (.or (.cons (.not (.prim .isList (.cons (.var 1) .nil))) (.cons (.cmp .Gt (.prim .len (.cons (.var 1) .nil)) (.gint 1 16)) .nil))) (.cons (.raise 1 "a list of none to sixteen ties") .nil) .nil) (.cons (.for1 2 (.of (.var 1)) (.cons (.ite (.or (.cons (.not (.prim .isTuple (.cons (.var 2) .nil))) (.cons (.cmp .NotEq (.prim .len (.cons (.var 2) .nil)) (.int 2)) .nil))) (.cons (.raise 1 "a tie is a tuple of two places") .nil) .nil) (.cons (.ite (.or (.cons (.not (.call 0 (.cons (.idx (.var 2) (.int 0)) (.cons (.int 0) (.cons (.bin .Sub (.var 0) (.int 1)) .nil))))) (.cons (.not (.call 0 (.cons (.idx (.var 2) (.int 1)) (.cons (.int 0) (.cons (.bin .Sub (.var 0) (.int 1)) .nil))))) .nil))) (.cons (.raise 1 "no such place") .nil) .nil) .nil))) .nil))⟩
section
variable {strF : SrtF} {sc : List Int} {P : Nat → Option FnI} {H H0 : AHeap} {n m : Nat} {ρ : AEnv} {cf : Nat → List AV → AHeap → Res AV} {N : AEnv → AHeap → Prop} {R : AV → AHeap → Prop}

end
end Mine

namespace Mine
open PySem

noncomputable def natV (p : Nat) : AV := .int p
theorem intsOf_nats : ∀ (F : List Nat), intsOf (F.map natV) = some (F.map fun (p : Nat) => (p : Int))
  | [] => rfl
  | x :: F => by
    show (intsOf (F.map natV)).map _ = _
    rw [intsOf_nats F]; rfl
theorem mem_nats {F : List Nat} {p : Nat} : ((p : Int) ∈ F.map fun (p : Nat) => (p : Int)) ↔ p ∈ F := by
  constructor
  · intro h
    obtain ⟨x, hx, e⟩ := List.mem_map.mp h
    rw [show p = x by (first | lia | omega)]; exact hx
  · intro h; exact List.mem_map.mpr ⟨p, h, rfl⟩
theorem inOf_nats {H : AHeap} {r p : Nat} {F : List Nat} (h : H[r]? = some (.list (F.map natV))) : inOf (.int p) (.ref r) H = some (decide (p ∈ F)) := by
  unfold inOf
  simp only [h, intsOf_nats, Option.map_some, mem_nats]
theorem insertI_length (x : Int) : ∀ l, (insertI x l).length = l.length + 1
  | [] => rfl
  | y :: r => by unfold insertI; split <;> simp [insertI_length x r]
theorem sortI_length : ∀ l, (sortI l).length = l.length
  | [] => rfl
  | x :: r => by unfold sortI; rw [insertI_length, sortI_length r]; rfl

/-- the end of a list of places that differ -/
theorem nodup_len {n : Nat} : ∀ {F : List Nat}, F.Nodup → (∀ p ∈ F, p < n) → F.length ≤ n := by
  induction n with
  | zero => intro F _ h; cases F with
    | nil => exact Nat.le_refl _
    | cons x F => exact absurd (h x List.mem_cons_self) (by (first | lia | omega))
  | succ n ih =>
    intro F hd h
    have h1 := ih (F := F.filter (· ≠ n)) (hd.filter _) fun p hp => by
      have := List.mem_filter.mp hp
      have h2 := h p this.1
      have h3 : p ≠ n := by simpa using this.2
      (first | lia | omega)
    have h2 : F.length ≤ (F.filter (· ≠ n)).length + 1 := by
      clear ih h h1
      induction F with
      | nil => simp
      | cons x F ih =>
        have hd' := List.nodup_cons.mp hd
        by_cases hx : x = n
        · subst hx
          have : F.filter (· ≠ x) = F := List.filter_eq_self.mpr fun p hp => by
            have : p ≠ x := fun e => hd'.1 (e ▸ hp)
            simpa using this
          rw [List.filter_cons_of_neg (by simp), this]; simp
        · have := ih hd'.2
          simp [hx] at this ⊢
          (first | lia | omega)
    (first | lia | omega)
theorem nodup_full {n : Nat} {F : List Nat} (hd : F.Nodup) (hl : F.length = n) (h : ∀ p ∈ F, p < n) : ∀ p, p < n → p ∈ F := by
  intro p hp
  apply Classical.byContradiction
  intro hn
  have := nodup_len (n := n) (F := p :: F) (List.nodup_cons.mpr ⟨hn, hd⟩) fun x hx => by
    rcases List.mem_cons.mp hx with rfl | hx
    · exact hp
    · exact h x hx
  simp at this; (first | lia | omega)
theorem full_len {n : Nat} {F : List Nat} (h : ∀ p, p < n → p ∈ F) : n ≤ F.length := by
  induction n generalizing F with
  | zero => (first | lia | omega)
  | succ n ih =>
    have := ih (F := F.erase n) fun p hp => (List.mem_erase_of_ne (by (first | lia | omega))).mpr (h p (by (first | lia | omega)))
    rw [List.length_erase_of_mem (h n (by (first | lia | omega)))] at this
    have : 0 < F.length := List.length_pos_of_mem (h n (by (first | lia | omega)))
    (first | lia | omega)

section
variable {strF : SrtF} {sc : List Int} {P : Nat → Option FnI} {H H0 : AHeap} {n m : Nat} {ρ : AEnv} {cf : Nat → List AV → AHeap → Res AV} {N : AEnv → AHeap → Prop} {R : AV → AHeap → Prop}

/-- a while that ends -/
theorem whileL_rule {test : AEnv → AHeap → Res Bool} {body : AEnv → AHeap → SR} (I : Nat → AEnv → AHeap → Prop) (K : Nat)
    (hs : ∀ k ρ H, k ≤ K → I k ρ H → ∃ t H', test ρ H = .ok t H' ∧ (t = false → N ρ H') ∧ (t = true → k < K ∧ (body ρ H').sat (I (k + 1)) R)) :
    ∀ (f k : Nat) (ρ : AEnv) (H : AHeap), K < f + k → k ≤ K → I k ρ H → (whileL test body f ρ H).sat N R := by
  intro f
  induction f with
  | zero => intro k ρ H h1 h2; (first | lia | omega)
  | succ f ih =>
    intro k ρ H h1 h2 hI
    obtain ⟨t, H', e, hf, ht⟩ := hs k ρ H h2 hI
    unfold whileL
    rw [e]
    cases t with
    | false => exact hf rfl
    | true =>
      obtain ⟨hk, hb⟩ := ht rfl
      simp only
      cases e2 : body ρ H' with
      | next ρ' H'' => rw [e2] at hb; exact ih (k + 1) ρ' H'' (by (first | lia | omega)) (by (first | lia | omega)) hb
      | ret v H'' => rw [e2] at hb; exact hb
      | exc c H'' => rw [e2] at hb; exact hb
      | bad => rw [e2] at hb; exact hb
theorem sat_whl {c : PE} {body : PSs} {b : Nat} : (denS strF cf sc b (.whl c body) ρ H).sat N R = (whileL (denT strF cf sc b c) (denSs strF cf sc b body) 100 ρ H).sat N R := rfl

theorem append_nat {r p : Nat} {F : List Nat} (h : H[r]? = some (.list (F.map natV))) (hge : H0.length ≤ r) (hl : F.length < lim) : appendTo H0.length (.ref r) (.int p) H = .ok .none (H.set r (.list ((F ++ [p]).map natV))) := by
  unfold appendTo
  simp only [h]
  rw [if_pos ⟨hge, by simpa using hl⟩]
  simp [natV]

noncomputable def fn_10 : FnI := ⟨3, 7, .cons (.assign 3 (.list (.cons (.var 2) .nil))) (.cons (.assign 4 (.int 0)) (.cons (.whl (.cmp .Lt (.var 4) (.prim .len (.cons (.var 3) .nil))) (.cons (.for2 5 6 (.of (.var 1)) (.cons (.ite (.and (.cons (.cmp .Eq (.var 5) (.idx (.var 3) (.var 4))) (.cons (.cmp .NotIn (.var 6) (.var 3)) .nil))) (.cons (.expr (.append (.var 3) (.var 6))) .nil) .nil) (.cons (.ite (.and (.cons (.cmp .Eq (.var 6) (.idx (.var 3) (.var 4))) (.cons (.cmp .NotIn (.var 5) (.var 3)) .nil))) (.cons (.expr (.append (.var 3) (.var 5))) .nil) .nil) .nil))) (.cons (.assign 4 (.bin .Add (.var 4) (.int 1))) .nil))) (.cons (.ret (.prim .sorted (.cons (.var 3) .nil))) .nil)))⟩

/-- the places reached so far -/
structure Rch (E : List (Nat × Nat)) (n s : Nat) (F : List Nat) : Prop where
  nd : F.Nodup
  lt : ∀ p ∈ F, p < n ∧ Conn E s p
  st : s ∈ F
theorem Rch.add {E : List (Nat × Nat)} {n s x y : Nat} {F : List Nat} (h : Rch E n s F) (hx : x ∈ F) (c : Conn E x y) (hy : y < n) (hn : y ∉ F) : Rch E n s (F ++ [y]) :=
  ⟨by
    rw [List.nodup_append]
    refine ⟨h.nd, by simp, fun a ha b hb => ?_⟩
    simp at hb; subst hb
    exact fun e => hn (e ▸ ha), fun p hp => by
    rcases List.mem_append.mp hp with hp | hp
    · exact h.lt p hp
    · simp at hp; subst hp; exact ⟨hy, (h.lt x hx).2.trans c⟩, List.mem_append_left _ h.st⟩

theorem pre_get {F F' : List Nat} {k x : Nat} (p : F <+: F') (h : F[k]? = some x) : F'[k]? = some x := by
  obtain ⟨y, rfl⟩ := p
  rw [List.getElem?_append_left (List.getElem?_eq_some_iff.mp h).1]; exact h

end
end Mine

namespace Mine
open PySem

/-! The interpreter, step by step: one rule for each kind of code. -/
section
variable {strF : SrtF} {cf : Nat → List AV → AHeap → Res AV} {sc : List Int} {b : Nat} {ρ : AEnv} {H H1 H2 H3 H4 : AHeap} {x y z : PE} {es : PEs} {v w u : AV} {vs : List AV} {r t : Bool}
theorem v_none : denE strF cf sc b .none ρ H = .ok .none H := rfl
theorem v_bool {c : Bool} : denE strF cf sc b (.bool c) ρ H = .ok (.bool c) H := rfl
theorem v_int {i : Int} : denE strF cf sc b (.int i) ρ H = .ok (.int i) H := rfl
theorem v_str {s : Str} : denE strF cf sc b (.str s) ρ H = .ok (.str s) H := rfl
theorem v_gint {k : Nat} {i : Int} : denE strF cf sc b (.gint k i) ρ H = .ok (.int i) H := rfl
theorem v_var {i : Nat} (h : ρ[i]? = some (some v)) : denE strF cf sc b (.var i) ρ H = .ok v H := by
  show (match ρ[i]? with | some (some v) => Res.ok v H | _ => .bad) = _
  rw [h]
theorem v_bin {op : Operator} (h1 : denE strF cf sc b x ρ H = .ok v H1) (h2 : denE strF cf sc b y ρ H1 = .ok w H2) (h3 : binop op v w H2 = .ok u H3) : denE strF cf sc b (.bin op x y) ρ H = .ok u H3 := by
  show (denE strF cf sc b x ρ H).get _ = _
  rw [h1]; show (denE strF cf sc b y ρ H1).get _ = _
  rw [h2]; exact h3
theorem v_neg {i : Int} (h1 : denE strF cf sc b x ρ H = .ok (.int i) H1) : denE strF cf sc b (.neg x) ρ H = .ok (.int (-i)) H1 := by
  show (denE strF cf sc b x ρ H).get _ = _
  rw [h1]; rfl
theorem v_not (h1 : denE strF cf sc b x ρ H = .ok (.bool t) H1) : denE strF cf sc b (.not x) ρ H = .ok (.bool (!t)) H1 := by
  show (denE strF cf sc b x ρ H).get _ = _
  rw [h1]; rfl
theorem v_notT (h1 : denE strF cf sc b x ρ H = .ok (.bool false) H1) : denE strF cf sc b (.not x) ρ H = .ok (.bool true) H1 := v_not h1
theorem v_notF (h1 : denE strF cf sc b x ρ H = .ok (.bool true) H1) : denE strF cf sc b (.not x) ρ H = .ok (.bool false) H1 := v_not h1
theorem v_cmp {op : CmpOp} (h1 : denE strF cf sc b x ρ H = .ok v H1) (h2 : denE strF cf sc b y ρ H1 = .ok w H2) (h3 : cmpop op v w H2 = some r) : denE strF cf sc b (.cmp op x y) ρ H = .ok (.bool r) H2 := by
  show (denE strF cf sc b x ρ H).get _ = _
  rw [h1]; show (denE strF cf sc b y ρ H1).get _ = _
  rw [h2]; show (match cmpop op v w H2 with | some r => Res.ok (AV.bool r) H2 | none => .bad) = _
  rw [h3]
theorem v_cmp2 {o1 o2 : CmpOp} (h1 : denE strF cf sc b x ρ H = .ok v H1) (h2 : denE strF cf sc b y ρ H1 = .ok w H2) (h3 : cmpop o1 v w H2 = some true) (h4 : denE strF cf sc b z ρ H2 = .ok u H3) (h5 : cmpop o2 w u H3 = some r) :
    denE strF cf sc b (.cmp2 o1 o2 x y z) ρ H = .ok (.bool r) H3 := by
  rw [dE_cmp2, h1]; show (denE strF cf sc b y ρ H1).get _ = _
  rw [h2]; simp only [Res.get, h3, h4, h5]
theorem v_cmp2f {o1 o2 : CmpOp} (h1 : denE strF cf sc b x ρ H = .ok v H1) (h2 : denE strF cf sc b y ρ H1 = .ok w H2) (h3 : cmpop o1 v w H2 = some false) : denE strF cf sc b (.cmp2 o1 o2 x y z) ρ H = .ok (.bool false) H2 := by
  rw [dE_cmp2, h1]; show (denE strF cf sc b y ρ H1).get _ = _
  rw [h2]; simp only [Res.get, h3]
theorem v_and (h : denAnd strF cf sc b es ρ H = .ok v H1) : denE strF cf sc b (.and es) ρ H = .ok v H1 := h
theorem a_one (h : denE strF cf sc b x ρ H = .ok v H1) : denAnd strF cf sc b (.cons x .nil) ρ H = .ok v H1 := h
theorem a_true (h : denE strF cf sc b x ρ H = .ok (.bool true) H1) (h2 : denAnd strF cf sc b (.cons y es) ρ H1 = .ok v H2) : denAnd strF cf sc b (.cons x (.cons y es)) ρ H = .ok v H2 := by
  rw [dA_cons, h]; exact h2
theorem a_false (h : denE strF cf sc b x ρ H = .ok (.bool false) H1) : denAnd strF cf sc b (.cons x (.cons y es)) ρ H = .ok (.bool false) H1 := by
  rw [dA_cons, h]; rfl
theorem v_iteT (h1 : denT strF cf sc b x ρ H = .ok true H1) (h2 : denE strF cf sc b y ρ H1 = .ok v H2) : denE strF cf sc b (.ite x y z) ρ H = .ok v H2 := by
  rw [dE_ite, h1]; exact h2
theorem v_iteF (h1 : denT strF cf sc b x ρ H = .ok false H1) (h2 : denE strF cf sc b z ρ H1 = .ok v H2) : denE strF cf sc b (.ite x y z) ρ H = .ok v H2 := by
  rw [dE_ite, h1]; exact h2
theorem v_call {k : Nat} (h1 : denEs strF cf sc b es ρ H = .ok vs H1) (h2 : cf k vs H1 = .ok v H2) : denE strF cf sc b (.call k es) ρ H = .ok v H2 := by
  rw [dE_call, h1]; exact h2
theorem v_prim {p : Prim} (h1 : denEs strF cf sc b es ρ H = .ok vs H1) (h2 : prim strF sc p vs H1 = .ok v H2) : denE strF cf sc b (.prim p es) ρ H = .ok v H2 := by
  rw [dE_prim, h1]; exact h2
theorem v_sset (h1 : denE strF cf sc b x ρ H = .ok v H1) (h2 : prim strF sc .sortedSet [v] H1 = .ok w H2) : denE strF cf sc b (.sset x) ρ H = .ok w H2 := by
  rw [dE_sset, h1]; exact h2
theorem v_idx (h1 : denE strF cf sc b x ρ H = .ok v H1) (h2 : denE strF cf sc b y ρ H1 = .ok w H2) (h3 : itemOf sc v w H2 = .ok u H3) : denE strF cf sc b (.idx x y) ρ H = .ok u H3 := by
  rw [dE_idx, h1]; show (denE strF cf sc b y ρ H1).get _ = _
  rw [h2]; exact h3
theorem o_none : denO strF cf sc b .none ρ H = .ok none H := rfl
theorem o_some {i : Int} (h1 : denE strF cf sc b x ρ H = .ok (.int i) H1) : denO strF cf sc b (.some x) ρ H = .ok (some i) H1 := by
  rw [dO_some, h1]; rfl
theorem v_slice {lo hi : PEo} {l h : Option Int} {q : Nat} {xs : List AV} (h1 : denE strF cf sc b x ρ H = .ok (.ref q) H1) (h2 : denO strF cf sc b lo ρ H1 = .ok l H2) (h3 : denO strF cf sc b hi ρ H2 = .ok h H3) (h4 : H3[q]? = some (.list xs)) (h5 : alloc (cut xs l h) H3 = .ok v H4) :
    denE strF cf sc b (.slice x lo hi) ρ H = .ok v H4 := by
  rw [dE_slice, h1]; show (denO strF cf sc b lo ρ H1).get _ = _
  rw [h2]; show (denO strF cf sc b hi ρ H2).get _ = _
  rw [h3]; simp only [Res.get, h4, h5]
theorem v_list (h1 : denEs strF cf sc b es ρ H = .ok vs H1) (h2 : alloc vs H1 = .ok v H2) : denE strF cf sc b (.list es) ρ H = .ok v H2 := by
  rw [dE_list, h1]; exact h2
theorem v_tuple (h1 : denEs strF cf sc b es ρ H = .ok vs H1) (h2 : tupOf vs H1 = .ok v H2) : denE strF cf sc b (.tuple es) ρ H = .ok v H2 := by
  rw [dE_tuple, h1]; exact h2
theorem v_comp1 {it : It} {c : PEo} {p : List AV × List (Nat × List AV)} (h1 : denI strF cf sc b it ρ H = .ok p H1)
    (h2 : compL p.2 (fun v H => (denC strF cf sc b c (some v :: ρ) H).get fun t H => if t then (denE strF cf sc b x (some v :: ρ) H).get fun x H => .ok (some x) H else .ok none H) p.1 H1 = .ok vs H2) (h3 : alloc vs H2 = .ok v H3) :
    denE strF cf sc b (.comp1 x it c) ρ H = .ok v H3 := by
  rw [dE_comp1, h1]; show Res.get (compL p.2 _ p.1 H1) _ = _
  rw [h2]; exact h3
theorem v_comp2 {it : It} {p : List AV × List (Nat × List AV)} (h1 : denI strF cf sc b it ρ H = .ok p H1)
    (h2 : compL p.2 (fun v H => pairR (fun u w => (denE strF cf sc b x (some u :: some w :: ρ) H).get fun x H => .ok (some x) H) v) p.1 H1 = .ok vs H2) (h3 : alloc vs H2 = .ok v H3) :
    denE strF cf sc b (.comp2 x it) ρ H = .ok v H3 := by
  rw [dE_comp2, h1]; show Res.get (compL p.2 _ p.1 H1) _ = _
  rw [h2]; exact h3
/-- one turn of a comprehension -/
theorem k_none1 (h : denE strF cf sc b x (some u :: ρ) H = .ok v H1) : ((denC strF cf sc b .none (some u :: ρ) H).get fun t H => if t then (denE strF cf sc b x (some u :: ρ) H).get fun x H => .ok (some x) H else .ok none H) = .ok (some v) H1 := by
  show (denE strF cf sc b x (some u :: ρ) H).get _ = _
  rw [h]; rfl
theorem k_true (h1 : denT strF cf sc b y (some u :: ρ) H = .ok true H1) (h : denE strF cf sc b x (some u :: ρ) H1 = .ok v H2) : ((denC strF cf sc b (.some y) (some u :: ρ) H).get fun t H => if t then (denE strF cf sc b x (some u :: ρ) H).get fun x H => .ok (some x) H else .ok none H) = .ok (some v) H2 := by
  show (denT strF cf sc b y (some u :: ρ) H).get _ = _
  rw [h1]; show (denE strF cf sc b x (some u :: ρ) H1).get _ = _
  rw [h]; rfl
theorem k_false (h1 : denT strF cf sc b y (some u :: ρ) H = .ok false H1) : ((denC strF cf sc b (.some y) (some u :: ρ) H).get fun t H => if t then (denE strF cf sc b x (some u :: ρ) H).get fun x H => .ok (some x) H else .ok none H) = .ok none H1 := by
  show (denT strF cf sc b y (some u :: ρ) H).get _ = _
  rw [h1]; rfl
theorem k_pair (h : denE strF cf sc b x (some v :: some w :: ρ) H = .ok u H1) : pairR (fun u w => (denE strF cf sc b x (some u :: some w :: ρ) H).get fun x H => .ok (some x) H) (.tup [v, w]) = .ok (some u) H1 := by
  show (denE strF cf sc b x (some v :: some w :: ρ) H).get _ = _
  rw [h]; rfl
theorem v_append (h1 : denE strF cf sc b x ρ H = .ok v H1) (h2 : isL v H1 = true) (h3 : denE strF cf sc b y ρ H1 = .ok w H2) (h4 : appendTo b v w H2 = .ok u H3) : denE strF cf sc b (.append x y) ρ H = .ok u H3 := by
  rw [dE_append, h1]; show (if isL v H1 = true then _ else _) = _
  rw [if_pos h2, h3]; exact h4
theorem vs_nil : denEs strF cf sc b .nil ρ H = .ok [] H := rfl
theorem vs_cons (h1 : denE strF cf sc b x ρ H = .ok v H1) (h2 : denEs strF cf sc b es ρ H1 = .ok vs H2) : denEs strF cf sc b (.cons x es) ρ H = .ok (v :: vs) H2 := by
  rw [dEs_cons, h1]; show (denEs strF cf sc b es ρ H1).thn _ = _
  rw [h2]; rfl
theorem t_not (h1 : denT strF cf sc b x ρ H = .ok t H1) : denT strF cf sc b (.not x) ρ H = .ok (!t) H1 := by
  rw [dT_not, h1]; rfl
theorem t_notT (h1 : denT strF cf sc b x ρ H = .ok false H1) : denT strF cf sc b (.not x) ρ H = .ok true H1 := t_not h1
theorem t_notF (h1 : denT strF cf sc b x ρ H = .ok true H1) : denT strF cf sc b (.not x) ρ H = .ok false H1 := t_not h1
theorem t_cmp {op : CmpOp} (h1 : denE strF cf sc b x ρ H = .ok v H1) (h2 : denE strF cf sc b y ρ H1 = .ok w H2) (h3 : cmpop op v w H2 = some r) : denT strF cf sc b (.cmp op x y) ρ H = .ok r H2 := by
  rw [dT_cmp, h1]; show (denE strF cf sc b y ρ H1).get _ = _
  rw [h2]; simp only [Res.get, h3]
theorem t_and (h : denAndT strF cf sc b es ρ H = .ok r H1) : denT strF cf sc b (.and es) ρ H = .ok r H1 := h
theorem t_or (h : denOrT strF cf sc b es ρ H = .ok r H1) : denT strF cf sc b (.or es) ρ H = .ok r H1 := h
theorem at_nil : denAndT strF cf sc b .nil ρ H = .ok true H := rfl
theorem at_true (h : denT strF cf sc b x ρ H = .ok true H1) (h2 : denAndT strF cf sc b es ρ H1 = .ok r H2) : denAndT strF cf sc b (.cons x es) ρ H = .ok r H2 := by
  rw [dAT_cons, h]; exact h2
theorem at_false (h : denT strF cf sc b x ρ H = .ok false H1) : denAndT strF cf sc b (.cons x es) ρ H = .ok false H1 := by
  rw [dAT_cons, h]; rfl
theorem ot_nil : denOrT strF cf sc b .nil ρ H = .ok false H := rfl
theorem ot_true (h : denT strF cf sc b x ρ H = .ok true H1) : denOrT strF cf sc b (.cons x es) ρ H = .ok true H1 := by
  rw [dOT_cons, h]; rfl
theorem ot_false (h : denT strF cf sc b x ρ H = .ok false H1) (h2 : denOrT strF cf sc b es ρ H1 = .ok r H2) : denOrT strF cf sc b (.cons x es) ρ H = .ok r H2 := by
  rw [dOT_cons, h]; exact h2
theorem t_call {k : Nat} (h1 : denEs strF cf sc b es ρ H = .ok vs H1) (h2 : cf k vs H1 = .ok (.bool t) H2) : denT strF cf sc b (.call k es) ρ H = .ok t H2 := by
  rw [dT_call, h1]; show (cf k vs H1).get _ = _
  rw [h2]; rfl
theorem t_prim {p : Prim} (h1 : denEs strF cf sc b es ρ H = .ok vs H1) (h2 : prim strF sc p vs H1 = .ok (.bool t) H2) : denT strF cf sc b (.prim p es) ρ H = .ok t H2 := by
  rw [dT_prim, h1]; show (prim strF sc p vs H1).get _ = _
  rw [h2]; rfl
theorem i_ofR {q : Nat} (h1 : denE strF cf sc b x ρ H = .ok (.ref q) H1) (h2 : H1[q]? = some (.list vs)) : denI strF cf sc b (.of x) ρ H = .ok (vs, [(q, vs)]) H1 := by
  rw [dI_of, h1]; simp only [Res.get, h2]
theorem i_range1 {k : Int} (h1 : denE strF cf sc b x ρ H = .ok (.int k) H1) (h2 : inR k = true) : denI strF cf sc b (.range1 x) ρ H = .ok (rangeL 0 k, []) H1 := by
  rw [dI_range1, h1]; simp only [Res.get, h2, if_true]
variable {N : AEnv → AHeap → Prop} {R : AV → AHeap → Prop} {ss tt ee : PSs}
theorem s_nil (h : N ρ H) : (denSs strF cf sc b .nil ρ H).sat N R := h
theorem s_assign {i : Nat} (h : denE strF cf sc b x ρ H = .ok v H1) (k : (denSs strF cf sc b ss (ρ.set i (some v)) H1).sat N R) : (denSs strF cf sc b (.cons (.assign i x) ss) ρ H).sat N R := by
  rw [sat_cons, sat_assign, h]; exact k
theorem s_assigns {is : List Nat} {ρ' : AEnv} (h : denE strF cf sc b x ρ H = .ok (.tup vs) H1) (h2 : setVars is vs ρ = some ρ') (k : (denSs strF cf sc b ss ρ' H1).sat N R) : (denSs strF cf sc b (.cons (.assigns is x) ss) ρ H).sat N R := by
  rw [sat_cons, sat_assigns, h]; exact ⟨vs, ρ', rfl, h2, k⟩
theorem s_iteT (h : denT strF cf sc b x ρ H = .ok true H1) (k : (denSs strF cf sc b tt ρ H1).sat (fun ρ H => (denSs strF cf sc b ss ρ H).sat N R) R) : (denSs strF cf sc b (.cons (.ite x tt ee) ss) ρ H).sat N R := by
  rw [sat_cons, sat_ite, h]; exact k
theorem s_iteF (h : denT strF cf sc b x ρ H = .ok false H1) (k : (denSs strF cf sc b ee ρ H1).sat (fun ρ H => (denSs strF cf sc b ss ρ H).sat N R) R) : (denSs strF cf sc b (.cons (.ite x tt ee) ss) ρ H).sat N R := by
  rw [sat_cons, sat_ite, h]; exact k
/-- an if without else that is not taken -/
theorem s_skip (h : denT strF cf sc b x ρ H = .ok false H1) (k : (denSs strF cf sc b ss ρ H1).sat N R) : (denSs strF cf sc b (.cons (.ite x tt .nil) ss) ρ H).sat N R := s_iteF h k
theorem s_ret (h : denE strF cf sc b x ρ H = .ok v H1) (k : R v H1) : (denSs strF cf sc b (.cons (.ret x) ss) ρ H).sat N R := by
  rw [sat_cons, sat_ret, h]; exact k
theorem s_expr (h : denE strF cf sc b x ρ H = .ok v H1) (k : (denSs strF cf sc b ss ρ H1).sat N R) : (denSs strF cf sc b (.cons (.expr x) ss) ρ H).sat N R := by
  rw [sat_cons, sat_expr, h]; exact k
theorem s_for1 {i : Nat} {it : It} {p : List AV × List (Nat × List AV)} (h : denI strF cf sc b it ρ H = .ok p H1) (k : (forL p.2 (fun v ρ H => denSs strF cf sc b tt (ρ.set i (some v)) H) p.1 ρ H1).sat (fun ρ H => (denSs strF cf sc b ss ρ H).sat N R) R) :
    (denSs strF cf sc b (.cons (.for1 i it tt) ss) ρ H).sat N R := by
  rw [sat_cons, sat_for1, h]; exact k
theorem s_for2 {i j : Nat} {it : It} {p : List AV × List (Nat × List AV)} (h : denI strF cf sc b it ρ H = .ok p H1) (k : (forL p.2 (fun v ρ H => pairS (fun x y => denSs strF cf sc b tt ((ρ.set i (some x)).set j (some y)) H) v) p.1 ρ H1).sat (fun ρ H => (denSs strF cf sc b ss ρ H).sat N R) R) :
    (denSs strF cf sc b (.cons (.for2 i j it tt) ss) ρ H).sat N R := by
  rw [sat_cons, sat_for2, h]; exact k
/-- a call, by its body -/
theorem s_call {P : Nat → Option FnI} {n k np nv : Nat} {body : PSs} {args : List AV} {K : AV → AHeap → Prop} (hk : P k = some ⟨np, nv, body⟩) (hl : args.length = np) (h : (denSs strF (callF strF P sc n) sc H.length body (args.map some ++ List.replicate (nv - np) none) H).sat (fun _ H => K .none H) K) :
    (callF strF P sc (n + 1) k args H).sat K := by
  rw [sat_call hk hl]; exact h
theorem sat_eq {α : Type} {r : Res α} {a : α} {H : AHeap} (h : r.sat fun v H' => v = a ∧ H' = H) : r = .ok a H := by
  obtain ⟨_, _, e, h1, h2⟩ := Res.sat_ex h
  rw [e, h1, h2]
end
end Mine

namespace Mine

/-! all hangings, in the order of lists -/
noncomputable def up (S : List Nat) : List Nat := S.map (· + 1)
noncomputable def up0 (S : List Nat) : List Nat := 0 :: up S
noncomputable def ctr (e : Nat × Nat) (E : List (Nat × Nat)) : List (Nat × Nat) := E.map (joinE (min e.1 e.2) (max e.1 e.2))
noncomputable def hang : Nat → Nat → List (Nat × Nat) → List (List Nat)
  | 0, n, _ => if n = 0 then [[]] else []
  | k + 1, n, E => if n = 0 then [[]] else match E with
    | [] => []
    | e :: E' => (if e.1 = e.2 then [] else (hang k (n - 1) (ctr e E')).map up0) ++ (hang k n E').map up
theorem ctr_length (e : Nat × Nat) (E : List (Nat × Nat)) : (ctr e E).length = E.length := List.length_map ..
theorem okT_ctr {n : Nat} {e : Nat × Nat} {E : List (Nat × Nat)} (hne : e.1 ≠ e.2) (h : okT (n + 2) (e :: E)) : okT (n + 1) (ctr e E) := by
  have he := h e List.mem_cons_self
  exact okT_join (by (first | lia | omega)) (by (first | lia | omega)) (okT_tail h)

/-! connected, when a tie is drawn together -/
theorem conn_minmax {e : Nat × Nat} {F : List (Nat × Nat)} {p q : Nat} : Conn ((min e.1 e.2, max e.1 e.2) :: F) p q ↔ Conn (e :: F) p q := by
  have h : (min e.1 e.2, max e.1 e.2) = e ∨ (min e.1 e.2, max e.1 e.2) = (e.2, e.1) := by
    by_cases h : e.1 ≤ e.2
    · rw [Nat.min_eq_left h, Nat.max_eq_right h]; exact .inl rfl
    · rw [Nat.min_eq_right (by (first | lia | omega)), Nat.max_eq_left (by (first | lia | omega))]; exact .inr rfl
  rcases h with h | h
  · rw [h]
  · rw [h]
    constructor
    · intro c
      refine c.mono fun f hf => ?_
      rcases List.mem_cons.mp hf with rfl | hf
      · exact (Conn.tie (e := e) List.mem_cons_self).symm
      · exact .tie (List.mem_cons_of_mem _ hf)
    · intro c
      refine c.mono fun f hf => ?_
      rcases List.mem_cons.mp hf with rfl | hf
      · exact (Conn.tie (e := (f.2, f.1)) List.mem_cons_self).symm
      · exact .tie (List.mem_cons_of_mem _ hf)
theorem allC_ctr {n : Nat} {e : Nat × Nat} {F : List (Nat × Nat)} (hne : e.1 ≠ e.2) (h1 : e.1 < n + 2) (h2 : e.2 < n + 2) : AllC (n + 2) (e :: F) ↔ AllC (n + 1) (ctr e F) := by
  have hl : min e.1 e.2 < max e.1 e.2 := by (first | lia | omega)
  have hh : max e.1 e.2 < n + 2 := by (first | lia | omega)
  generalize hlo : min e.1 e.2 = lo at hl
  generalize hhi : max e.1 e.2 = hi at hl hh
  have hc : ∀ p q, Conn ((lo, hi) :: F) p q ↔ Conn (e :: F) p q := fun p q => by rw [← hlo, ← hhi]; exact conn_minmax
  unfold ctr
  rw [hlo, hhi]
  constructor
  · intro q x y hx hy
    have := ((hc _ _).mpr (q (skip hi x) (skip hi y) (skip_lt (by (first | lia | omega)) hx) (skip_lt (by (first | lia | omega)) hy))).join hl
    rwa [join_skip, join_skip] at this
  · intro q x y hx hy
    exact (hc x y).mp ((q _ _ (join_lt hl hh hx) (join_lt hl hh hy)).unjoin hl x y rfl rfl)
theorem allC_loop {n : Nat} {e : Nat × Nat} {F : List (Nat × Nat)} (hl : e.1 = e.2) (h : AllC n (e :: F)) : AllC n F := by
  intro x y hx hy
  refine (h x y hx hy).mono fun f hf => ?_
  rcases List.mem_cons.mp hf with rfl | hf
  · rw [hl]; exact .refl _
  · exact .tie hf
theorem allC_len : ∀ (k : Nat) {n : Nat} {F : List (Nat × Nat)}, F.length = k → okT (n + 1) F → AllC (n + 1) F → n ≤ k
  | k, 0, F, _, _, _ => Nat.zero_le _
  | 0, n + 1, F, hk, h, hc => by
    cases List.length_eq_zero_iff.mp hk
    exact absurd (conn_nil (hc 0 1 (by (first | lia | omega)) (by (first | lia | omega)))) (by decide)
  | k + 1, n + 1, [], hk, h, hc => by cases hk
  | k + 1, n + 1, e :: F, hk, h, hc => by
    have hk' : F.length = k := by simpa using hk
    by_cases hl : e.1 = e.2
    · have := allC_len k hk' (okT_tail h) (allC_loop hl hc); (first | lia | omega)
    · have he := h e List.mem_cons_self
      have := allC_len k (by rw [ctr_length]; exact hk') (okT_ctr hl h) ((allC_ctr hl he.1 he.2).mp hc)
      (first | lia | omega)

/-! the rising lists of k numbers below m -/
/-- rising, below m -/
structure Ris (m k : Nat) (S : List Nat) : Prop where
  len : S.length = k
  lt : ∀ i ∈ S, i < m
  pw : S.Pairwise (· < ·)
noncomputable def pick (E : List (Nat × Nat)) (S : List Nat) : List (Nat × Nat) := S.map fun i => E.getD i (0, 0)
theorem okT_pick {n : Nat} {E : List (Nat × Nat)} {S : List Nat} (h : okT n E) (hS : ∀ i ∈ S, i < E.length) : okT n (pick E S) := by
  intro e he
  obtain ⟨i, hi, rfl⟩ := List.mem_map.mp he
  have hi' := hS i hi
  rw [List.getD_eq_getElem?_getD, List.getElem?_eq_getElem hi', Option.getD_some]
  exact h _ (List.getElem_mem ..)

/-! how many have a tie -/
end Mine

namespace Mine

/-! a hanging's number -/
end Mine

namespace Mine
open PySem

section
variable {i j : Int} {H : AHeap}
theorem eqT (h : i = j) : cmpop .Eq (.int i) (.int j) H = some true := by rw [c_eq, beq_iff_eq.mpr h]
theorem eqF (h : i ≠ j) : cmpop .Eq (.int i) (.int j) H = some false := by rw [c_eq, beq_eq_false_iff_ne.mpr h]
theorem neT (h : i ≠ j) : cmpop .NotEq (.int i) (.int j) H = some true := by rw [c_ne, beq_eq_false_iff_ne.mpr h]; rfl
theorem neF (h : i = j) : cmpop .NotEq (.int i) (.int j) H = some false := by rw [c_ne, beq_iff_eq.mpr h]; rfl
theorem ltT (h : i < j) : cmpop .Lt (.int i) (.int j) H = some true := by rw [c_lt, decide_eq_true h]
theorem ltF (h : ¬ i < j) : cmpop .Lt (.int i) (.int j) H = some false := by rw [c_lt, decide_eq_false h]
theorem gtT (h : j < i) : cmpop .Gt (.int i) (.int j) H = some true := by rw [c_gt, decide_eq_true h]
theorem gtF (h : ¬ j < i) : cmpop .Gt (.int i) (.int j) H = some false := by rw [c_gt, decide_eq_false h]
end

theorem lim1000 {n : Nat} (h : n ≤ 1000) : n ≤ lim := Nat.le_trans h (by decide)
theorem allocK {xs : List AV} {H : AHeap} (h : xs.length ≤ 1000) : alloc xs H = .ok (.ref H.length) (H ++ [.list xs]) := if_pos (lim1000 h)
section
variable {strF : SrtF} {sc : List Int} {P : Nat → Option FnI} {H H0 : AHeap} {n m : Nat} {ρ : AEnv} {cf : Nat → List AV → AHeap → Res AV} {N : AEnv → AHeap → Prop} {R : AV → AHeap → Prop}

theorem sliceHi {r i : Nat} {E : List (Nat × Nat)} (hl : E.length ≤ 1000) (hi : i ≤ E.length) : alloc (cut (E.map tieV) none (some (i : Int))) H = .ok (.ref H.length) (H ++ [.list ((E.take i).map tieV)]) := by
  rw [cut_hi (by rw [List.length_map]; exact hi), List.map_take, allocK]
  rw [List.length_take, List.length_map]; (first | lia | omega)
theorem sliceLo {r i : Nat} {E : List (Nat × Nat)} (hl : E.length ≤ 1000) (hi : i ≤ E.length) : alloc (cut (E.map tieV) (some (i : Int)) none) H = .ok (.ref H.length) (H ++ [.list ((E.drop i).map tieV)]) := by
  rw [cut_lo (by rw [List.length_map]; exact hi), List.map_drop, allocK]
  rw [List.length_drop, List.length_map]; (first | lia | omega)
theorem addT {r q : Nat} {E F : List (Nat × Nat)} (hr : TL H r E) (hq : TL H q F) (hl : E.length + F.length ≤ 1000) : binop .Add (.ref r) (.ref q) H = .ok (.ref H.length) (H ++ [.list ((E ++ F).map tieV)]) := by
  rw [b_addL, hr, hq, List.map_append]
  exact allocK (by rw [List.length_append, List.length_map, List.length_map]; exact hl)

theorem item_tie {r i : Nat} {E : List (Nat × Nat)} {e : Nat × Nat} (hT : TL H r E) (he : E[i]? = some e) : itemOf sc (.ref r) (.int i) H = .ok (tieV e) H := item_ref hT (by rw [List.getElem?_map, he]; rfl)

end
end Mine

namespace Mine
open PySem

/-! the law's nets, anew -/
section
variable {strF : SrtF} {sc : List Int} {P : Nat → Option FnI} {H H0 H1 H2 H3 : AHeap} {n m b : Nat} {ρ : AEnv} {cf : Nat → List AV → AHeap → Res AV} {N : AEnv → AHeap → Prop} {R : AV → AHeap → Prop} {x y : PE} {ss : PSs}

theorem modB {c : Int} {n k : Nat} (e : c.fmod n = k) (h : 0 < n) : binop .Mod (.int c) (.int (n : Int)) H = .ok (.int k) H := by
  rw [b_mod, if_pos (by (first | lia | omega)), e]
theorem divB {c d : Int} (h0 : d ≠ 0) (h : d.natAbs < 1000000) : binop .FloorDiv (.int c) (.int d) H = .ok (.int (c.fdiv d)) H := by
  rw [b_div, if_pos ⟨h0, big_lit h⟩]
/-- a for over 0 .. -/
theorem forN {step : AV → AEnv → AHeap → SR} (I : Nat → AEnv → AHeap → Prop) {k : Nat} (h0 : I 0 ρ H) (hs : ∀ i ρ H, i < k → I i ρ H → (step (.int i) ρ H).sat (I (i + 1)) R) (hN : ∀ ρ H, I k ρ H → N ρ H) : (forL [] step (rangeL 0 k) ρ H).sat N R := by
  refine forL_range (fun i ρ H => I i.toNat ρ H) (by (first | lia | omega)) h0 (fun i ρ H h1 h2 h => ?_) fun ρ H h => hN ρ H (by simpa using h)
  obtain ⟨j, rfl⟩ : ∃ j : Nat, i = j := ⟨i.toNat, by (first | lia | omega)⟩
  have := hs j ρ H (by (first | lia | omega)) (by simpa using h)
  refine SR.sat_mono this (fun ρ H h => ?_) fun _ _ h => h
  show I ((j : Int) + 1).toNat ρ H
  rw [show ((j : Int) + 1).toNat = j + 1 by (first | lia | omega)]; exact h
theorem inR_N {k : Nat} (h : k ≤ 1000) : inR (k : Int) = true := inR_nat h
theorem mixed {k : Nat} (h5 : P 5 = some fn_5) (h6 : P 6 = some fn_6) (hk : k < 1000) : callF strF P sc (m + 2) 6 [.scr, .int k] H = .ok (.int (mix sc k)) H := mix_spec h5 h6 hk

inductive TrI (H0 : AHeap) (n k : Nat) (ρ : AEnv) (H : AHeap) : Prop
  | mk (E : List (Nat × Nat)) (x3 x4 x5 : Option AV) (hρ : ρ = [some .scr, some (.int n), some (.ref H0.length), x3, x4, x5]) (hp : H0 <+: H) (hT : TL H H0.length E) (hl : E.length = k) (hok : okT n E) : TrI H0 n k ρ H
theorem okT_snoc {E : List (Nat × Nat)} {e : Nat × Nat} (h : okT n E) (h1 : e.1 < n) (h2 : e.2 < n) : okT n (E ++ [e]) := fun f hf => by
  rcases List.mem_append.mp hf with hf | hf
  · exact h f hf
  · cases List.mem_singleton.mp hf; exact ⟨h1, h2⟩
inductive TreeR (H : AHeap) (n : Nat) (v : AV) (H' : AHeap) : Prop
  | mk (r : Nat) (E : List (Nat × Nat)) (hv : v = .ref r) (hT : TL H' r E) (hp : H <+: H') (hge : H.length ≤ r) (hl : E.length = n) (hok : okT (n + 1) E) : TreeR H n v H'
/-- what _law_tree answers -/
theorem tree_new (h5 : P 5 = some fn_5) (h6 : P 6 = some fn_6) (h7 : P 7 = some fn_7) (hn : n ≤ 7) : (callF strF P sc (m + 3) 7 [.scr, .int (n + 1 : Nat)] H).sat (TreeR H n) := by
  have e1 : binop .Sub (.int (n + 1 : Nat)) (.int 1) (H ++ [.list []]) = .ok (.int n) (H ++ [.list []]) := by rw [b_sub, show ((n + 1 : Nat) : Int) - 1 = (n : Int) by (first | lia | omega)]
  refine s_call h7 rfl (s_assign (v_list vs_nil (allocK (by simp))) (s_for1 (i_range1 (v_bin (v_var rfl) v_int e1) (inR_N (by (first | lia | omega)))) (forN (TrI H (n + 1)) ⟨[], _, _, _, rfl, pre_app _ _, last_get _ _, rfl, fun e he => by cases he⟩ ?_ ?_)))
  · rintro k ρ H1 hk ⟨E, x3, x4, x5, rfl, hp, hT, hl, hok⟩
    have e4 : binop .Add (.int 4) (.int k) H1 = .ok (.int (4 + k : Nat)) H1 := b_add
    have ek : binop .Add (.int k) (.int 1) H1 = .ok (.int (k + 1 : Nat)) H1 := b_add
    obtain ⟨a, ea, ha⟩ := fmod_nat (c := mix sc (4 + k)) (n := k + 1) (by (first | lia | omega))
    obtain ⟨c, ec, hc⟩ := fmod_nat (c := (mix sc (4 + k)).fdiv 7) (n := 2) (by decide)
    have hpa := pre_app H1 [.list [AV.tup [.int a, .int (k + 1 : Nat)], AV.tup [.int (k + 1 : Nat), .int a]]]
    obtain ⟨e, he, ho1, ho2⟩ : ∃ e : Nat × Nat, itemOf sc (.ref H1.length) (.int c) (H1 ++ [.list [AV.tup [.int a, .int (k + 1 : Nat)], AV.tup [.int (k + 1 : Nat), .int a]]]) = .ok (tieV e) (H1 ++ [.list [AV.tup [.int a, .int (k + 1 : Nat)], AV.tup [.int (k + 1 : Nat), .int a]]]) ∧ e.1 < n + 1 ∧ e.2 < n + 1 := by
      rcases (show c = 0 ∨ c = 1 by (first | lia | omega)) with rfl | rfl
      · exact ⟨(a, k + 1), item_ref (last_get _ _) rfl, by show a < n + 1; (first | lia | omega), by show k + 1 < n + 1; (first | lia | omega)⟩
      · exact ⟨(k + 1, a), item_ref (last_get _ _) rfl, by show k + 1 < n + 1; (first | lia | omega), by show a < n + 1; (first | lia | omega)⟩
    have hT2 := get_pre hpa hT
    exact s_assign (v_call (vs_cons (v_var rfl) (vs_cons (v_bin v_int (v_var rfl) e4) vs_nil)) (mixed h5 h6 (by (first | lia | omega))))
      (s_assign (v_tuple (vs_cons (v_bin (v_var rfl) (v_bin (v_var rfl) v_int ek) (modB ea (by (first | lia | omega)))) (vs_cons (v_bin (v_var rfl) v_int ek) vs_nil)) tup2)
      (s_expr (v_append (v_var rfl) (isL_of hT) (v_idx (v_list (vs_cons (v_var rfl) (vs_cons (v_tuple (vs_cons (v_idx (v_var rfl) v_int item_tup1) (vs_cons (v_idx (v_var rfl) v_int item_tup0) vs_nil)) tup2) vs_nil)) (allocK (by simp))) (v_bin (v_bin (v_var rfl) v_int (divB (by decide) (by decide))) v_int (modB (n := 2) ec (by decide))) he)
        (append_tie hT2 (Nat.le_refl _) (Nat.lt_of_lt_of_le (show E.length < 100 by (first | lia | omega)) (by decide))))
      (s_nil ⟨E ++ [e], _, _, _, rfl, prefix_set (hp.trans hpa) (Nat.le_refl _), set_top ⟨_, hT2⟩, by rw [List.length_append, hl]; rfl, okT_snoc hok ho1 ho2⟩)))
  · rintro ρ H1 ⟨E, x3, x4, x5, rfl, hp, hT, hl, hok⟩
    exact s_ret (v_var rfl) ⟨_, E, rfl, hT, hp, Nat.le_refl _, hl, hok⟩

theorem sliceHi' {i : Nat} {E : List (Nat × Nat)} (hl : E.length ≤ 100) (hi : i ≤ E.length) : alloc (cut (E.map tieV) none (some (i : Int))) H = .ok (.ref H.length) (H ++ [.list ((E.take i).map tieV)]) := sliceHi (r := 0) (by (first | lia | omega)) hi
theorem sliceLo' {i : Nat} {E : List (Nat × Nat)} (hl : E.length ≤ 100) (hi : i ≤ E.length) : alloc (cut (E.map tieV) (some (i : Int)) none) H = .ok (.ref H.length) (H ++ [.list ((E.drop i).map tieV)]) := sliceLo (r := 0) (by (first | lia | omega)) hi
theorem modAdd {a d : Nat} (h : 0 < n) : binop .Mod (.int ((a : Int) + (d : Int))) (.int n) H = .ok (.int ((a + d) % n : Nat)) H := modB (by rw [Int.fmod_eq_emod_of_nonneg _ (by (first | lia | omega))]; simp) h

/-- the end of _law_net: places turned, ties told from another one on -/
theorem netTail_new {r most room : Nat} {first : Int} {E : List (Nat × Nat)} {x6 x7 x8 x9 x10 x11 : Option AV} (h5 : P 5 = some fn_5) (h6 : P 6 = some fn_6) (h1 : 1 ≤ n) (hn : n ≤ most) (p : H0 <+: H) (hT : TL H r E) (hl : E.length ≤ room) (hr : room ≤ 16) (hok : okT n E) :
    (denSs strF (callF strF P sc (m + 2)) sc H0.length netTail [some .scr, some (.int most), some (.int room), some (.int first), some (.int n), some (.ref r), x6, x7, x8, x9, x10, x11] H).sat N (NetR H0 most room) := by
  obtain ⟨d, ed, hd⟩ := fmod_nat (c := first.fdiv 35) (n := n) (by (first | lia | omega))
  obtain ⟨a, ea, ha⟩ := fmod_nat (c := mix sc 2) (n := E.length + 1) (by (first | lia | omega))
  have hE1 : (E.map fun e => ((e.1 + d) % n, (e.2 + d) % n)).length = E.length := List.length_map ..
  have hok1 : okT n (E.map fun e => ((e.1 + d) % n, (e.2 + d) % n)) := fun e he => by
    obtain ⟨x, _, rfl⟩ := List.mem_map.mp he
    exact ⟨Nat.mod_lt _ h1, Nat.mod_lt _ h1⟩
  refine s_assign (v_bin (v_bin (v_var rfl) v_int (divB (by decide) (by decide))) (v_var rfl) (modB ed h1)) (s_assign (v_comp2 (i_ofR (v_var rfl) hT) (compL_ties hT (fun e => ((e.1 + d) % n, (e.2 + d) % n)) E fun e he => ?_) (allocK (by rw [List.length_map, hE1]; (first | lia | omega)))) ?_)
  · exact k_pair (v_tuple (vs_cons (v_bin (v_bin (v_var rfl) (v_var rfl) b_add) (v_var rfl) (modAdd h1)) (vs_cons (v_bin (v_bin (v_var rfl) (v_var rfl) b_add) (v_var rfl) (modAdd h1)) vs_nil)) tup2)
  generalize (E.map fun e => ((e.1 + d) % n, (e.2 + d) % n)) = E1 at hE1 hok1
  have p1 := pre_app H [.list (E1.map tieV)]
  have hT1 : TL (H ++ [.list (E1.map tieV)]) H.length E1 := last_get _ _
  generalize H ++ [.list (E1.map tieV)] = H1 at p1 hT1
  have el : binop .Add (.int E1.length) (.int 1) H1 = .ok (.int (E.length + 1 : Nat)) H1 := by rw [b_add, hE1]; rfl
  have p2 := pre_app H1 [.list ((E1.drop a).map tieV)]
  have p3 := pre_app (H1 ++ [.list ((E1.drop a).map tieV)]) [.list ((E1.take a).map tieV)]
  have hlx : (E1.drop a).length + (E1.take a).length = E.length := by rw [List.length_drop, List.length_take]; (first | lia | omega)
  refine s_assign (v_bin (v_call (vs_cons (v_var rfl) (vs_cons v_int vs_nil)) (mixed (k := 2) h5 h6 (by decide))) (v_bin (v_prim (vs_cons (v_var rfl) vs_nil) (by rw [p_lenR, i_ref, hT1]; exact congrArg (fun k : Nat => Res.ok (AV.int k) H1) (List.length_map ..))) v_int el) (modB ea (by (first | lia | omega))))
    (s_ret (v_tuple (vs_cons (v_var rfl) (vs_cons (v_bin (v_slice (v_var rfl) (o_some (v_var rfl)) o_none hT1 (sliceLo' (by (first | lia | omega)) (by (first | lia | omega)))) (v_slice (v_var rfl) o_none (o_some (v_var rfl)) (get_pre p2 hT1) (sliceHi' (by (first | lia | omega)) (by (first | lia | omega)))) (addT (get_pre p3 (last_get _ _)) (last_get _ _) (by (first | lia | omega)))) vs_nil)) tup2)
    ⟨n, _, E1.drop a ++ E1.take a, rfl, last_get _ _, ((p.trans p1).trans (p2.trans p3)).trans (pre_app _ _), ((p.trans p1).trans (p2.trans p3)).length_le, by rw [List.length_append]; (first | lia | omega), fun e he => ?_, h1, hn⟩)
  rcases List.mem_append.mp he with he | he
  · exact hok1 e (List.mem_of_mem_drop he)
  · exact hok1 e (List.mem_of_mem_take he)

inductive NlI (H0 : AHeap) (most room : Nat) (first : Int) (n r l : Nat) (k : Nat) (ρ : AEnv) (H : AHeap) : Prop
  | mk (E : List (Nat × Nat)) (x6 x7 x8 x9 x10 x11 : Option AV) (hρ : ρ = [some .scr, some (.int most), some (.int room), some (.int first), some (.int n), some (.ref r), x6, x7, x8, x9, x10, x11]) (hp : H0 <+: H) (hT : TL H r E) (hl : E.length = l + k) (hok : okT n E) : NlI H0 most room first n r l k ρ H
/-- a tie is put to the others -/
theorem netPut {r most room k l : Nat} {first : Int} {E : List (Nat × Nat)} {e : Nat × Nat} {x6 x7 x8 x10 x11 : Option AV} (hge : H0.length ≤ r) (p : H0 <+: H) (hT : TL H r E) (hl : E.length = l + k) (hlk : l + k < 100) (hok : okT n E) (h1 : e.1 < n) (h2 : e.2 < n) :
    (denSs strF cf sc H0.length (.cons (.expr (.append (.var 5) (.var 9))) .nil) [some .scr, some (.int most), some (.int room), some (.int first), some (.int n), some (.ref r), x6, x7, x8, some (tieV e), x10, x11] H).sat (NlI H0 most room first n r l (k + 1)) R :=
  s_expr (v_append (v_var rfl) (isL_of hT) (v_var rfl) (append_tie hT hge (Nat.lt_of_lt_of_le (show E.length < 100 by (first | lia | omega)) (by decide)))) (s_nil ⟨E ++ [e], _, _, _, _, _, _, rfl, prefix_set p hge, set_top ⟨_, hT⟩, by rw [List.length_append, hl]; rfl, okT_snoc hok h1 h2⟩)

theorem netLoop_new {r most room : Nat} {first : Int} {E : List (Nat × Nat)} {x6 x7 x8 x9 x10 x11 : Option AV} (h5 : P 5 = some fn_5) (h6 : P 6 = some fn_6) (h1 : 1 ≤ n) (hn : n ≤ most) (hroom : room ≤ 16) (hge : H0.length ≤ r) (p : H0 <+: H) (hT : TL H r E) (hl : E.length ≤ room) (hok : okT n E) :
    (denSs strF (callF strF P sc (m + 2)) sc H0.length netLoop [some .scr, some (.int most), some (.int room), some (.int first), some (.int n), some (.ref r), x6, x7, x8, x9, x10, x11] H).sat N (NetR H0 most room) := by
  obtain ⟨k, ek, hk⟩ := fmod_nat (c := mix sc 1) (n := room - E.length + 1) (by (first | lia | omega))
  have lenT : ∀ {H : AHeap} {r : Nat} {E : List (Nat × Nat)}, TL H r E → prim strF sc .len [.ref r] H = .ok (.int E.length) H := fun {H r E} h => by rw [p_lenR, i_ref, h]; exact congrArg (fun k : Nat => Res.ok (AV.int k) H) (List.length_map ..)
  have e1 : binop .Sub (.int room) (.int E.length) H = .ok (.int (room - E.length : Nat)) H := by rw [b_sub, show (room : Int) - (E.length : Int) = ((room - E.length : Nat) : Int) by (first | lia | omega)]
  have e2 : binop .Add (.int (room - E.length : Nat)) (.int 1) H = .ok (.int (room - E.length + 1 : Nat)) H := b_add
  refine s_for1 (i_range1 (v_bin (v_call (vs_cons (v_var rfl) (vs_cons v_int vs_nil)) (mixed (k := 1) h5 h6 (by decide))) (v_bin (v_bin (v_var rfl) (v_prim (vs_cons (v_var rfl) vs_nil) (lenT hT)) e1) v_int e2) (modB ek (by (first | lia | omega)))) (inR_N (by (first | lia | omega))))
    (forN (NlI H0 most room first n r E.length) ⟨E, _, _, _, _, _, _, rfl, p, hT, rfl, hok⟩ ?_ ?_)
  · rintro i ρ H1 hi ⟨E1, x6, x7, x8, x9, x10, x11, rfl, p1, hT1, hl1, hok1⟩
    have e11 : binop .Add (.int 11) (.int i) H1 = .ok (.int (11 + i : Nat)) H1 := b_add
    obtain ⟨one, eone, hone⟩ := fmod_nat (c := mix sc (11 + i)) (n := n) (by (first | lia | omega))
    obtain ⟨d, ed, hd⟩ := fmod_nat (c := (mix sc (11 + i)).fdiv 7) (n := n) (by (first | lia | omega))
    refine s_assign (v_call (vs_cons (v_var rfl) (vs_cons (v_bin v_int (v_var rfl) e11) vs_nil)) (mixed h5 h6 (by (first | lia | omega)))) (s_assign (v_bin (v_var rfl) (v_var rfl) (modB eone h1))
      (s_assign (v_tuple (vs_cons (v_var rfl) (vs_cons (v_bin (v_bin (v_var rfl) (v_bin (v_bin (v_var rfl) v_int (divB (by decide) (by decide))) (v_var rfl) (modB ed h1)) b_add) (v_var rfl) (modAdd h1)) vs_nil)) tup2) ?_))
    have hlt : (one + d) % n < n := Nat.mod_lt _ h1
    obtain ⟨c, ec, hc⟩ := fmod_nat (c := (mix sc (11 + i)).fdiv 49) (n := 6) (by decide)
    have ec' : binop .Mod (.int ((mix sc (11 + i)).fdiv 49)) (.int 6) H1 = .ok (.int c) H1 := modB (n := 6) ec (by decide)
    by_cases h5' : c = 5
    · have hc5 : cmpop .Eq (.int c) (.int 5) H1 = some true := eqT (by rw [h5']; rfl)
      have p2 := pre_app H1 [.list []]
      have hT2 : TL (H1 ++ [.list []]) r E1 := get_pre p2 hT1
      have hne := c_neR (r := r) (v := .ref H1.length) (H := H1 ++ [.list []])
      rw [eqOf_nil hT1] at hne
      by_cases hE : E1 = []
      · rw [decide_eq_true hE] at hne
        exact s_skip (t_and (at_true (t_cmp (v_bin (v_bin (v_var rfl) v_int (divB (by decide) (by decide))) v_int ec') v_int hc5) (at_false (t_cmp (v_var rfl) (v_list vs_nil (allocK (by simp))) hne)))) (netPut (e := (one, (one + d) % n)) hge (p1.trans p2) hT2 hl1 (by (first | lia | omega)) hok1 hone hlt)
      · rw [decide_eq_false hE] at hne
        have hpos : 0 < E1.length := List.length_pos_iff.mpr hE
        obtain ⟨j, ej, hj⟩ := fmod_nat (c := (mix sc (11 + i)).fdiv 300) hpos
        have he := List.getElem?_eq_getElem hj
        have ho := hok1 _ (List.getElem_mem hj)
        exact s_iteT (t_and (at_true (t_cmp (v_bin (v_bin (v_var rfl) v_int (divB (by decide) (by decide))) v_int ec') v_int hc5) (at_true (t_cmp (v_var rfl) (v_list vs_nil (allocK (by simp))) hne) at_nil)))
          (s_assign (v_idx (v_var rfl) (v_bin (v_bin (v_var rfl) v_int (divB (by decide) (by decide))) (v_prim (vs_cons (v_var rfl) vs_nil) (lenT hT2)) (modB ej hpos)) (item_tie hT2 he)) (s_nil (netPut hge (p1.trans p2) hT2 hl1 (by (first | lia | omega)) hok1 ho.1 ho.2)))
    · exact s_skip (t_and (at_false (t_cmp (v_bin (v_bin (v_var rfl) v_int (divB (by decide) (by decide))) v_int ec') v_int (eqF (by (first | lia | omega)))))) (netPut (e := (one, (one + d) % n)) hge p1 hT1 hl1 (by (first | lia | omega)) hok1 hone hlt)
  · rintro ρ H1 ⟨E1, x6, x7, x8, x9, x10, x11, rfl, p1, hT1, hl1, hok1⟩
    exact netTail_new h5 h6 h1 hn p1 hT1 (by (first | lia | omega)) hroom hok1

/-- what _law_net answers -/
theorem net_new {most room : Nat} (h5 : P 5 = some fn_5) (h6 : P 6 = some fn_6) (h7 : P 7 = some fn_7) (h8 : P 8 = some fn_8) (hm : 1 ≤ most) (hm7 : most ≤ 7) (hr : most ≤ room + 1) (hr16 : room ≤ 16) :
    (callF strF P sc (m + 4) 8 [.scr, .int most, .int room] H).sat (NetR H most room) := by
  obtain ⟨n, en, hn⟩ := fmod_nat (c := mix sc 0) hm
  have e1 : binop .Add (.int 1) (.int n) H = .ok (.int (n + 1 : Nat)) H := by rw [b_add, show (1 : Int) + (n : Int) = ((n + 1 : Nat) : Int) by (first | lia | omega)]
  refine s_call (body := fn_8.body) h8 rfl (s_assign (v_call (vs_cons (v_var rfl) (vs_cons v_int vs_nil)) (mixed (k := 0) h5 h6 (by decide))) (s_assign (v_bin v_int (v_bin (v_var rfl) (v_var rfl) (modB en hm)) e1) (s_assign (v_list vs_nil (allocK (by simp))) ?_)))
  have hT0 : TL (H ++ [.list []]) H.length [] := last_get _ _
  have p0 := pre_app H [.list []]
  have ec : binop .Mod (.int ((mix sc 0).fdiv 7)) (.int 5) (H ++ [.list []]) = .ok (.int (((mix sc 0).fdiv 7).fmod 5)) (H ++ [.list []]) := by rw [b_mod, if_pos (by decide)]
  by_cases h : 0 < ((mix sc 0).fdiv 7).fmod 5
  · obtain ⟨v, H2, e2, r, E, rfl, hT, hp, hg, hl, hok⟩ := Res.sat_ex (tree_new (strF := strF) (sc := sc) (m := m) (H := H ++ [.list []]) h5 h6 h7 (show n ≤ 7 by (first | lia | omega)))
    exact s_iteT (t_cmp (v_bin (v_bin (v_var rfl) v_int (divB (by decide) (by decide))) v_int ec) v_int (gtT h)) (s_assign (v_call (vs_cons (v_var rfl) (vs_cons (v_var rfl) vs_nil)) e2) (s_nil (netLoop_new (m := m + 1) h5 h6 (by (first | lia | omega)) hn hr16 (Nat.le_trans p0.length_le hg) (p0.trans hp) hT (by (first | lia | omega)) hok)))
  · exact s_skip (t_cmp (v_bin (v_bin (v_var rfl) v_int (divB (by decide) (by decide))) v_int ec) v_int (gtF h)) (netLoop_new (m := m + 1) (E := []) h5 h6 (by (first | lia | omega)) hn hr16 (Nat.le_refl _) p0 hT0 (Nat.zero_le _) fun e he => by cases he)
end
end Mine

namespace Mine
open PySem

/-! worth_of, anew -/
section
variable {M A : Mat} {k i p a c n : Nat}
end

section
variable {strF : SrtF} {sc : List Int} {P : Nat → Option FnI} {H H0 H1 H2 H3 H4 : AHeap} {n m b k t : Nat} {ρ : AEnv} {cf : Nat → List AV → AHeap → Res AV} {N : AEnv → AHeap → Prop} {R : AV → AHeap → Prop} {x y z : PE} {v w u : AV} {ss : PSs} {qs : List Nat} {A M M0 : Mat} {sg last : Int}

end
end Mine

namespace Mine
open PySem

/-! need_net, table_by, tally_of, anew -/
noncomputable def plainV : AV → Bool
  | .scr => false
  | .fn _ => false
  | .exc _ => false
  | _ => true
section
variable {strF : SrtF} {sc : List Int} {P : Nat → Option FnI} {H H0 H1 H2 H3 : AHeap} {n m b : Nat} {ρ : AEnv} {cf : Nat → List AV → AHeap → Res AV} {N : AEnv → AHeap → Prop} {R : AV → AHeap → Prop} {K K' : AV → AHeap → Prop} {x y : PE} {es : PEs} {ss : PSs} {v w : AV} {vs : List AV}

theorem isInt_ofK {t : Bool} (h : isIntK v = some t) : prim strF sc .isInt [v] H = .ok (.bool t) H := by rw [p_isInt, h]; rfl
theorem isBool_ofK {t : Bool} (h : isBoolK v = some t) : prim strF sc .isBool [v] H = .ok (.bool t) H := by rw [p_isBool, h]; rfl
theorem isList_ofK {t : Bool} (h : isListK v H = some t) : prim strF sc .isList [v] H = .ok (.bool t) H := by rw [p_isList, h]; rfl
theorem isTuple_ofK {t : Bool} (h : isTupleK v = some t) : prim strF sc .isTuple [v] H = .ok (.bool t) H := by rw [p_isTuple, h]; rfl
theorem isListT {q : Nat} {xs : List AV} (h : H[q]? = some (.list xs)) : isListK (.ref q) H = some true := by rw [k_list, h]
theorem leT {i j : Int} (h : i ≤ j) : cmpop .LtE (.int i) (.int j) H = some true := by rw [c_le, decide_eq_true h]
theorem leF {i j : Int} (h : ¬ i ≤ j) : cmpop .LtE (.int i) (.int j) H = some false := by rw [c_le, decide_eq_false h]
theorem len_list {r : Nat} {xs : List AV} (h : H[r]? = some (.list xs)) : prim strF sc .len [.ref r] H = .ok (.int xs.length) H := by rw [p_lenR, i_ref, h]
theorem len_ties {r : Nat} {E : List (Nat × Nat)} (h : TL H r E) : prim strF sc .len [.ref r] H = .ok (.int E.length) H := by rw [len_list h, List.length_map]
/-- what is_among answers of any thing -/
inductive AmR (lo hi : Int) (v : AV) (t : Bool) : Prop
  | yes (i : Int) (hv : v = .int i) (h1 : lo ≤ i) (h2 : i ≤ hi) (ht : t = true) : AmR lo hi v t
  | no (h : ∀ i, v = .int i → ¬ (lo ≤ i ∧ i ≤ hi)) (ht : t = false) : AmR lo hi v t
inductive AmE (strF : SrtF) (P : Nat → Option FnI) (sc : List Int) (m : Nat) (H : AHeap) (lo hi : Int) (v : AV) : Prop
  | mk (t : Bool) (e : callF strF P sc (m + 1) 0 [v, .int lo, .int hi] H = .ok (.bool t) H) (h : AmR lo hi v t) : AmE strF P sc m H lo hi v
theorem among_any (h0 : P 0 = some fn_0) {lo hi : Int} (hv : plainV v = true) : AmE strF P sc m H lo hi v := by
  by_cases hi' : ∃ i, v = .int i
  · obtain ⟨i, rfl⟩ := hi'
    by_cases h1 : lo ≤ i
    · by_cases h2 : i ≤ hi
      · exact ⟨true, sat_eq (s_call h0 rfl (s_ret (v_and (a_true (v_prim (vs_cons (v_var rfl) vs_nil) (isInt_ofK rfl)) (a_true (v_notT (v_prim (vs_cons (v_var rfl) vs_nil) (isBool_ofK rfl))) (a_one (v_cmp2 (v_var rfl) (v_var rfl) (leT h1) (v_var rfl) (leT h2)))))) ⟨rfl, rfl⟩)), .yes i rfl h1 h2 rfl⟩
      · exact ⟨false, sat_eq (s_call h0 rfl (s_ret (v_and (a_true (v_prim (vs_cons (v_var rfl) vs_nil) (isInt_ofK rfl)) (a_true (v_notT (v_prim (vs_cons (v_var rfl) vs_nil) (isBool_ofK rfl))) (a_one (v_cmp2 (v_var rfl) (v_var rfl) (leT h1) (v_var rfl) (leF h2)))))) ⟨rfl, rfl⟩)), .no (fun j e q => by cases e; exact h2 q.2) rfl⟩
    · exact ⟨false, sat_eq (s_call h0 rfl (s_ret (v_and (a_true (v_prim (vs_cons (v_var rfl) vs_nil) (isInt_ofK rfl)) (a_true (v_notT (v_prim (vs_cons (v_var rfl) vs_nil) (isBool_ofK rfl))) (a_one (v_cmp2f (v_var rfl) (v_var rfl) (leF h1)))))) ⟨rfl, rfl⟩)), .no (fun j e q => by cases e; exact h1 q.1) rfl⟩
  · have hno : ∀ i, v = .int i → ¬ (lo ≤ i ∧ i ≤ hi) := fun i e => absurd ⟨i, e⟩ hi'
    by_cases hb : ∃ c, v = .bool c
    · obtain ⟨c, rfl⟩ := hb
      exact ⟨false, sat_eq (s_call h0 rfl (s_ret (v_and (a_true (v_prim (vs_cons (v_var rfl) vs_nil) (isInt_ofK rfl)) (a_false (v_notF (v_prim (vs_cons (v_var rfl) vs_nil) (isBool_ofK rfl)))))) ⟨rfl, rfl⟩)), .no hno rfl⟩
    · have hk : isIntK v = some false := by
        cases v with
        | int i => exact absurd ⟨i, rfl⟩ hi'
        | bool c => exact absurd ⟨c, rfl⟩ hb
        | scr => cases hv
        | fn k => cases hv
        | exc c => cases hv
        | _ => rfl
      exact ⟨false, sat_eq (s_call h0 rfl (s_ret (v_and (a_false (v_prim (vs_cons (v_var rfl) vs_nil) (isInt_ofK hk)))) ⟨rfl, rfl⟩)), .no hno rfl⟩
theorem among_in (h0 : P 0 = some fn_0) {x lo hi : Int} (h1 : lo ≤ x) (h2 : x ≤ hi) : callF strF P sc (m + 1) 0 [.int x, .int lo, .int hi] H = .ok (.bool true) H := by
  obtain ⟨t, e, h⟩ := among_any (strF := strF) (sc := sc) (m := m) (H := H) (v := .int x) (lo := lo) (hi := hi) h0 rfl
  cases h with
  | yes i hv q1 q2 ht => rw [e, ht]
  | no h ht => exact absurd ⟨h1, h2⟩ (h x rfl)

inductive NeI (H0 : AHeap) (n r k : Nat) (ρ : AEnv) (H : AHeap) : Prop
  | mk (x2 : Option AV) (hρ : ρ = [some (.int n), some (.ref r), x2]) (hH : H = H0) : NeI H0 n r k ρ H
/-- need_net, where all is well -/
theorem need_new (h0 : P 0 = some fn_0) (h1' : P 1 = some fn_1) {r : Nat} {E : List (Nat × Nat)} (h1 : 1 ≤ n) (hn : n ≤ 7) (hT : TL H r E) (hl : E.length ≤ 16) (hok : okT n E) : callF strF P sc (m + 2) 1 [.int n, .ref r] H = .ok .none H := by
  refine sat_eq (s_call h1' rfl (s_skip (t_notF (t_call (vs_cons (v_var rfl) (vs_cons v_int (vs_cons v_gint vs_nil))) (among_in h0 (by (first | lia | omega)) (by (first | lia | omega))))) (s_skip (t_or (ot_false (t_notF (t_prim (vs_cons (v_var rfl) vs_nil) (isList_ofK (isListT hT)))) (ot_false (t_cmp (v_prim (vs_cons (v_var rfl) vs_nil) (len_ties hT)) v_gint (gtF (by (first | lia | omega)))) ot_nil)))
    (s_for1 (i_ofR (v_var rfl) hT) (forL_list (NeI H n r) ⟨_, rfl, rfl⟩ ?_ ?_)))))
  · rintro k v ρ H' hv ⟨x2, rfl, rfl⟩
    obtain ⟨e, he, rfl⟩ := ties_get hv
    obtain ⟨o1, o2⟩ := hok e (List.mem_of_getElem? he)
    exact s_skip (t_or (ot_false (t_notF (t_prim (vs_cons (v_var rfl) vs_nil) (isTuple_ofK rfl))) (ot_false (t_cmp (v_prim (vs_cons (v_var rfl) vs_nil) p_lenT) v_int (neF rfl)) ot_nil)))
      (s_skip (t_or (ot_false (t_notF (t_call (vs_cons (v_idx (v_var rfl) v_int item_tup0) (vs_cons v_int (vs_cons (v_bin (v_var rfl) v_int b_sub) vs_nil))) (among_in h0 (by (first | lia | omega)) (by (first | lia | omega))))) (ot_false (t_notF (t_call (vs_cons (v_idx (v_var rfl) v_int item_tup1) (vs_cons v_int (vs_cons (v_bin (v_var rfl) v_int b_sub) vs_nil))) (among_in h0 (by (first | lia | omega)) (by (first | lia | omega))))) ot_nil)))
      (s_nil ⟨⟨_, rfl, rfl⟩, hT⟩))
  · rintro ρ H' ⟨x2, rfl, rfl⟩
    exact s_nil ⟨rfl, rfl⟩

end
end Mine

namespace Mine
open PySem

section
variable {strF : SrtF} {sc : List Int} {P : Nat → Option FnI} {H H0 H1 H2 H3 : AHeap} {n m b : Nat} {ρ : AEnv} {cf : Nat → List AV → AHeap → Res AV} {N : AEnv → AHeap → Prop} {R : AV → AHeap → Prop} {x y : PE} {ss : PSs}

theorem len_nats {r : Nat} {F : List Nat} (h : H[r]? = some (.list (F.map natV))) : prim strF sc .len [.ref r] H = .ok (.int F.length) H := by rw [len_list h, List.length_map]
/-- one half of a turn: a place that hangs at x is taken on -/
theorem half_new {r i j k : Nat} {E : List (Nat × Nat)} {s x y : Nat} {F : List Nat} {u : Nat} (hge : H0.length ≤ r) (hr : H[r]? = some (.list (F.map natV))) (p : H0 <+: H) (h : Rch E n s F) (hn : n ≤ 7) (hx : F[k]? = some x) (hc : u = x → Conn E x y) (hy : y < n)
    (r3 : ρ[3]? = some (some (.ref r))) (r4 : ρ[4]? = some (some (.int k))) (ri : ρ[i]? = some (some (.int u))) (rj : ρ[j]? = some (some (.int y)))
    (hN : ∀ H' F', H'[r]? = some (.list (F'.map natV)) → H0 <+: H' → Rch E n s F' → F <+: F' → (u = x → y ∈ F') → (denSs strF cf sc H0.length ss ρ H').sat N R) :
    (denSs strF cf sc H0.length (.cons (.ite (.and (.cons (.cmp .Eq (.var i) (.idx (.var 3) (.var 4))) (.cons (.cmp .NotIn (.var j) (.var 3)) .nil))) (.cons (.expr (.append (.var 3) (.var j))) .nil) .nil) ss) ρ H).sat N R := by
  have it := item_ref (sc := sc) (k := k) (x := natV x) hr (by rw [List.getElem?_map, hx]; rfl)
  have hnot := c_notin (v := .int y) (w := .ref r) (H := H)
  rw [inOf_nats hr] at hnot
  by_cases h1 : u = x
  · have c1 := t_cmp (strF := strF) (cf := cf) (b := H0.length) (v_var ri) (v_idx (v_var r3) (v_var r4) it) (eqT (by rw [h1]))
    by_cases h2 : y ∈ F
    · rw [decide_eq_true h2] at hnot
      exact s_skip (t_and (at_true c1 (at_false (t_cmp (v_var rj) (v_var r3) hnot)))) (hN H F hr p h List.prefix_rfl fun _ => h2)
    · rw [decide_eq_false h2] at hnot
      have hl := nodup_len h.nd fun p hp => (h.lt p hp).1
      exact s_iteT (t_and (at_true c1 (at_true (t_cmp (v_var rj) (v_var r3) hnot) at_nil))) (s_expr (v_append (v_var r3) (isL_of hr) (v_var rj) (append_nat hr hge (Nat.lt_of_lt_of_le (show F.length < 100 by (first | lia | omega)) (by decide))))
        (s_nil (hN _ (F ++ [y]) (set_top ⟨_, hr⟩) (prefix_set p hge) (h.add (List.mem_of_getElem? hx) (hc h1) hy h2) (List.prefix_append ..) fun _ => by simp)))
  · exact s_skip (t_and (at_false (t_cmp (v_var ri) (v_idx (v_var r3) (v_var r4) it) (eqF fun q => h1 (Int.ofNat.inj q))))) (hN H F hr p h List.prefix_rfl fun e => absurd e h1)

inductive RcI (H0 : AHeap) (n rt s : Nat) (E : List (Nat × Nat)) (k : Nat) (ρ : AEnv) (H : AHeap) : Prop
  | mk (F : List Nat) (x5 x6 : Option AV) (hρ : ρ = [some (.int n), some (.ref rt), some (.int s), some (.ref H0.length), some (.int k), x5, x6]) (hr : H[H0.length]? = some (.list (F.map natV))) (hp : H0 <+: H) (hR : Rch E n s F) (hk : k ≤ F.length)
    (hc : ∀ j x, j < k → F[j]? = some x → ∀ e ∈ E, (e.1 = x → e.2 ∈ F) ∧ (e.2 = x → e.1 ∈ F)) : RcI H0 n rt s E k ρ H
inductive RcJ (H0 : AHeap) (n rt s : Nat) (E : List (Nat × Nat)) (k x : Nat) (F : List Nat) (q : Nat) (ρ : AEnv) (H : AHeap) : Prop
  | mk (F' : List Nat) (x5 x6 : Option AV) (hρ : ρ = [some (.int n), some (.ref rt), some (.int s), some (.ref H0.length), some (.int k), x5, x6]) (hr : H[H0.length]? = some (.list (F'.map natV))) (hp : H0 <+: H) (hR : Rch E n s F') (hF : F <+: F')
    (hc : ∀ e ∈ E.take q, (e.1 = x → e.2 ∈ F') ∧ (e.2 = x → e.1 ∈ F')) : RcJ H0 n rt s E k x F q ρ H
inductive ReachR (H : AHeap) (n s : Nat) (E : List (Nat × Nat)) (v : AV) (H' : AHeap) : Prop
  | mk (r : Nat) (F : List Nat) (hv : v = .ref r) (hr : H'[r]? = some (.list ((sortI (F.map fun (p : Nat) => (p : Int))).map .int))) (hp : H <+: H') (hge : H.length ≤ r) (nd : F.Nodup) (lt : ∀ p ∈ F, p < n) (hF : ∀ p, p < n → (p ∈ F ↔ Conn E s p)) : ReachR H n s E v H'
theorem rch_close {E : List (Nat × Nat)} {F : List Nat} (h : ∀ x, x ∈ F → ∀ e ∈ E, (e.1 = x → e.2 ∈ F) ∧ (e.2 = x → e.1 ∈ F)) {x y : Nat} (c : Conn E x y) : x ∈ F ↔ y ∈ F := by
  induction c with
  | refl p => exact Iff.rfl
  | @tie e m => exact ⟨fun q => (h _ q e m).1 rfl, fun q => (h _ q e m).2 rfl⟩
  | symm _ ih => exact ih.symm
  | trans _ _ i1 i2 => exact i1.trans i2
theorem s_whl {c : PE} {body : PSs} (k : (whileL (denT strF cf sc b c) (denSs strF cf sc b body) 100 ρ H).sat (fun ρ H => (denSs strF cf sc b ss ρ H).sat N R) R) : (denSs strF cf sc b (.cons (.whl c body) ss) ρ H).sat N R := by
  rw [sat_cons, sat_whl]; exact k

/-- what _law_reached answers -/
theorem reach_spec (h10 : P 10 = some fn_10) {rt s : Nat} {E : List (Nat × Nat)} (hn : n ≤ 7) (hT : TL H rt E) (hok : okT n E) (hs : s < n) : (callF strF P sc (m + 1) 10 [.int n, .ref rt, .int s] H).sat (ReachR H n s E) := by
  refine s_call h10 rfl (s_assign (v_list (vs_cons (v_var rfl) vs_nil) (allocK (by simp))) (s_assign v_int (s_whl (whileL_rule (RcI H n rt s E) 7 ?_ 100 0 _ _ (by decide) (by decide)
    ⟨[s], _, _, rfl, last_get _ _, pre_app _ _, ⟨by simp, fun p hp => by simp at hp; subst hp; exact ⟨hs, .refl _⟩, by simp⟩, Nat.zero_le _, fun j x hj => absurd hj (Nat.not_lt_zero _)⟩))))
  rintro k ρ H' hk ⟨F, x5, x6, rfl, hr, p, hR, hkl, hcl⟩
  have hlen := nodup_len hR.nd fun p hp => (hR.lt p hp).1
  refine ⟨_, H', t_cmp (v_var rfl) (v_prim (vs_cons (v_var rfl) vs_nil) (len_nats hr)) c_lt, fun hf => ?_, fun ht => ?_⟩
  · have hk2 : k = F.length := by have := of_decide_eq_false hf; (first | lia | omega)
    have es : prim strF sc .sorted [.ref H.length] H' = .ok (.ref H'.length) (H' ++ [.list ((sortI (F.map fun (p : Nat) => (p : Int))).map .int)]) := by
      rw [p_sorted, hr]
      show (if (F.map natV).length < 64 then _ else _) = _
      rw [if_pos (by rw [List.length_map]; (first | lia | omega)), intsOf_nats]
      exact allocK (by rw [List.length_map, sortI_length, List.length_map]; (first | lia | omega))
    refine s_ret (v_prim (vs_cons (v_var rfl) vs_nil) es) ⟨_, F, rfl, last_get _ _, p.trans (pre_app _ _), p.length_le, hR.nd, fun p hp => (hR.lt p hp).1, fun q hq => ⟨fun h => (hR.lt q h).2, fun c => (rch_close (fun x hx => ?_) c).mp hR.st⟩⟩
    obtain ⟨j, hj⟩ := List.mem_iff_getElem?.mp hx
    exact hcl j x (by have := (List.getElem?_eq_some_iff.mp hj).1; (first | lia | omega)) hj
  · have hkl2 : k < F.length := by have := of_decide_eq_true ht; (first | lia | omega)
    refine ⟨by (first | lia | omega), ?_⟩
    obtain ⟨x, hx⟩ : ∃ x, F[k]? = some x := ⟨F[k], List.getElem?_eq_getElem hkl2⟩
    refine s_for2 (i_ofR (v_var rfl) (get_pre p hT)) (forL_list (RcJ H n rt s E k x F) ⟨F, _, _, rfl, hr, p, hR, List.prefix_rfl, fun e he => by simp at he⟩ ?_ ?_)
    · rintro q v ρ H2 hv ⟨F2, x5, x6, rfl, hr2, p2, hR2, pF2, hc2⟩
      obtain ⟨e, he, rfl⟩ := ties_get hv
      have hm := List.mem_of_getElem? he
      obtain ⟨o1, o2⟩ := hok e hm
      refine half_new (n := n) (k := k) (E := E) (s := s) (x := x) (y := e.2) (u := e.1) (Nat.le_refl _) hr2 p2 hR2 hn (pre_get pF2 hx) (fun h => h ▸ .tie hm) o2 rfl rfl rfl rfl fun H3 F3 hr3 p3 hR3 pF3 g3 => ?_
      refine half_new (n := n) (k := k) (E := E) (s := s) (x := x) (y := e.1) (u := e.2) (Nat.le_refl _) hr3 p3 hR3 hn (pre_get (pF2.trans pF3) hx) (fun h => h ▸ (Conn.tie hm).symm) o1 rfl rfl rfl rfl fun H4 F4 hr4 p4 hR4 pF4 g4 => ?_
      refine s_nil ⟨⟨F4, _, _, rfl, hr4, p4, hR4, (pF2.trans pF3).trans pF4, fun f hf => ?_⟩, get_pre p4 hT⟩
      rw [List.take_add_one, he] at hf
      rcases List.mem_append.mp hf with hf | hf
      · exact ⟨fun h => (pF3.trans pF4).subset ((hc2 f hf).1 h), fun h => (pF3.trans pF4).subset ((hc2 f hf).2 h)⟩
      · cases List.mem_singleton.mp hf
        exact ⟨fun h => pF4.subset (g3 h), g4⟩
    · rintro ρ H2 ⟨F2, x5, x6, rfl, hr2, p2, hR2, pF2, hc2⟩
      rw [List.length_map, List.take_length] at hc2
      refine s_assign (v_bin (v_var rfl) v_int b_add) (s_nil ⟨F2, _, _, rfl, hr2, p2, hR2, Nat.lt_of_lt_of_le hkl2 pF2.length_le, fun j y hj hy e he => ?_⟩)
      by_cases hjk : j = k
      · subst hjk
        rw [pre_get pF2 hx] at hy; cases hy
        exact hc2 e he
      · have hjl : j < F.length := by (first | lia | omega)
        have hy' : F[j]? = some y := by
          obtain ⟨z, rfl⟩ := pF2
          rwa [List.getElem?_append_left hjl] at hy
        have := hcl j y (by (first | lia | omega)) hy' e he
        exact ⟨fun h => pF2.subset (this.1 h), fun h => pF2.subset (this.2 h)⟩
end
end Mine

namespace Mine
open PySem

/-! labels: each place has the least place that it hangs together with -/
noncomputable def labStep (L : List Nat) (e : Nat × Nat) : List Nat := L.map fun l => if l = max (L.getD e.1 0) (L.getD e.2 0) then min (L.getD e.1 0) (L.getD e.2 0) else l
structure Lab (n : Nat) (F : List (Nat × Nat)) (L : List Nat) : Prop where
  len : L.length = n
  lt : ∀ p, p < n → L.getD p 0 < n ∧ Conn F p (L.getD p 0)
  le : ∀ p q, p < n → q < n → Conn F p q → L.getD p 0 ≤ q
theorem getD_range {n p : Nat} (h : p < n) : (List.range n).getD p 0 = p := by
  rw [List.getD_eq_getElem?_getD, List.getElem?_range h]; rfl
theorem lab_start (n : Nat) : Lab n [] (List.range n) where
  len := List.length_range
  lt := fun p hp => by rw [getD_range hp]; exact ⟨hp, .refl _⟩
  le := fun p q hp hq c => by rw [getD_range hp]; exact Nat.le_of_eq (conn_nil c)
theorem getD_map {f : Nat → Nat} {L : List Nat} {p : Nat} (h : p < L.length) : (L.map f).getD p 0 = f (L.getD p 0) := by
  rw [List.getD_eq_getElem?_getD, List.getD_eq_getElem?_getD, List.getElem?_map, List.getElem?_eq_getElem h]; rfl
theorem Lab.eq {n : Nat} {F : List (Nat × Nat)} {L : List Nat} (l : Lab n F L) {p q : Nat} (hp : p < n) (hq : q < n) (c : Conn F p q) : L.getD p 0 = L.getD q 0 :=
  Nat.le_antisymm (l.le p _ hp (l.lt q hq).1 (c.trans (l.lt q hq).2)) (l.le q _ hq (l.lt p hp).1 (c.symm.trans (l.lt p hp).2))
/-- a Conn that may be walked place by place -/
theorem Conn.const {n : Nat} {F : List (Nat × Nat)} {f : Nat → Nat} (hok : okT n F) (h : ∀ e ∈ F, f e.1 = f e.2) {p q : Nat} (c : Conn F p q) : f p = f q := by
  induction c with
  | refl p => rfl
  | tie m => exact h _ m
  | symm _ ih => exact ih.symm
  | trans _ _ i1 i2 => exact i1.trans i2
theorem lab_step {n : Nat} {F : List (Nat × Nat)} {L : List Nat} {e : Nat × Nat} (l : Lab n F L) (hok : okT n F) (h1 : e.1 < n) (h2 : e.2 < n) : Lab n (F ++ [e]) (labStep L e) := by
  have hF : ∀ {p q}, Conn F p q → Conn (F ++ [e]) p q := fun c => c.mono fun f hf => .tie (List.mem_append_left _ hf)
  have hab : Conn (F ++ [e]) (L.getD e.1 0) (L.getD e.2 0) := ((hF (l.lt e.1 h1).2).symm.trans (.tie (List.mem_append_right _ List.mem_cons_self))).trans (hF (l.lt e.2 h2).2)
  have la := (l.lt e.1 h1).1
  have lb := (l.lt e.2 h2).1
  generalize ha : L.getD e.1 0 = a at hab la
  generalize hb : L.getD e.2 0 = c at hab lb
  have hg : ∀ p, p < n → (labStep L e).getD p 0 = if L.getD p 0 = max a c then min a c else L.getD p 0 := fun p hp => by
    unfold labStep; rw [ha, hb]
    exact getD_map (f := fun l => if l = max a c then min a c else l) (l.len ▸ hp)
  have hle : ∀ p, p < n → (labStep L e).getD p 0 ≤ p := fun p hp => by
    have := l.le p p hp hp (.refl _)
    rw [hg p hp]; split <;> (first | lia | omega)
  have hmm : Conn (F ++ [e]) (max a c) (min a c) := by
    by_cases h : a ≤ c
    · rw [Nat.max_eq_right h, Nat.min_eq_left h]; exact hab.symm
    · rw [Nat.max_eq_left (by (first | lia | omega)), Nat.min_eq_right (by (first | lia | omega))]; exact hab
  refine ⟨by unfold labStep; rw [List.length_map]; exact l.len, fun p hp => ?_, fun p q hp hq cc => ?_⟩
  · rw [hg p hp]
    split
    · rename_i h
      exact ⟨by (first | lia | omega), (hF (h ▸ (l.lt p hp).2)).trans hmm⟩
    · exact ⟨(l.lt p hp).1, hF (l.lt p hp).2⟩
  · have hc := Conn.const (n := n) (f := fun p => if p < n then (labStep L e).getD p 0 else p) (F := F ++ [e]) (fun f hf => by
      rcases List.mem_append.mp hf with hf | hf
      · exact hok f hf
      · simp at hf; subst hf; exact ⟨h1, h2⟩) (fun f hf => ?_) cc
    · simp only [hp, hq, if_true] at hc
      rw [hc]; exact hle q hq
    · rcases List.mem_append.mp hf with hf | hf
      · obtain ⟨o1, o2⟩ := hok f hf
        simp only [o1, o2, if_true]
        rw [hg _ o1, hg _ o2, l.eq o1 o2 (.tie hf)]
      · simp at hf; subst hf
        simp only [h1, h2, if_true]
        rw [hg _ h1, hg _ h2, ha, hb]
        have : min a c ≤ max a c := by (first | lia | omega)
        by_cases h : a ≤ c
        · rw [Nat.max_eq_right h, Nat.min_eq_left h, if_pos rfl]; split <;> rfl
        · rw [Nat.max_eq_left (by (first | lia | omega)), Nat.min_eq_right (by (first | lia | omega)), if_pos rfl]; split <;> rfl
noncomputable def labs (n : Nat) (E : List (Nat × Nat)) : List Nat := E.foldl labStep (List.range n)
theorem okT_pre {n : Nat} {E F : List (Nat × Nat)} (h : okT n (F ++ E)) : okT n F := fun e he => h e (List.mem_append_left _ he)
theorem lab_all {n : Nat} : ∀ (E F : List (Nat × Nat)) {L : List Nat}, Lab n F L → okT n (F ++ E) → Lab n (F ++ E) (E.foldl labStep L)
  | [], F, L, l, _ => by rw [List.append_nil]; exact l
  | e :: E, F, L, l, h => by
    have he := h e (List.mem_append_right _ List.mem_cons_self)
    have h' : okT n ((F ++ [e]) ++ E) := by rw [List.append_assoc]; exact h
    have := lab_all E (F ++ [e]) (lab_step l (okT_pre h) he.1 he.2) h'
    rw [List.append_assoc] at this
    exact this
theorem lab_labs {n : Nat} {E : List (Nat × Nat)} (h : okT n E) : Lab n E (labs n E) := lab_all E [] (lab_start n) h
theorem labs_snoc (n : Nat) (E : List (Nat × Nat)) (e : Nat × Nat) : labs n (E ++ [e]) = labStep (labs n E) e := by unfold labs; rw [List.foldl_append]; rfl

/-- all hang together just where all labels are 0 -/
theorem lab_allC {n : Nat} {E : List (Nat × Nat)} {L : List Nat} (l : Lab n E L) (h1 : 1 ≤ n) : AllC n E ↔ ∀ x ∈ L, x = 0 := by
  constructor
  · intro h x hx
    obtain ⟨p, hp⟩ := List.mem_iff_getElem?.mp hx
    have hpn : p < n := l.len ▸ (List.getElem?_eq_some_iff.mp hp).1
    have := l.le p 0 hpn (by (first | lia | omega)) (h p 0 hpn (by (first | lia | omega)))
    rw [List.getD_eq_getElem?_getD, hp] at this
    exact Nat.le_zero.mp this
  · intro h p q hp hq
    have z : ∀ x, x < n → Conn E x 0 := fun x hx => by
      have := (l.lt x hx).2
      have hx' : x < L.length := by rw [l.len]; exact hx
      rwa [h (L.getD x 0) (by rw [List.getD_eq_getElem?_getD, List.getElem?_eq_getElem hx']; exact List.getElem_mem ..)] at this
    exact (z p hp).trans (z q hq).symm

/-! a rule for all comprehensions -/
section
variable {strF : SrtF} {sc : List Int} {P : Nat → Option FnI} {H H0 : AHeap} {n m : Nat} {ρ : AEnv} {cf : Nat → List AV → AHeap → Res AV} {N : AEnv → AHeap → Prop} {R : AV → AHeap → Prop}

theorem stillsK {ws : List (Nat × List AV)} (h : ∀ w ∈ ws, H[w.1]? = some (.list w.2)) : ws.all (fun w => still H w.1 w.2) = true := List.all_eq_true.mpr fun w hw => still_of (h w hw)
/-- nothing is made but the items -/
theorem comp_map {α : Type} {g f : α → AV} {ws : List (Nat × List AV)} {step : AV → AHeap → Res (Option AV)} (hw : ∀ w ∈ ws, H[w.1]? = some (.list w.2)) : ∀ (l : List α), (∀ a ∈ l, step (g a) H = .ok (some (f a)) H) → compL ws step (l.map g) H = .ok (l.map f) H
  | [], _ => rfl
  | a :: l, h => by
    rw [List.map_cons, compL, h a List.mem_cons_self]
    simp only [Res.get, stillsK hw, if_true, comp_map hw l fun a ha => h a (List.mem_cons_of_mem _ ha)]; rfl
theorem comp_filter {α : Type} {g f : α → AV} {c : α → Bool} {ws : List (Nat × List AV)} {step : AV → AHeap → Res (Option AV)} (hw : ∀ w ∈ ws, H[w.1]? = some (.list w.2)) : ∀ (l : List α), (∀ a ∈ l, step (g a) H = .ok (if c a then some (f a) else none) H) → compL ws step (l.map g) H = .ok ((l.filter c).map f) H
  | [], _ => rfl
  | a :: l, h => by
    rw [List.map_cons, compL, h a List.mem_cons_self]
    simp only [Res.get, stillsK hw, if_true, comp_filter hw l fun a ha => h a (List.mem_cons_of_mem _ ha)]
    cases hc : c a with
    | true => rw [List.filter_cons_of_pos hc]; rfl
    | false => rw [List.filter_cons_of_neg (by simp [hc])]; rfl
theorem one_w {q : Nat} {xs : List AV} (h : H[q]? = some (.list xs)) : ∀ w ∈ [(q, xs)], H[w.1]? = some (.list w.2) := fun w hw => by
  cases List.mem_singleton.mp hw; exact h
noncomputable def fn_2 : FnI := ⟨2, 7, .cons (.assign 2 (.prim .listRange (.cons (.var 0) .nil))) (.cons (.for2 3 4 (.of (.var 1)) (.cons (.assign 5 (.prim .min2 (.cons (.idx (.var 2) (.var 3)) (.cons (.idx (.var 2) (.var 4)) .nil)))) (.cons (.assign 6 (.prim .max2 (.cons (.idx (.var 2) (.var 3)) (.cons (.idx (.var 2) (.var 4)) .nil)))) (.cons (.assign 2 (.comp1 (.ite (.cmp .Eq (.var 0) (.var 7)) (.var 6) (.var 0)) (.of (.var 2)) .none)) .nil)))) (.cons (.ret (.var 2)) .nil))⟩
/-- a list of places, made anew -/
inductive NatsR (H : AHeap) (F : List Nat) (v : AV) (H' : AHeap) : Prop
  | mk (r : Nat) (hv : v = .ref r) (hr : H'[r]? = some (.list (F.map natV))) (hp : H <+: H') (hge : H.length ≤ r) : NatsR H F v H'
inductive LabI (H : AHeap) (n r : Nat) (E : List (Nat × Nat)) (k : Nat) (ρ : AEnv) (H' : AHeap) : Prop
  | mk (q : Nat) (x3 x4 x5 x6 : Option AV) (hρ : ρ = [some (.int n), some (.ref r), some (.ref q), x3, x4, x5, x6]) (hp : H <+: H') (hq : H'[q]? = some (.list ((labs n (E.take k)).map natV))) (hge : H.length ≤ q) : LabI H n r E k ρ H'
theorem item_nat {r p : Nat} {F : List Nat} (h : H[r]? = some (.list (F.map natV))) (hp : p < F.length) : itemOf sc (.ref r) (.int p) H = .ok (.int (F.getD p 0 : Nat)) H :=
  item_ref h (by rw [List.getElem?_map, List.getElem?_eq_getElem hp, List.getD_eq_getElem?_getD, List.getElem?_eq_getElem hp]; rfl)
theorem min_nats {a c : Nat} : prim strF sc .min2 [.int a, .int c] H = .ok (.int (min a c : Nat)) H := by rw [p_min2]; congr 2; (first | lia | omega)
theorem max_nats {a c : Nat} : prim strF sc .max2 [.int a, .int c] H = .ok (.int (max a c : Nat)) H := by rw [p_max2]; congr 2; (first | lia | omega)
theorem range_nats (k : Nat) : rangeL 0 k = (List.range k).map natV := rangeL_nat k

theorem lrange_ok {k : Nat} (h : k ≤ 1000) : prim strF sc .listRange [.int k] H = .ok (.ref H.length) (H ++ [.list ((List.range k).map natV)]) := by
  rw [p_lrange, if_pos (inR_N h), range_nats]
  exact allocK (by rw [List.length_map, List.length_range]; exact h)
theorem labs_length (n : Nat) (E : List (Nat × Nat)) (h : okT n E) : (labs n E).length = n := (lab_labs h).len

/-- what labels_of answers -/
theorem labels_spec (h2 : P 2 = some fn_2) {r : Nat} {E : List (Nat × Nat)} (hn : n ≤ 7) (hT : TL H r E) (hok : okT n E) : (callF strF P sc (m + 1) 2 [.int n, .ref r] H).sat (NatsR H (labs n E)) := by
  refine s_call h2 rfl (s_assign (v_prim (vs_cons (v_var rfl) vs_nil) (lrange_ok (k := n) (by (first | lia | omega)))) (s_for2 (i_ofR (v_var rfl) (get_pre (pre_app _ _) hT)) (forL_list (LabI H n r E)
    ⟨H.length, _, _, _, _, rfl, pre_app _ _, last_get _ _, Nat.le_refl _⟩ ?_ ?_)))
  · rintro k v ρ H' hv ⟨q, x3, x4, x5, x6, rfl, hp, hq, hge⟩
    obtain ⟨e, he, rfl⟩ := ties_get hv
    have ho := hok e (List.mem_of_getElem? he)
    have hokk : okT n (E.take k) := fun f hf => hok f (List.mem_of_mem_take hf)
    have hlen := labs_length n _ hokk
    generalize hL : labs n (E.take k) = L at hq hlen
    have h1 := item_nat (sc := sc) (p := e.1) hq (by (first | lia | omega))
    have h3 := item_nat (sc := sc) (p := e.2) hq (by (first | lia | omega))
    refine s_assign (v_prim (vs_cons (v_idx (v_var rfl) (v_var rfl) h1) (vs_cons (v_idx (v_var rfl) (v_var rfl) h3) vs_nil)) min_nats)
      (s_assign (v_prim (vs_cons (v_idx (v_var rfl) (v_var rfl) h1) (vs_cons (v_idx (v_var rfl) (v_var rfl) h3) vs_nil)) max_nats)
      (s_assign (v_comp1 (i_ofR (v_var rfl) hq) (comp_map (f := fun l => natV (if l = max (L.getD e.1 0) (L.getD e.2 0) then min (L.getD e.1 0) (L.getD e.2 0) else l)) (one_w hq) L fun l _ => ?_) (allocK (by rw [List.length_map]; (first | lia | omega))))
      (s_nil ⟨⟨_, _, _, _, _, rfl, hp.trans (pre_app _ _), ?_, hp.length_le⟩, get_pre (hp.trans (pre_app _ _)) hT⟩)))
    · refine k_none1 ?_
      by_cases h : l = max (L.getD e.1 0) (L.getD e.2 0)
      · rw [if_pos h]; exact v_iteT (t_cmp (v_var rfl) (v_var rfl) (eqT (by rw [← h]))) (v_var rfl)
      · rw [if_neg h]; exact v_iteF (t_cmp (v_var rfl) (v_var rfl) (eqF (fun q => h (Int.ofNat.inj q)))) (v_var rfl)
    · rw [last_get, List.take_add_one, he, show (some e).toList = [e] from rfl, labs_snoc, hL, labStep, List.map_map]; rfl
  · rintro ρ H' ⟨q, x3, x4, x5, x6, rfl, hp, hq, hge⟩
    rw [List.length_map, List.take_length] at hq
    exact s_ret (v_var rfl) ⟨q, rfl, hq, hp, hge⟩
end
end Mine

namespace Mine
open PySem

/-! rising lists, made longer at the end -/
noncomputable def lst (S : List Nat) : Nat := match S.getLast? with
  | none => 0
  | some x => x + 1
noncomputable def ext (M : Nat) (S : List Nat) : List (List Nat) := (List.range (M - lst S)).map fun k => S ++ [lst S + k]
theorem lst_snoc (S : List Nat) (x : Nat) : lst (S ++ [x]) = x + 1 := by unfold lst; rw [List.getLast?_concat]
theorem snoc_cases (S : List Nat) : S = [] ∨ ∃ T x, S = T ++ [x] := by
  by_cases h : S = []
  · exact .inl h
  · exact .inr ⟨S.dropLast, S.getLast h, (List.dropLast_concat_getLast h).symm⟩
/-! lists of places in the heap -/
inductive Fa (H : AHeap) : List Nat → List (List Nat) → Prop
  | nil : Fa H [] []
  | cons {q : Nat} {qs : List Nat} {S : List Nat} {Ss : List (List Nat)} (h : H[q]? = some (.list (S.map natV))) (r : Fa H qs Ss) : Fa H (q :: qs) (S :: Ss)
theorem Fa.grow {H H' : AHeap} (p : H <+: H') {qs : List Nat} {Ss : List (List Nat)} (f : Fa H qs Ss) : Fa H' qs Ss := by
  induction f with
  | nil => exact .nil
  | cons h _ ih => exact .cons (get_pre p h) ih
theorem Fa.app {H : AHeap} {qs ps : List Nat} {Ss Ts : List (List Nat)} (f : Fa H qs Ss) (t : Fa H ps Ts) : Fa H (qs ++ ps) (Ss ++ Ts) := by
  induction f with
  | nil => exact t
  | cons h _ ih => exact .cons h ih
theorem Fa.length {H : AHeap} {qs : List Nat} {Ss : List (List Nat)} (f : Fa H qs Ss) : qs.length = Ss.length := by
  induction f with
  | nil => rfl
  | cons _ _ ih => rw [List.length_cons, List.length_cons, ih]
theorem Fa.get {H : AHeap} {qs : List Nat} {Ss : List (List Nat)} (f : Fa H qs Ss) {i q : Nat} (e : qs[i]? = some q) : ∃ S, Ss[i]? = some S ∧ H[q]? = some (.list (S.map natV)) := by
  induction f generalizing i with
  | nil => cases e
  | cons h _ ih => cases i with
    | zero => cases e; exact ⟨_, rfl, h⟩
    | succ i => exact ih e
theorem Fa.at {H : AHeap} {qs : List Nat} {Ss : List (List Nat)} (f : Fa H qs Ss) {i : Nat} {S : List Nat} (e : Ss[i]? = some S) : ∃ q, qs[i]? = some q ∧ H[q]? = some (.list (S.map natV)) := by
  have hi : i < qs.length := f.length ▸ (List.getElem?_eq_some_iff.mp e).1
  obtain ⟨T, e1, e2⟩ := f.get (List.getElem?_eq_getElem hi)
  rw [e] at e1; cases e1
  exact ⟨_, List.getElem?_eq_getElem hi, e2⟩
theorem rd_natL {H : AHeap} {d : Nat} : ∀ (F : List Nat), (F.map natV).mapM (rd H d) = some (F.map fun (p : Nat) => PyData.int p)
  | [] => rfl
  | x :: F => by
    rw [List.map_cons, List.mapM_cons, rd_natL F]
    cases d <;> rfl
theorem rd_nats {H : AHeap} {r d : Nat} {F : List Nat} (h : H[r]? = some (.list (F.map natV))) : rd H (d + 1) (.ref r) = some (.list (F.map fun (p : Nat) => PyData.int p)) := by
  unfold rd
  simp only [h, rd_natL]; rfl
theorem eqvAll_nats : ∀ (F G : List Nat), PyData.eqvAll (F.map fun (p : Nat) => PyData.int p) (G.map fun (p : Nat) => PyData.int p) = decide (F = G)
  | [], [] => rfl
  | [], y :: G => rfl
  | x :: F, [] => rfl
  | x :: F, y :: G => by
    simp only [List.map_cons, PyData.eqvAll, eqvAll_nats F G]
    have : PyData.eqv (.int (x : Int)) (.int (y : Int)) = decide (x = y) := by
      show ((x : Int) == (y : Int)) = _
      by_cases h : x = y
      · subst h; simp
      · rw [decide_eq_false h]; exact beq_eq_false_iff_ne.mpr fun e => h (Int.ofNat.inj e)
    rw [this]
    by_cases h : x = y <;> by_cases g : F = G <;> simp [h, g]
theorem eqOf_nats {H : AHeap} {r q : Nat} {F G : List Nat} (h : H[r]? = some (.list (F.map natV))) (h' : H[q]? = some (.list (G.map natV))) : eqOf (.ref r) (.ref q) H = some (decide (F = G)) := by
  unfold eqOf
  rw [rd_nats (d := 7) h, rd_nats (d := 7) h']
  simp only
  rw [show PyData.eqv (.list (F.map fun (p : Nat) => PyData.int p)) (.list (G.map fun (p : Nat) => PyData.int p)) = PyData.eqvAll (F.map fun (p : Nat) => PyData.int p) (G.map fun (p : Nat) => PyData.int p) from rfl, eqvAll_nats]

section
variable {strF : SrtF} {sc : List Int} {P : Nat → Option FnI} {H H0 : AHeap} {n m : Nat} {ρ : AEnv} {cf : Nat → List AV → AHeap → Res AV} {N : AEnv → AHeap → Prop} {R : AV → AHeap → Prop}

noncomputable def fn_54 : FnI := ⟨3, 3, .cons (.ret (.and (.cons (.cmp .Eq (.prim .len (.cons (.var 2) .nil)) (.bin .Sub (.var 0) (.int 1))) (.cons (.cmp .Eq (.prim .len (.cons (.call 10 (.cons (.var 0) (.cons (.comp1 (.idx (.var 2) (.var 0)) (.of (.var 2)) .none) (.cons (.int 0) .nil)))) .nil)) (.var 0)) .nil)))) .nil⟩
inductive BoolR (H : AHeap) (p : Prop) (v : AV) (H' : AHeap) : Prop
  | mk (t : Bool) (hv : v = .bool t) (ht : t = true ↔ p) (hp : H <+: H') : BoolR H p v H'
/-- the ties with these numbers -/
theorem picked {b r q i j : Nat} {E : List (Nat × Nat)} {S : List Nat} (hT : TL H r E) (hS : H[q]? = some (.list (S.map natV))) (hl : S.length ≤ 1000) (hlt : ∀ i ∈ S, i < E.length) (ri : ρ[i]? = some (some (.ref r))) (rj : ρ[j]? = some (some (.ref q))) :
    denE strF cf sc b (.comp1 (.idx (.var (i + 1)) (.var 0)) (.of (.var j)) .none) ρ H = .ok (.ref H.length) (H ++ [.list ((pick E S).map tieV)]) := by
  refine v_comp1 (i_ofR (v_var rj) hS) (comp_map (f := fun k => tieV (E.getD k (0, 0))) (one_w hS) S fun k hk => k_none1 (v_idx (v_var ri) (v_var rfl) (item_tie hT ?_))) ?_
  · rw [List.getD_eq_getElem?_getD, List.getElem?_eq_getElem (hlt k hk)]; rfl
  · unfold pick
    rw [List.map_map]
    exact allocK (by rw [List.length_map]; exact hl)
/-- what _law_is_hanging answers of so many ties -/
theorem ishang_spec (h10 : P 10 = some fn_10) (h54 : P 54 = some fn_54) {r q : Nat} {E : List (Nat × Nat)} {S : List Nat} (hn : n + 1 ≤ 7) (hT : TL H r E) (hok : okT (n + 1) E) (hS : H[q]? = some (.list (S.map natV))) (hl : S.length = n) (hlt : ∀ i ∈ S, i < E.length) :
    (callF strF P sc (m + 2) 54 [.int (n + 1 : Nat), .ref r, .ref q] H).sat (BoolR H (AllC (n + 1) (pick E S))) := by
  obtain ⟨v, H1, e1, r1, F, rfl, hr1, hp1, hge1, nd, lt, hF⟩ := Res.sat_ex (reach_spec (strF := strF) (sc := sc) (m := m) (H := H ++ [.list ((pick E S).map tieV)]) (s := 0) h10 hn (last_get _ _) (okT_pick hok hlt) (by (first | lia | omega)))
  refine s_call h54 rfl (s_ret (v_and (a_true (v_cmp (v_prim (vs_cons (v_var rfl) vs_nil) (len_nats hS)) (v_bin (v_var rfl) v_int b_sub) (eqT (by (first | lia | omega))))
    (a_one (v_cmp (v_prim (vs_cons (v_call (vs_cons (v_var rfl) (vs_cons (picked (i := 1) (j := 2) hT hS (by (first | lia | omega)) hlt rfl rfl) (vs_cons v_int vs_nil))) e1) vs_nil) (len_list hr1)) (v_var rfl) c_eq)))) ⟨_, rfl, ?_, (pre_app _ _).trans hp1⟩)
  rw [List.length_map, sortI_length, List.length_map, beq_iff_eq]
  constructor
  · intro h
    have hl : F.length = n + 1 := by (first | lia | omega)
    have f := nodup_full nd hl lt
    intro x y hx hy
    exact (((hF x hx).mp (f x hx)).symm).trans ((hF y hy).mp (f y hy))
  · intro h
    have h1 : n + 1 ≤ F.length := full_len fun p hp => (hF p hp).mpr (h 0 p (by (first | lia | omega)) hp)
    have h2 := nodup_len nd lt
    (first | lia | omega)
end
end Mine

namespace Mine
open PySem

section
variable {strF : SrtF} {sc : List Int} {P : Nat → Option FnI} {H H0 H1 H2 H3 : AHeap} {n m b : Nat} {ρ : AEnv} {cf : Nat → List AV → AHeap → Res AV} {N : AEnv → AHeap → Prop} {R : AV → AHeap → Prop} {K K' : AV → AHeap → Prop} {x y : PE} {es : PEs} {ss : PSs} {v w : AV} {vs : List AV}

/-! where the answer is known by what is wanted of it -/
end
end Mine

namespace Mine
open PySem

section
variable {strF : SrtF} {sc : List Int} {P : Nat → Option FnI} {H H0 H1 H2 H3 : AHeap} {n m b : Nat} {ρ : AEnv} {cf : Nat → List AV → AHeap → Res AV} {N : AEnv → AHeap → Prop} {R : AV → AHeap → Prop} {K K' : AV → AHeap → Prop} {x y : PE} {es : PEs} {ss : PSs} {v w : AV} {vs : List AV}

end
end Mine

namespace Mine
open PySem

/-! is_hanging_of, of any thing -/
section
variable {strF : SrtF} {sc : List Int} {P : Nat → Option FnI} {H H0 H1 H2 H3 : AHeap} {n m b : Nat} {ρ : AEnv} {cf : Nat → List AV → AHeap → Res AV} {N : AEnv → AHeap → Prop} {R : AV → AHeap → Prop} {K K' : AV → AHeap → Prop} {x y : PE} {es : PEs} {ss : PSs} {v w : AV} {vs : List AV}

noncomputable def fn_25 : FnI := ⟨3, 5, .cons (.ite (.or (.cons (.not (.prim .isList (.cons (.var 2) .nil))) (.cons (.cmp .NotEq (.prim .len (.cons (.var 2) .nil)) (.bin .Sub (.var 0) (.int 1))) .nil))) (.cons (.ret (.bool false)) .nil) .nil) (.cons (.assign 3 (.neg (.int 1))) (.cons (.for1 4 (.of (.var 2)) (.cons (.ite (.not (.call 0 (.cons (.var 4) (.cons (.bin .Add (.var 3) (.int 1)) (.cons (.bin .Sub (.prim .len (.cons (.var 1) .nil)) (.int 1)) .nil))))) (.cons (.ret (.bool false)) .nil) .nil) (.cons (.assign 3 (.var 4)) .nil))) (.cons (.ret (.cmp .Eq (.prim .max1 (.cons (.call 2 (.cons (.var 0) (.cons (.comp1 (.idx (.var 2) (.var 0)) (.of (.var 2)) .none) .nil))) .nil)) (.int 0))) .nil)))⟩

/-- a thing that is a hanging of the net -/
inductive IsH (H : AHeap) (n : Nat) (E : List (Nat × Nat)) (v : AV) : Prop
  | mk (q : Nat) (S : List Nat) (hv : v = .ref q) (hq : H[q]? = some (.list (S.map natV))) (hr : Ris E.length n S) (hc : AllC (n + 1) (pick E S)) : IsH H n E v
/-- a thing that may be asked of -/
inductive Ask (H : AHeap) (v : AV) : Prop
  | other (h : isListK v H = some false) (h' : ∀ q xs, v = .ref q → H[q]? ≠ some (.list xs)) : Ask H v
  | list (q : Nat) (xs : List AV) (hv : v = .ref q) (hq : H[q]? = some (.list xs)) (hx : ∀ x ∈ xs, plainV x = true) : Ask H v
theorem foldl_max0 : ∀ (F : List Nat) (a : Nat), (F.map fun (p : Nat) => (p : Int)).foldl max (a : Int) = 0 ↔ a = 0 ∧ ∀ x ∈ F, x = 0
  | [], a => by
    show ((a : Int) = 0) ↔ _
    exact ⟨fun h => ⟨by (first | lia | omega), fun x hx => by cases hx⟩, fun h => by rw [h.1]; rfl⟩
  | x :: F, a => by
    rw [List.map_cons, List.foldl_cons, show max (a : Int) (x : Int) = ((max a x : Nat) : Int) by (first | lia | omega), foldl_max0 F]
    constructor
    · intro h
      refine ⟨by (first | lia | omega), fun y hy => ?_⟩
      rcases List.mem_cons.mp hy with rfl | hy
      · (first | lia | omega)
      · exact h.2 y hy
    · intro h
      have := h.2 x List.mem_cons_self
      exact ⟨by (first | lia | omega), fun y hy => h.2 y (List.mem_cons_of_mem _ hy)⟩
inductive MaxE (strF : SrtF) (sc : List Int) (H : AHeap) (r : Nat) (F : List Nat) : Prop
  | mk (M : Int) (e : prim strF sc .max1 [.ref r] H = .ok (.int M) H) (h : M = 0 ↔ ∀ x ∈ F, x = 0) : MaxE strF sc H r F
theorem max_list {r : Nat} {F : List Nat} (h : H[r]? = some (.list (F.map natV))) (hF : 0 < F.length) : MaxE strF sc H r F := by
  cases F with
  | nil => cases hF
  | cons a F =>
    refine ⟨(F.map fun (p : Nat) => (p : Int)).foldl max (a : Int), ?_, ?_⟩
    · show (match (match H[r]? with
          | some (.list xs) => (match intsOf xs with
              | some (i :: is) => Res.ok (AV.int (is.foldl max i)) H
              | _ => .bad)
          | _ => .bad) with | r => r) = _
      rw [h]
      show (match intsOf ((a :: F).map natV) with
              | some (i :: is) => Res.ok (AV.int (is.foldl max i)) H
              | _ => .bad) = _
      rw [intsOf_nats]; rfl
    · rw [foldl_max0]
      constructor
      · intro h x hx
        rcases List.mem_cons.mp hx with rfl | hx
        · exact h.1
        · exact h.2 x hx
      · intro h
        exact ⟨h a List.mem_cons_self, fun x hx => h x (List.mem_cons_of_mem _ hx)⟩

inductive IhI (H : AHeap) (n r q : Nat) (E : List (Nat × Nat)) (xs : List AV) (k : Nat) (ρ : AEnv) (H' : AHeap) : Prop
  | mk (S : List Nat) (x4 : Option AV) (hρ : ρ = [some (.int (n + 1 : Nat)), some (.ref r), some (.ref q), some (.int ((lst S : Int) - 1)), x4]) (hH : H' = H) (hS : xs.take k = S.map natV) (hr : Ris E.length S.length S) : IhI H n r q E xs k ρ H'
theorem ris_snoc {M : Nat} {S : List Nat} {x : Nat} (h : Ris M S.length S) (h1 : lst S ≤ x) (h2 : x < M) : Ris M (S ++ [x]).length (S ++ [x]) := by
  refine ⟨rfl, fun i hi => ?_, List.pairwise_append.mpr ⟨h.pw, List.pairwise_singleton _ _, fun a ha c hc => ?_⟩⟩
  · rcases List.mem_append.mp hi with hi | hi
    · exact h.lt i hi
    · simp at hi; (first | lia | omega)
  · simp at hc; subst hc
    obtain rfl | ⟨T, y, rfl⟩ := snoc_cases S
    · cases ha
    · rw [lst_snoc] at h1
      rcases List.mem_append.mp ha with ha | ha
      · have := (List.pairwise_append.mp h.pw).2.2 a ha y (by simp); (first | lia | omega)
      · simp at ha; (first | lia | omega)
theorem ris_next {M k : Nat} {S T : List Nat} {x : Nat} (h : Ris M k (S ++ x :: T)) : lst S ≤ x ∧ x < M := by
  refine ⟨?_, h.lt x (by simp)⟩
  obtain rfl | ⟨U, y, rfl⟩ := snoc_cases S
  · exact Nat.zero_le _
  · rw [lst_snoc]
    exact (List.pairwise_append.mp h.pw).2.2 y (by simp) x (by simp)
theorem natV_inj {F G : List Nat} (h : F.map natV = G.map natV) : F = G := by
  induction F generalizing G with
  | nil => cases G with
    | nil => rfl
    | cons y G => cases h
  | cons x F ih =>
    cases G with
    | nil => cases h
    | cons y G =>
      rw [List.map_cons, List.map_cons] at h
      injection h with h1 h2
      injection h1 with h1
      rw [ih h2, Int.ofNat.inj h1]

/-- what is_hanging_of answers -/
theorem hangingof_spec (h0 : P 0 = some fn_0) (h2 : P 2 = some fn_2) (h25 : P 25 = some fn_25) {r : Nat} {E : List (Nat × Nat)} (hn : n + 1 ≤ 7) (hT : TL H r E) (hok : okT (n + 1) E) (hv : Ask H v) :
    (callF strF P sc (m + 2) 25 [.int (n + 1 : Nat), .ref r, v] H).sat (BoolR H (IsH H n E v)) := by
  refine s_call h25 rfl ?_
  cases hv with
  | other h h' =>
    exact s_iteT (t_or (ot_true (t_notT (t_prim (vs_cons (v_var rfl) vs_nil) (isList_ofK h))))) (s_ret v_bool ⟨false, rfl, ⟨fun h => (by cases h), fun i => by obtain ⟨q, S, rfl, hq, _⟩ := i; exact absurd hq (h' q _ rfl)⟩, List.prefix_rfl⟩)
  | list q xs hv hq hx =>
    subst hv
    have e1 : ((n + 1 : Nat) : Int) - 1 = (n : Int) := by (first | lia | omega)
    by_cases hl : xs.length = n
    · refine s_skip (t_or (ot_false (t_notF (t_prim (vs_cons (v_var rfl) vs_nil) (isList_ofK (isListT hq)))) (ot_false (t_cmp (v_prim (vs_cons (v_var rfl) vs_nil) (len_list hq)) (v_bin (v_var rfl) v_int b_sub) (neF (by (first | lia | omega)))) ot_nil)))
        (s_assign (v_neg v_int) (s_for1 (i_ofR (v_var rfl) hq) (forL_list (IhI H n r q E xs) ⟨[], _, rfl, rfl, rfl, ⟨rfl, fun i hi => (by cases hi), .nil⟩⟩ ?_ ?_)))
      · rintro k x ρ H' hk ⟨S, x4, rfl, rfl, hS, hr⟩
        obtain ⟨t, e, am⟩ := among_any (strF := strF) (sc := sc) (m := m) (H := H') (lo := (lst S : Int)) (hi := (E.length : Int) - 1) h0 (hx x (List.mem_of_getElem? hk))
        have e2 : (lst S : Int) - 1 + 1 = (lst S : Int) := by (first | lia | omega)
        have e3 : binop .Add (.int ((lst S : Int) - 1)) (.int 1) H' = .ok (.int (lst S)) H' := by rw [b_add, e2]
        cases am with
        | yes i hv h1 h2 ht =>
          subst ht hv
          obtain ⟨j, rfl⟩ : ∃ j : Nat, i = j := ⟨i.toNat, by (first | lia | omega)⟩
          refine s_skip (t_notF (t_call (vs_cons (v_var rfl) (vs_cons (v_bin (v_var rfl) v_int e3) (vs_cons (v_bin (v_prim (vs_cons (v_var rfl) vs_nil) (len_ties hT)) v_int b_sub) vs_nil))) e)) (s_assign (v_var rfl) (s_nil ⟨⟨S ++ [j], some (.int j), ?_, rfl, ?_, ris_snoc hr (by (first | lia | omega)) (by (first | lia | omega))⟩, hq⟩))
          · rw [lst_snoc, show (((j + 1 : Nat) : Int) - 1) = (j : Int) by (first | lia | omega)]; rfl
          · rw [List.take_add_one, hk, hS, List.map_append]; rfl
        | no h ht =>
          subst ht
          refine s_iteT (t_notT (t_call (vs_cons (v_var rfl) (vs_cons (v_bin (v_var rfl) v_int e3) (vs_cons (v_bin (v_prim (vs_cons (v_var rfl) vs_nil) (len_ties hT)) v_int b_sub) vs_nil))) e)) (s_ret v_bool ⟨false, rfl, ⟨fun h => (by cases h), fun i => ?_⟩, List.prefix_rfl⟩)
          obtain ⟨q', S', hv', hq', hr', _⟩ := i
          cases hv'
          rw [hq] at hq'
          injection hq' with hq'
          injection hq' with hq'
          have hsplit : xs = S.map natV ++ x :: xs.drop (k + 1) := by
            rw [← hS]
            conv => lhs; rw [← List.take_append_drop k xs]
            rw [List.drop_eq_getElem_cons (List.getElem?_eq_some_iff.mp hk).1, (List.getElem?_eq_some_iff.mp hk).2]
          rw [hq'] at hsplit
          obtain ⟨A, B, rfl, hA, hB⟩ := List.map_eq_append_iff.mp hsplit
          cases B with
          | nil => cases hB
          | cons y B =>
            rw [List.map_cons] at hB
            injection hB with hB1 hB2
            have := natV_inj hA; subst this
            have := ris_next hr'
            exact absurd ⟨by (first | lia | omega), by (first | lia | omega)⟩ (h y hB1.symm)
      · rintro ρ H' ⟨S, x4, rfl, rfl, hS, hr⟩
        rw [List.take_length] at hS
        subst hS
        rw [List.length_map] at hl
        have hlt := hr.lt
        have hokp := okT_pick hok hlt
        obtain ⟨v, H1, e1, r1, rfl, hr1, hp1, hg1⟩ := Res.sat_ex (labels_spec (strF := strF) (sc := sc) (m := m) (H := H' ++ [.list ((pick E S).map tieV)]) h2 hn (last_get _ _) hokp)
        have hlab := lab_labs hokp
        obtain ⟨M, e2, hM⟩ := max_list (strF := strF) (sc := sc) hr1 (by rw [hlab.len]; (first | lia | omega))
        refine s_ret (v_cmp (v_prim (vs_cons (v_call (vs_cons (v_var rfl) (vs_cons (picked (i := 1) (j := 2) hT hq (by (first | lia | omega)) hlt rfl rfl) vs_nil)) e1) vs_nil) e2) v_int c_eq) ⟨_, rfl, ?_, (pre_app _ _).trans hp1⟩
        rw [beq_iff_eq, hM, ← lab_allC hlab (by (first | lia | omega))]
        constructor
        · intro c; exact ⟨q, S, rfl, hq, hl ▸ hr, c⟩
        · intro i
          obtain ⟨q', S', hv', hq', hr', hc'⟩ := i
          cases hv'
          rw [hq] at hq'
          injection hq' with hq'
          injection hq' with hq'
          rw [natV_inj hq']; exact hc'
    · refine s_iteT (t_or (ot_false (t_notF (t_prim (vs_cons (v_var rfl) vs_nil) (isList_ofK (isListT hq)))) (ot_true (t_cmp (v_prim (vs_cons (v_var rfl) vs_nil) (len_list hq)) (v_bin (v_var rfl) v_int b_sub) (neT (by (first | lia | omega))))))) (s_ret v_bool ⟨false, rfl, ⟨fun h => (by cases h), fun i => ?_⟩, List.prefix_rfl⟩)
      obtain ⟨q', S', hv', hq', hr', _⟩ := i
      cases hv'
      rw [hq] at hq'
      injection hq' with hq'
      injection hq' with hq'
      rw [hq', List.length_map] at hl
      exact absurd hr'.len hl
end
end Mine

namespace Mine
open PySem

/-! Raises in the interpreter, step by step. -/
/-- goes on as N says, or raises c as X says -/
noncomputable def SR.xat (r : SR) (N : AEnv → AHeap → Prop) (c : Nat) (X : AHeap → Prop) : Prop := match r with
  | .next ρ H => N ρ H
  | .exc d H => d = c ∧ X H
  | _ => False
section
variable {strF : SrtF} {cf : Nat → List AV → AHeap → Res AV} {sc : List Int} {b : Nat} {ρ : AEnv} {H H1 H2 H3 H4 : AHeap} {x y z : PE} {es : PEs} {v w u : AV} {vs : List AV} {r t : Bool} {ss tt ee : PSs} {N : AEnv → AHeap → Prop} {c k : Nat} {X : AHeap → Prop} {R : AV → AHeap → Prop}
theorem x_raise {m : Str} (h : X H) : (denSs strF cf sc b (.cons (.raise c m) ss) ρ H).xat N c X := ⟨rfl, h⟩
theorem x_cons {s : PS} (h : (denS strF cf sc b s ρ H).xat (fun ρ H => (denSs strF cf sc b ss ρ H).xat N c X) c X) : (denSs strF cf sc b (.cons s ss) ρ H).xat N c X := by
  show (match denS strF cf sc b s ρ H with | .next ρ H => denSs strF cf sc b ss ρ H | r => r).xat N c X
  cases e : denS strF cf sc b s ρ H with
  | next ρ1 H1 => rw [e] at h; exact h
  | ret v H1 => rw [e] at h; exact h.elim
  | exc d H1 => rw [e] at h; exact h
  | bad => rw [e] at h; exact h.elim
theorem x_iteT (h : denT strF cf sc b x ρ H = .ok true H1) (q : (denSs strF cf sc b tt ρ H1).xat (fun ρ H => (denSs strF cf sc b ss ρ H).xat N c X) c X) : (denSs strF cf sc b (.cons (.ite x tt ee) ss) ρ H).xat N c X := by
  refine x_cons ?_
  show (match denT strF cf sc b x ρ H with | .ok true H => denSs strF cf sc b tt ρ H | .ok false H => denSs strF cf sc b ee ρ H | _ => .bad).xat _ c X
  rw [h]; exact q
theorem x_expr (h : denE strF cf sc b x ρ H = .ok v H1) (q : (denSs strF cf sc b ss ρ H1).xat N c X) : (denSs strF cf sc b (.cons (.expr x) ss) ρ H).xat N c X := by
  refine x_cons ?_
  show (match denE strF cf sc b x ρ H with | .ok _ H => SR.next ρ H | .exc c H => excS (raisy x) c H | .bad => .bad).xat _ c X
  rw [h]; exact q
/-- a def's call that raises -/
theorem x_call {P : Nat → Option FnI} {n k np nv : Nat} {body : PSs} {args : List AV} (hk : P k = some ⟨np, nv, body⟩) (hl : args.length = np) (h : (denSs strF (callF strF P sc n) sc H.length body (args.map some ++ List.replicate (nv - np) none) H).xat (fun _ _ => False) c X) :
    ∃ H', callF strF P sc (n + 1) k args H = .exc c H' ∧ X H' := by
  rw [callF, hk]
  simp only [hl, if_true]
  cases e : denSs strF (callF strF P sc n) sc H.length body (args.map some ++ List.replicate (nv - np) none) H with
  | next ρ1 H1 => rw [e] at h; exact h.elim
  | ret v H1 => rw [e] at h; exact h.elim
  | exc d H1 => rw [e] at h; obtain ⟨rfl, q⟩ := h; exact ⟨H1, rfl, q⟩
  | bad => rw [e] at h; exact h.elim
theorem xv_call (h1 : denEs strF cf sc b es ρ H = .ok vs H1) (h2 : cf k vs H1 = .exc c H2) : denE strF cf sc b (.call k es) ρ H = .exc c H2 := by
  show (denEs strF cf sc b es ρ H).get _ = _
  rw [h1]; exact h2
theorem v_count {r : Nat} {xs : List AV} {bs : List Bool} (h1 : denE strF cf sc b x ρ H = .ok (.ref r) H1) (hL : isL (.ref r) H1 = true) (h2 : denE strF cf sc b y ρ H1 = .ok (.bool t) H2) (h3 : H2[r]? = some (.list xs)) (h4 : boolsOf xs = some bs) :
    denE strF cf sc b (.count x y) ρ H = .ok (.int (bs.countP (· == t) : Nat)) H2 := by
  show (denE strF cf sc b x ρ H).get _ = _
  rw [h1]
  show (if isL (.ref r) H1 then (denE strF cf sc b y ρ H1).get _ else .bad) = _
  rw [hL, if_pos rfl, h2]
  show (match H2[r]? with | some (.list xs) => (match boolsOf xs with | some bs => Res.ok (AV.int (bs.countP (· == t) : Nat)) H2 | none => .bad) | _ => .bad) = _
  rw [h3]; show (match boolsOf xs with | some bs => Res.ok (AV.int (bs.countP (· == t) : Nat)) H2 | none => .bad) = _
  rw [h4]
theorem v_indexB {r j : Nat} {xs : List AV} {bs : List Bool} (h1 : denE strF cf sc b x ρ H = .ok (.ref r) H1) (hL : isL (.ref r) H1 = true) (h2 : denE strF cf sc b y ρ H1 = .ok (.bool t) H2) (h3 : H2[r]? = some (.list xs)) (h4 : boolsOf xs = some bs) (h5 : bs.findIdx? (· == t) = some j) :
    denE strF cf sc b (.index x y) ρ H = .ok (.int j) H2 := by
  show (denE strF cf sc b x ρ H).get _ = _
  rw [h1]
  show (if isL (.ref r) H1 then (denE strF cf sc b y ρ H1).get _ else .bad) = _
  rw [hL, if_pos rfl, h2]
  show (match H2[r]? with | some (.list xs) => (match boolsOf xs with | some bs => (match bs.findIdx? (· == t) with | some k => Res.ok (AV.int k) H2 | none => .bad) | none => .bad) | _ => .bad) = _
  rw [h3]; show (match boolsOf xs with | some bs => (match bs.findIdx? (· == t) with | some k => Res.ok (AV.int k) H2 | none => .bad) | none => .bad) = _
  rw [h4]; show (match bs.findIdx? (· == t) with | some k => Res.ok (AV.int k) H2 | none => .bad) = _
  rw [h5]
/-- a try whose expression answers -/
theorem s_tryRet {i : Option Nat} (h : denE strF cf sc b x ρ H = .ok v H1) (q : R v H1) : (denSs strF cf sc b (.cons (.tryRet x c i tt) ss) ρ H).sat N R := by
  show (match denS strF cf sc b (.tryRet x c i tt) ρ H with | .next ρ H => denSs strF cf sc b ss ρ H | r => r).sat N R
  have e : denS strF cf sc b (.tryRet x c i tt) ρ H = .ret v H1 := by
    show (match denE strF cf sc b x ρ H with | .ok v H => SR.ret v H | .exc d H => _ | .bad => .bad) = _
    rw [h]
  rw [e]; exact q
/-- a try whose expression raises, and what the handler answers -/
theorem s_tryX {j d : Nat} (h : denE strF cf sc b x ρ H = .exc d H1) (hr : raisy x = true) (hm : d = c ∨ c = 0) (q : (denSs strF cf sc b tt (ρ.set j (some (.exc d))) H1).sat (fun _ _ => False) R) : (denSs strF cf sc b (.cons (.tryRet x c (some j) tt) ss) ρ H).sat N R := by
  show (match denS strF cf sc b (.tryRet x c (some j) tt) ρ H with | .next ρ H => denSs strF cf sc b ss ρ H | r => r).sat N R
  have e : denS strF cf sc b (.tryRet x c (some j) tt) ρ H = onlyRet (denSs strF cf sc b tt (ρ.set j (some (.exc d))) H1) := by
    show (match denE strF cf sc b x ρ H with | .ok v H => SR.ret v H | .exc d H => (if raisy x = true ∧ (d = c ∨ c = 0) then onlyRet (denSs strF cf sc b tt (ρ.set j (some (.exc d))) H) else .bad) | .bad => .bad) = _
    rw [h]; exact if_pos ⟨hr, hm⟩
  rw [e]
  cases e1 : denSs strF cf sc b tt (ρ.set j (some (.exc d))) H1 with
  | ret v H2 => rw [e1] at q; exact q
  | next ρ2 H2 => rw [e1] at q; exact q.elim
  | exc _ _ => rw [e1] at q; exact q.elim
  | bad => rw [e1] at q; exact q.elim
end
end Mine

namespace Mine
open PySem

/-! The names of exceptions: _law_names of law 03 (41) and of laws 08, 09, 13 (62). -/
noncomputable def fn_62 : FnI := ⟨1, 2, .cons (.assign 1 (.list (.cons (.prim (.isExc 4) (.cons (.var 0) .nil)) (.cons (.prim (.isExc 5) (.cons (.var 0) .nil)) (.cons (.prim (.isExc 6) (.cons (.var 0) .nil)) (.cons (.prim (.isExc 1) (.cons (.var 0) .nil)) .nil)))))) (.cons (.assign 1 (.bin .Add (.var 1) (.list (.cons (.prim (.isExc 2) (.cons (.var 0) .nil)) (.cons (.prim (.isExc 3) (.cons (.var 0) .nil)) .nil))))) (.cons (.ite (.or (.cons (.cmp .NotEq (.count (.var 1) (.bool true)) (.int 1)) (.cons (.not (.prim .isValueError (.cons (.var 0) .nil))) .nil))) (.cons (.ret (.neg (.int 1))) .nil) .nil) (.cons (.ret (.index (.var 1) (.bool true))) .nil)))⟩

section
variable {strF : SrtF} {sc : List Int} {P : Nat → Option FnI} {H : AHeap} {n : Nat} {cf : Nat → List AV → AHeap → Res AV} {b : Nat} {ρ : AEnv}

theorem v_isExc {i c d : Nat} (h : ρ[i]? = some (some (.exc d))) : denE strF cf sc b (.prim (.isExc c) (.cons (.var i) .nil)) ρ H = .ok (.bool (decide (d = c) || decide (c = 0))) H := v_prim (vs_cons (v_var h) vs_nil) rfl
theorem t_isVE {i d : Nat} (h : ρ[i]? = some (some (.exc d))) : denT strF cf sc b (.prim .isValueError (.cons (.var i) .nil)) ρ H = .ok true H := t_prim (vs_cons (v_var h) vs_nil) rfl

/-- which of six it is -/
noncomputable def bitsOf (l : List Nat) (d : Nat) : List Bool := l.map fun c => decide (d = c) || decide (c = 0)

theorem app1 (H : AHeap) (o : AObj) : (H ++ [o])[H.length]? = some o := by simp
theorem names_go {a0 a1 a2 a3 a4 a5 d j : Nat} (hc : ((bitsOf [a0, a1, a2, a3, a4, a5] d).countP (· == true) : Nat) = 1) (hj : (bitsOf [a0, a1, a2, a3, a4, a5] d).findIdx? (· == true) = some j) :
    (denSs strF cf sc b (.cons (.assign 1 (.list (.cons (.prim (.isExc a0) (.cons (.var 0) .nil)) (.cons (.prim (.isExc a1) (.cons (.var 0) .nil)) (.cons (.prim (.isExc a2) (.cons (.var 0) .nil)) (.cons (.prim (.isExc a3) (.cons (.var 0) .nil)) .nil)))))) (.cons (.assign 1 (.bin .Add (.var 1) (.list (.cons (.prim (.isExc a4) (.cons (.var 0) .nil)) (.cons (.prim (.isExc a5) (.cons (.var 0) .nil)) .nil))))) (.cons (.ite (.or (.cons (.cmp .NotEq (.count (.var 1) (.bool true)) (.int 1)) (.cons (.not (.prim .isValueError (.cons (.var 0) .nil))) .nil))) (.cons (.ret (.neg (.int 1))) .nil) .nil) (.cons (.ret (.index (.var 1) (.bool true))) .nil)))) [some (.exc d), none] H).sat (fun _ _ => False) (fun v H' => v = .int j ∧ H <+: H') := by
  let f : Nat → AV := fun c => .bool (decide (d = c) || decide (c = 0))
  have e3 : binop .Add (.ref H.length) (.ref (H ++ [AObj.list [f a0, f a1, f a2, f a3]]).length) ((H ++ [AObj.list [f a0, f a1, f a2, f a3]]) ++ [AObj.list [f a4, f a5]]) = .ok (.ref ((H ++ [AObj.list [f a0, f a1, f a2, f a3]]) ++ [AObj.list [f a4, f a5]]).length) (((H ++ [AObj.list [f a0, f a1, f a2, f a3]]) ++ [AObj.list [f a4, f a5]]) ++ [AObj.list [f a0, f a1, f a2, f a3, f a4, f a5]]) := by
    rw [b_addL]
    have g1 : ((H ++ [AObj.list [f a0, f a1, f a2, f a3]]) ++ [AObj.list [f a4, f a5]])[H.length]? = some (.list [f a0, f a1, f a2, f a3]) := by rw [List.getElem?_append_left (by simp)]; exact app1 H _
    have g2 : ((H ++ [AObj.list [f a0, f a1, f a2, f a3]]) ++ [AObj.list [f a4, f a5]])[(H ++ [AObj.list [f a0, f a1, f a2, f a3]]).length]? = some (.list [f a4, f a5]) := app1 _ _
    rw [g1, g2]
    exact if_pos (by show 6 ≤ lim; decide)
  have al : ∀ {xs : List AV} {H : AHeap}, xs.length ≤ 4 → alloc xs H = .ok (.ref H.length) (H ++ [.list xs]) := fun h => if_pos (Nat.le_trans h (by decide))
  refine s_assign (v_list (vs_cons (v_isExc rfl) (vs_cons (v_isExc rfl) (vs_cons (v_isExc rfl) (vs_cons (v_isExc rfl) vs_nil)))) (al (by simp))) ?_
  refine s_assign (v_bin (v_var rfl) (v_list (vs_cons (v_isExc rfl) (vs_cons (v_isExc rfl) vs_nil)) (al (by simp))) e3) ?_
  have hb : boolsOf [f a0, f a1, f a2, f a3, f a4, f a5] = some (bitsOf [a0, a1, a2, a3, a4, a5] d) := rfl
  have hL : isL (.ref ((H ++ [AObj.list [f a0, f a1, f a2, f a3]]) ++ [AObj.list [f a4, f a5]]).length) (((H ++ [AObj.list [f a0, f a1, f a2, f a3]]) ++ [AObj.list [f a4, f a5]]) ++ [AObj.list [f a0, f a1, f a2, f a3, f a4, f a5]]) = true := by
    show (match (((H ++ [AObj.list [f a0, f a1, f a2, f a3]]) ++ [AObj.list [f a4, f a5]]) ++ [AObj.list [f a0, f a1, f a2, f a3, f a4, f a5]])[((H ++ [AObj.list [f a0, f a1, f a2, f a3]]) ++ [AObj.list [f a4, f a5]]).length]? with | some (.list _) => true | _ => false) = true
    rw [app1]
  refine s_skip (t_or (ot_false (t_cmp (v_count (v_var rfl) hL v_bool (app1 _ _) hb) v_int ?_) (ot_false (t_notF (t_isVE rfl)) ot_nil))) ?_
  · show some (!(((bitsOf [a0, a1, a2, a3, a4, a5] d).countP (· == true) : Nat) : Int) == (1 : Int)) = some false
    rw [hc]; rfl
  · exact s_ret (v_indexB (v_var rfl) hL v_bool (app1 _ _) hb hj) ⟨rfl, ((List.prefix_append ..).trans (List.prefix_append ..)).trans (List.prefix_append ..)⟩
end
end Mine

namespace Mine
open PySem

/-! all hangings as grown makes them: tie by tie, with what cannot be finished left out -/
/-! ties that join, one by one, places that don't hang together yet -/
inductive Fo : List (Nat × Nat) → Prop
  | nil : Fo []
  | cons {e : Nat × Nat} {F : List (Nat × Nat)} (hne : e.1 ≠ e.2) (h : Fo (ctr e F)) : Fo (e :: F)
theorem fo_snoc : ∀ (k : Nat) {F : List (Nat × Nat)} {e : Nat × Nat}, F.length = k → Fo F → ¬ Conn F e.1 e.2 → Fo (F ++ [e])
  | 0, [], e, _, _, hc => .cons (fun q => hc (by rw [q]; exact .refl _)) .nil
  | k + 1, [], e, hk, _, _ => by cases hk
  | 0, f :: F, e, hk, _, _ => by cases hk
  | k + 1, f :: F, e, hk, hF, hc => by
    cases hF with
    | cons hne h =>
      refine .cons hne ?_
      have e1 : ctr f (F ++ [e]) = ctr f F ++ [joinE (min f.1 f.2) (max f.1 f.2) e] := by unfold ctr; rw [List.map_append]; rfl
      show Fo (ctr f (F ++ [e]))
      rw [e1]
      refine fo_snoc k (by rw [ctr_length]; simpa using hk) h fun c => hc ?_
      exact conn_minmax.mp (Conn.unjoin (by (first | lia | omega)) c e.1 e.2 rfl rfl)
/-- does this list hang all together? -/
noncomputable def allB (n : Nat) (E : List (Nat × Nat)) (S : List Nat) : Bool := @decide (AllC (n + 1) (pick E S)) (Classical.propDecidable _)
end Mine

namespace Mine
open PySem

/-! Law 02: what need_net refuses. -/
section
variable {strF : SrtF} {sc : List Int} {P : Nat → Option FnI} {H H1 : AHeap} {n m r b c : Nat} {E : List (Nat × Nat)} {v x y : AV} {cf : Nat → List AV → AHeap → Res AV} {ρ : AEnv} {N : AEnv → AHeap → Prop} {X : AHeap → Prop} {ss : PSs} {e : PE}

/-! those that ask need_net first; what comes behind is never reached -/
end
end Mine

namespace Mine
open PySem

/-! Law 02: what str() shows of the things. -/
end Mine

namespace Mine
open PySem

section
variable {strF : SrtF} {sc : List Int} {P : Nat → Option FnI} {H : AHeap} {n m r b : Nat} {cf : Nat → List AV → AHeap → Res AV} {ρ : AEnv}
end
end Mine

namespace Mine
open PySem

/-! Law 07: what is grown. -/
noncomputable def fn_9 : FnI := ⟨1, 1, .cons (.ret (.and (.cons (.prim .isInt (.cons (.var 0) .nil)) (.cons (.not (.prim .isBool (.cons (.var 0) .nil))) .nil)))) .nil⟩
noncomputable def fn_55 : FnI := ⟨3, 7, .cons (.assign 3 (.list .nil)) (.cons (.assign 5 (.comp1 (.tuple (.cons (.bin .Add (.bin .Mult (.bin .Mod (.bin .Mult (.var 0) (.bin .Add (.bin .Mod (.var 3) (.int 97)) (.int 1))) (.int 97)) (.int 17)) (.var 0)) (.cons (.var 0) .nil))) (.range1 (.prim .len (.cons (.var 1) .nil))) .none)) (.cons (.for2 6 4 (.of (.prim .sortedP (.cons (.var 5) .nil))) (.cons (.ite (.cmp .NotIn (.idx (.idx (.var 1) (.var 4)) (.int 1)) (.call 10 (.cons (.var 0) (.cons (.comp1 (.idx (.var 2) (.var 0)) (.of (.var 3)) .none) (.cons (.idx (.idx (.var 1) (.var 4)) (.int 0)) .nil))))) (.cons (.expr (.append (.var 3) (.var 4))) .nil) .nil) .nil)) (.cons (.ret (.prim .sorted (.cons (.var 3) .nil))) .nil)))⟩

/-- whatever is put in order stands there anew, once each -/
noncomputable def Shuf (strF : SrtF) : Prop := ∀ ps, ∃ qs, strF ps = some qs ∧ qs.Perm ps

section
variable {strF : SrtF} {sc : List Int} {P : Nat → Option FnI} {H H0 H1 H2 H3 : AHeap} {n m b : Nat} {ρ : AEnv} {cf : Nat → List AV → AHeap → Res AV} {N : AEnv → AHeap → Prop} {R : AV → AHeap → Prop} {K K' : AV → AHeap → Prop} {x y : PE} {es : PEs} {ss : PSs} {v w : AV} {vs : List AV}

theorem pairsOf_map : ∀ (l : List (Int × Int)), pairsOf (l.map pairV) = some l
  | [] => rfl
  | p :: l => by
    show (pairsOf (l.map pairV)).map (p :: ·) = _
    rw [pairsOf_map l]; rfl
theorem listAt_of {r : Nat} {xs : List AV} (h : H[r]? = some (.list xs)) : listAt H (.ref r) = some xs := by
  show (H[r]?).bind objL = _
  rw [h]; rfl
theorem sortedP_eq {r : Nat} {ps qs : List (Int × Int)} (h : H[r]? = some (.list (ps.map pairV))) (e : strF ps = some qs) (hp : qs.Perm ps) (hl : ps.length < 64) : prim strF sc .sortedP [.ref r] H = .ok (.ref H.length) (H ++ [.list (qs.map pairV)]) := by
  show (((listAt H (.ref r)).bind pairsOf).bind fun ps => (strF ps).map fun qs => if ps.length < 64 then alloc (qs.map pairV) H else .bad).getD .bad = _
  rw [listAt_of h]
  show (((pairsOf (ps.map pairV)).bind fun ps => (strF ps).map fun qs => if ps.length < 64 then alloc (qs.map pairV) H else .bad).getD .bad) = _
  rw [pairsOf_map]
  show (((strF ps).map fun qs => if ps.length < 64 then alloc (qs.map pairV) H else .bad).getD .bad) = _
  rw [e]
  show (if ps.length < 64 then alloc (qs.map pairV) H else .bad) = _
  rw [if_pos hl]
  exact allocK (by rw [List.length_map, hp.length_eq]; (first | lia | omega))
theorem mulS {i j : Int} (h1 : -1000 ≤ j) (h2 : j ≤ 1000) : binop .Mult (.int i) (.int j) H = .ok (.int (i * j)) H := by
  rw [b_mul, if_pos]
  unfold mulOk
  rw [natAbs_small h1 h2, Bool.or_true]; rfl
theorem modZ {i j : Int} (h : j ≠ 0) : binop .Mod (.int i) (.int j) H = .ok (.int (i.fmod j)) H := by rw [b_mod, if_pos h]
theorem intsOf_map : ∀ (l : List Int), intsOf (l.map .int) = some l
  | [] => rfl
  | p :: l => by
    show (intsOf (l.map .int)).map (p :: ·) = _
    rw [intsOf_map l]; rfl
theorem inOf_ints {r : Nat} {l : List Int} {i : Int} (h : H[r]? = some (.list (l.map .int))) : inOf (.int i) (.ref r) H = some (decide (i ∈ l)) := by
  show (match H[r]? with | some (.list xs) => (intsOf xs).map fun is => decide (i ∈ is) | _ => none) = _
  rw [h]
  show (intsOf (l.map .int)).map _ = _
  rw [intsOf_map]; rfl
theorem sorted_nats {r : Nat} {F : List Nat} (h : H[r]? = some (.list (F.map natV))) (hl : F.length < 64) : prim strF sc .sorted [.ref r] H = .ok (.ref H.length) (H ++ [.list ((sortI (F.map fun (p : Nat) => (p : Int))).map .int)]) := by
  rw [p_sorted, h]
  show (if (F.map natV).length < 64 then _ else _) = _
  rw [if_pos (by rw [List.length_map]; (first | lia | omega)), intsOf_nats]
  exact allocK (by rw [List.length_map, sortI_length, List.length_map]; (first | lia | omega))
theorem sort_back (F : List Nat) : (sortI (F.map fun (p : Nat) => (p : Int))).map AV.int = ((sortI (F.map fun (p : Nat) => (p : Int))).map Int.toNat).map natV := by
  rw [List.map_map]
  refine List.map_congr_left fun i hi => ?_
  obtain ⟨p, _, rfl⟩ := List.mem_map.mp (mem_sortI.mp hi)
  rfl
theorem set_other {r q : Nat} {o o' : AObj} (h : H[q]? = some o) (hne : r ≠ q) : (H.set r o')[q]? = some o := by rw [List.getElem?_set_ne hne]; exact h

noncomputable def rk (c : Int) (i : Nat) : Int × Int := (((i : Int) * (c.fmod 97 + 1)).fmod 97 * 17 + (i : Int), (i : Int))
end
end Mine

namespace Mine
open PySem

/-! Law 07: what is spoilt. -/
noncomputable def fn_56 : FnI := ⟨1, 3, .cons (.assign 1 (.list .nil)) (.cons (.for1 2 (.of (.var 0)) (.cons (.expr (.append (.var 1) (.idx (.list (.cons (.bool false) (.cons (.bool true) (.cons (.var 2) .nil)))) (.prim .min2 (.cons (.var 2) (.cons (.int 2) .nil)))))) .nil)) (.cons (.ret (.var 1)) .nil))⟩

theorem cut_mem {xs : List AV} {lo hi : Option Int} {x : AV} (h : x ∈ cut xs lo hi) : x ∈ xs := List.mem_of_mem_take (List.mem_of_mem_drop h)
theorem cut_len {xs : List AV} {lo hi : Option Int} : (cut xs lo hi).length ≤ xs.length := by
  unfold cut
  rw [List.length_drop, List.length_take]; (first | lia | omega)
section
variable {strF : SrtF} {sc : List Int} {P : Nat → Option FnI} {H H0 H1 H2 H3 : AHeap} {n m b : Nat} {ρ : AEnv} {cf : Nat → List AV → AHeap → Res AV} {N : AEnv → AHeap → Prop} {R : AV → AHeap → Prop} {K K' : AV → AHeap → Prop} {x y : PE} {es : PEs} {ss : PSs} {v w : AV} {vs : List AV} {p : AHeap → AV → Prop} {k k' : Nat}

theorem modN {c d : Int} {n k : Nat} (hd : d = (n : Int)) (e : c.fmod n = k) (h : 0 < n) : binop .Mod (.int c) (.int d) H = .ok (.int k) H := by subst hd; exact modB e h
theorem sat_okE {α : Type} {r : Res α} {a : α} {H : AHeap} {K : α → AHeap → Prop} (e : r = .ok a H) (h : K a H) : r.sat K := by rw [e]; exact h
end
end Mine

namespace Mine
open PySem

/-! Law 07. -/
section
variable {strF : SrtF} {sc : List Int} {P : Nat → Option FnI} {H H0 H1 H2 H3 : AHeap} {n m b : Nat} {ρ : AEnv} {cf : Nat → List AV → AHeap → Res AV} {N : AEnv → AHeap → Prop} {R : AV → AHeap → Prop} {K K' : AV → AHeap → Prop} {x y : PE} {es : PEs} {ss : PSs} {v w : AV} {vs : List AV}

theorem i_zip7 {q r : Nat} {xs ys : List AV} (h1 : denE strF cf sc b x ρ H = .ok (.ref r) H1) (h2 : denE strF cf sc b y ρ H1 = .ok (.ref q) H2) (h3 : H2[r]? = some (.list xs)) (h4 : H2[q]? = some (.list ys)) : denI strF cf sc b (.zip x y) ρ H = .ok (zipL xs ys, [(r, xs), (q, ys)]) H2 := by
  show (denE strF cf sc b x ρ H).get _ = _
  rw [h1]; show (denE strF cf sc b y ρ H1).get _ = _
  rw [h2]
  show (match H2[r]?, H2[q]? with | some (.list xs), some (.list ys) => Res.ok (zipL xs ys, [(r, xs), (q, ys)]) H2 | _, _ => .bad) = _
  rw [h3, h4]
theorem whole7 (h9 : P 9 = some fn_9) (hv : plainV v = true) : callF strF P sc (m + 1) 9 [v] H = .ok (.bool (intV v).isSome) H := by
  cases v with
  | int i => exact sat_eq (s_call h9 rfl (s_ret (v_and (a_true (v_prim (vs_cons (v_var rfl) vs_nil) (isInt_ofK rfl)) (a_one (v_notT (v_prim (vs_cons (v_var rfl) vs_nil) (isBool_ofK rfl)))))) ⟨rfl, rfl⟩))
  | bool c => exact sat_eq (s_call h9 rfl (s_ret (v_and (a_true (v_prim (vs_cons (v_var rfl) vs_nil) (isInt_ofK rfl)) (a_one (v_notF (v_prim (vs_cons (v_var rfl) vs_nil) (isBool_ofK rfl)))))) ⟨rfl, rfl⟩))
  | scr => cases hv
  | fn k => cases hv
  | exc c => cases hv
  | _ => exact sat_eq (s_call h9 rfl (s_ret (v_and (a_false (v_prim (vs_cons (v_var rfl) vs_nil) (isInt_ofK rfl)))) ⟨rfl, rfl⟩))
/-- a number of a tie -/
noncomputable def tw (l : Nat) (v : AV) : Bool := match intV v with
  | some i => decide (0 ≤ i) && decide (i < l)
  | none => false
theorem each7 {r : Nat} {E : List (Nat × Nat)} (h9 : P 9 = some fn_9) (hT : TL H r E) (hr : ρ[1]? = some (some (.ref r))) (hv : plainV v = true) :
    denE strF (callF strF P sc (m + 1)) sc b (.and (.cons (.call 9 (.cons (.var 0) .nil)) (.cons (.cmp2 .LtE .Lt (.int 0) (.var 0) (.prim .len (.cons (.var 2) .nil))) .nil))) (some v :: ρ) H = .ok (.bool (tw E.length v)) H := by
  have hw := whole7 (strF := strF) (sc := sc) (m := m) (H := H) h9 hv
  by_cases hi : ∃ i, v = .int i
  · obtain ⟨i, rfl⟩ := hi
    by_cases h0 : 0 ≤ i
    · refine v_and (a_true (v_call (vs_cons (v_var rfl) vs_nil) hw) (a_one ((v_cmp2 v_int (v_var rfl) (leT h0) (v_prim (vs_cons (v_var (i := 2) (ρ := some (.int i) :: ρ) hr) vs_nil) (len_ties hT)) c_lt).trans ?_)))
      show _ = Res.ok (AV.bool (decide (0 ≤ i) && decide (i < (E.length : Int)))) H
      rw [decide_eq_true h0]; rfl
    · refine v_and (a_true (v_call (vs_cons (v_var rfl) vs_nil) hw) (a_one ((v_cmp2f v_int (v_var rfl) (leF h0)).trans ?_)))
      show _ = Res.ok (AV.bool (decide (0 ≤ i) && decide (i < (E.length : Int)))) H
      rw [decide_eq_false h0]; rfl
  · have h2 : intV v = none := by
      cases v with
      | int i => exact absurd ⟨i, rfl⟩ hi
      | _ => rfl
    rw [h2] at hw
    refine (v_and (a_false (v_call (vs_cons (v_var rfl) vs_nil) hw))).trans ?_
    unfold tw; rw [h2]
theorem boolsOf_map {α : Type} {f : α → Bool} : ∀ (l : List α), boolsOf (l.map fun x => AV.bool (f x)) = some (l.map f)
  | [] => rfl
  | x :: l => by
    show (boolsOf (l.map fun x => AV.bool (f x))).map (f x :: ·) = _
    rw [boolsOf_map l]; rfl
theorem all_map {α : Type} {r : Nat} {f : α → Bool} {l : List α} (h : H[r]? = some (.list (l.map fun x => AV.bool (f x)))) : prim strF sc .all [.ref r] H = .ok (.bool (l.all f)) H := by
  rw [p_all, h]
  show (match boolsOf (l.map fun x => AV.bool (f x)) with | some bs => Res.ok (AV.bool (bs.all id)) H | none => .bad) = _
  rw [boolsOf_map]
  show Res.ok (AV.bool ((l.map f).all id)) H = _
  rw [List.all_map]; rfl
theorem tw_back {l : Nat} {S : List Nat} (h : ∀ i ∈ S, i < l) : (S.map natV).all (tw l) = true := List.all_eq_true.mpr fun x hx => by
  obtain ⟨i, hi, rfl⟩ := List.mem_map.mp hx
  show (decide ((0 : Int) ≤ (i : Int)) && decide ((i : Int) < (l : Int))) = true
  have := h i hi
  rw [decide_eq_true (by (first | lia | omega)), decide_eq_true (by (first | lia | omega))]; rfl
theorem cut_one (xs : List AV) : cut xs (some 1) none = xs.drop 1 := by
  show (xs.take xs.length).drop (cutAt xs.length 1) = _
  rw [List.take_length]
  cases xs with
  | nil => rfl
  | cons x xs =>
    have : cutAt (x :: xs).length 1 = 1 := by unfold cutAt; rw [List.length_cons, if_neg (by decide)]; (first | lia | omega)
    rw [this]
theorem comp_id {f : AV → AV} {ws : List (Nat × List AV)} {step : AV → AHeap → Res (Option AV)} {xs : List AV} (hw : ∀ w ∈ ws, H[w.1]? = some (.list w.2)) (h : ∀ a ∈ xs, step a H = .ok (some (f a)) H) : compL ws step xs H = .ok (xs.map f) H := by
  have := comp_map (g := fun x => x) (f := f) hw xs h
  rwa [List.map_id'] at this
theorem listP {r : Nat} {xs : List AV} (h : H[r]? = some (.list xs)) (hl : xs.length ≤ 1000) : prim strF sc .list [.ref r] H = .ok (.ref H.length) (H ++ [.list xs]) := by
  rw [p_list, i_ref, h]; exact allocK hl
end
end Mine

namespace Mine
open PySem

/-! exchanges: from one hanging to another, tie by tie -/
/-- with one tie more -/
inductive MoreC (F : List (Nat × Nat)) (e : Nat × Nat) (x y : Nat) : Prop
  | old (h : Conn F x y) : MoreC F e x y
  | fwd (h1 : Conn F x e.1) (h2 : Conn F e.2 y) : MoreC F e x y
  | bwd (h1 : Conn F x e.2) (h2 : Conn F e.1 y) : MoreC F e x y
theorem MoreC.symm {F : List (Nat × Nat)} {e : Nat × Nat} {x y : Nat} (h : MoreC F e x y) : MoreC F e y x := by
  cases h with
  | old h => exact .old h.symm
  | fwd h1 h2 => exact .bwd h2.symm h1.symm
  | bwd h1 h2 => exact .fwd h2.symm h1.symm
theorem MoreC.trans {F : List (Nat × Nat)} {e : Nat × Nat} {x y z : Nat} (h : MoreC F e x y) (k : MoreC F e y z) : MoreC F e x z := by
  cases h with
  | old h => cases k with
    | old k => exact .old (h.trans k)
    | fwd k1 k2 => exact .fwd (h.trans k1) k2
    | bwd k1 k2 => exact .bwd (h.trans k1) k2
  | fwd h1 h2 => cases k with
    | old k => exact .fwd h1 (h2.trans k)
    | fwd k1 k2 => exact .fwd h1 k2
    | bwd k1 k2 => exact .old (h1.trans k2)
  | bwd h1 h2 => cases k with
    | old k => exact .bwd h1 (h2.trans k)
    | fwd k1 k2 => exact .old (h1.trans k2)
    | bwd k1 k2 => exact .bwd h1 k2
theorem conn_more {F : List (Nat × Nat)} {e : Nat × Nat} {x y : Nat} (c : Conn (e :: F) x y) : MoreC F e x y := by
  induction c with
  | refl p => exact .old (.refl _)
  | @tie f m =>
    rcases List.mem_cons.mp m with rfl | m
    · exact .fwd (.refl _) (.refl _)
    · exact .old (.tie m)
  | symm _ ih => exact ih.symm
  | trans _ _ i1 i2 => exact i1.trans i2

section
variable {n : Nat} {E : List (Nat × Nat)} {A B S T : List Nat} {x y c f g : Nat}
noncomputable abbrev ed (E : List (Nat × Nat)) (i : Nat) : Nat × Nat := E.getD i (0, 0)
theorem pick_mem {e : Nat × Nat} (h : e ∈ pick E S) : ∃ i ∈ S, e = ed E i := let ⟨i, hi, e⟩ := List.mem_map.mp h; ⟨i, hi, e.symm⟩
theorem pick_tie (h : f ∈ S) : Conn (pick E S) (ed E f).1 (ed E f).2 := Conn.tie (List.mem_map_of_mem h)
theorem conn_sub (h : ∀ i ∈ S, i ∈ T) (c : Conn (pick E S) x y) : Conn (pick E T) x y := c.mono fun e he => by
  obtain ⟨i, hi, rfl⟩ := pick_mem he; exact pick_tie (h i hi)
/-- without these -/
noncomputable abbrev but1 (A : List Nat) (f : Nat) : List Nat := A.filter fun i => decide (i ≠ f)
theorem mem_but1 {i : Nat} : i ∈ but1 A f ↔ i ∈ A ∧ i ≠ f := by rw [List.mem_filter, decide_eq_true_iff]
theorem but1_len : ∀ {A : List Nat}, A.Nodup → f ∈ A → (but1 A f).length + 1 = A.length
  | [], _, h => by cases h
  | a :: A, nd, h => by
    obtain ⟨h1, h2⟩ := List.nodup_cons.mp nd
    by_cases e : a = f
    · subst e
      have : but1 (a :: A) a = A := by
        show List.filter _ (a :: A) = A
        rw [List.filter_cons_of_neg (by simp)]
        exact List.filter_eq_self.mpr fun i hi => decide_eq_true fun q => h1 (q ▸ hi)
      rw [this]; rfl
    · have hm : f ∈ A := (List.mem_cons.mp h).resolve_left (Ne.symm e)
      have : but1 (a :: A) f = a :: but1 A f := List.filter_cons_of_pos (decide_eq_true e)
      rw [this, List.length_cons, List.length_cons, but1_len h2 hm]
/-- a hanging, its numbers in any order -/
structure Span (n : Nat) (E : List (Nat × Nat)) (A : List Nat) : Prop where
  nd : A.Nodup
  lt : ∀ i ∈ A, i < E.length
  len : A.length = n
  all : AllC (n + 1) (pick E A)
/-- no tie of a hanging can go -/
theorem Span.need (h : Span n E A) (hok : okT (n + 1) E) (hf : f ∈ A) (c : Conn (pick E (but1 A f)) (ed E f).1 (ed E f).2) : False := by
  have all : AllC (n + 1) (pick E (but1 A f)) := fun p q hp hq => (h.all p q hp hq).mono fun e he => by
    obtain ⟨i, hi, rfl⟩ := pick_mem he
    by_cases q : i = f
    · rw [q]; exact c
    · exact pick_tie (mem_but1.mpr ⟨hi, q⟩)
  have hl := allC_len _ rfl (okT_pick hok fun i hi => h.lt i (mem_but1.mp hi).1) all
  have := but1_len h.nd hf
  have := h.len
  unfold pick at hl
  rw [List.length_map] at hl
  (first | lia | omega)
/-- what one tie parts -/
theorem part (hf : f ∈ S) (c : Conn (pick E S) x y) : MoreC (pick E (but1 S f)) (ed E f) x y := by
  refine conn_more (c.mono fun e he => ?_)
  obtain ⟨i, hi, rfl⟩ := pick_mem he
  by_cases q : i = f
  · rw [q]; exact .tie List.mem_cons_self
  · exact .tie (List.mem_cons_of_mem _ (List.mem_map_of_mem (mem_but1.mpr ⟨hi, q⟩)))
theorem swapped (h : Span n E A) (hg : g ∈ A) (hn : ¬ Conn (pick E (but1 A g)) (ed E c).1 (ed E c).2) (h1 : (ed E c).1 < n + 1) (h2 : (ed E c).2 < n + 1) : AllC (n + 1) (pick E (but1 A g ++ [c])) := by
  have sub : ∀ {x y : Nat}, Conn (pick E (but1 A g)) x y → Conn (pick E (but1 A g ++ [c])) x y := fun k => conn_sub (fun i hi => List.mem_append_left _ hi) k
  have new : Conn (pick E (but1 A g ++ [c])) (ed E c).1 (ed E c).2 := pick_tie (by simp)
  have key : Conn (pick E (but1 A g ++ [c])) (ed E g).1 (ed E g).2 := by
    cases part hg (h.all _ _ h1 h2) with
    | old k => exact absurd k hn
    | fwd k1 k2 => exact ((sub k1).symm.trans new).trans (sub k2).symm
    | bwd k1 k2 => exact (((sub k1).symm.trans new).trans (sub k2).symm).symm
  exact fun p q hp hq => (h.all p q hp hq).mono fun e he => by
    obtain ⟨i, hi, rfl⟩ := pick_mem he
    by_cases q : i = g
    · rw [q]; exact key
    · exact pick_tie (List.mem_append_left _ (mem_but1.mpr ⟨hi, q⟩))
/-- the exchange -/
theorem exchange (hA : Span n E A) (hB : Span n E B) (hok : okT (n + 1) E) (hc : c ∈ B) (hcA : c ∉ A) : ∃ g ∈ A, g ∉ B ∧ AllC (n + 1) (pick E (but1 A g ++ [c])) := by
  refine Classical.byContradiction fun no => ?_
  have hce := hok (ed E c) (by unfold ed; rw [List.getD_eq_getElem?_getD, List.getElem?_eq_getElem (hB.lt c hc)]; exact List.getElem_mem _)
  have s1 : ∀ g ∈ A, g ∉ B → Conn (pick E (but1 A g)) (ed E c).1 (ed E c).2 := fun g hg hgB => Classical.byContradiction fun q => no ⟨g, hg, hgB, swapped hA hg q hce.1 hce.2⟩
  have s2 : ∀ F : List Nat, (∀ f ∈ F, f ∈ A ∧ f ∉ B) → Conn (pick E (A.filter fun i => decide (i ∉ F))) (ed E c).1 (ed E c).2 := by
    intro F
    induction F with
    | nil => intro _; exact conn_sub (fun i hi => List.mem_filter.mpr ⟨hi, by simp⟩) (hA.all _ _ hce.1 hce.2)
    | cons f F ih =>
      intro hF
      have i1 := ih fun i hi => hF i (List.mem_cons_of_mem _ hi)
      obtain ⟨fA, fB⟩ := hF f List.mem_cons_self
      refine Classical.byContradiction fun q => ?_
      by_cases fF : f ∈ F
      · refine q (conn_sub (fun i hi => ?_) i1)
        obtain ⟨h1, h2⟩ := List.mem_filter.mp hi
        refine List.mem_filter.mpr ⟨h1, decide_eq_true fun m => ?_⟩
        rcases List.mem_cons.mp m with rfl | m
        · exact of_decide_eq_true h2 fF
        · exact of_decide_eq_true h2 m
      · have sub : ∀ {x y : Nat}, Conn (pick E (but1 (A.filter fun i => decide (i ∉ F)) f)) x y → Conn (pick E (A.filter fun i => decide (i ∉ f :: F))) x y := fun k => conn_sub (fun i hi => by
          obtain ⟨h1, h2⟩ := mem_but1.mp hi
          obtain ⟨h3, h4⟩ := List.mem_filter.mp h1
          refine List.mem_filter.mpr ⟨h3, decide_eq_true fun m => ?_⟩
          rcases List.mem_cons.mp m with e | m
          · exact h2 e
          · exact of_decide_eq_true h4 m) k
        have sub2 : ∀ {x y : Nat}, Conn (pick E (but1 (A.filter fun i => decide (i ∉ F)) f)) x y → Conn (pick E (but1 A f)) x y := fun k => conn_sub (fun i hi => by
          obtain ⟨h1, h2⟩ := mem_but1.mp hi
          exact mem_but1.mpr ⟨(List.mem_filter.mp h1).1, h2⟩) k
        have s := s1 f fA fB
        cases part (List.mem_filter.mpr ⟨fA, decide_eq_true fF⟩) i1 with
        | old k => exact q (sub k)
        | fwd k1 k2 => exact hA.need hok fA (((sub2 k1).symm.trans s).trans (sub2 k2).symm)
        | bwd k1 k2 => exact hA.need hok fA (((sub2 k1).symm.trans s).trans (sub2 k2).symm).symm
  have s3 := s2 (A.filter fun i => decide (i ∉ B)) fun f hf => ⟨(List.mem_filter.mp hf).1, of_decide_eq_true (List.mem_filter.mp hf).2⟩
  refine hB.need hok hc (conn_sub (fun i hi => ?_) s3)
  obtain ⟨h1, h2⟩ := List.mem_filter.mp hi
  have h2 := of_decide_eq_true h2
  refine mem_but1.mpr ⟨Classical.byContradiction fun q => h2 (List.mem_filter.mpr ⟨h1, decide_eq_true q⟩), fun e => hcA (e ▸ h1)⟩

/-- ties that join places which don't hang together yet are never too many -/
theorem fo_len : ∀ (k : Nat) {n : Nat} {F : List (Nat × Nat)}, F.length = k → okT (n + 1) F → Fo F → k ≤ n
  | 0, _, _, _, _, _ => Nat.zero_le _
  | k + 1, n, [], hk, _, _ => by cases hk
  | k + 1, 0, e :: F, hk, hok, hF => by
    cases hF with
    | cons hne h =>
      have he := hok e List.mem_cons_self
      exact absurd (show e.1 = e.2 by (first | lia | omega)) hne
  | k + 1, n + 1, e :: F, hk, hok, hF => by
    cases hF with
    | cons hne h =>
      have := fo_len k (by rw [ctr_length]; simpa using hk) (okT_ctr hne hok) h
      (first | lia | omega)
end
end Mine

namespace Mine
open PySem

/-! Law 13: what is grown is a hanging where there is one; one exchange. -/
noncomputable def fn_34 : FnI := ⟨4, 7, .cons (.assign 4 (.idx (.comp1 (.var 0) (.of (.var 3)) (.some (.cmp .NotIn (.var 0) (.var 3)))) (.int 0))) (.cons (.for1 5 (.of (.var 2)) (.cons (.ite (.cmp .NotIn (.var 5) (.var 3)) (.cons (.assign 6 (.prim .sorted (.cons (.bin .Add (.comp1 (.var 0) (.of (.var 2)) (.some (.cmp .NotEq (.var 0) (.var 6)))) (.list (.cons (.var 4) .nil))) .nil))) (.cons (.ite (.call 25 (.cons (.var 0) (.cons (.var 1) (.cons (.var 6) .nil)))) (.cons (.ret (.var 6)) .nil) .nil) .nil)) .nil) .nil)) (.cons (.ret (.var 2)) .nil))⟩

noncomputable def sortN (F : List Nat) : List Nat := (sortI (F.map fun (p : Nat) => (p : Int))).map Int.toNat
theorem insertI_pm (x : Int) : ∀ (l : List Int), (insertI x l).Perm (x :: l)
  | [] => .refl _
  | y :: l => by
    unfold insertI
    split
    · exact .refl _
    · exact (List.Perm.cons y (insertI_pm x l)).trans (.swap ..)
theorem sortI_pm : ∀ (l : List Int), (sortI l).Perm l
  | [] => .refl _
  | x :: l => (insertI_pm x (sortI l)).trans ((sortI_pm l).cons x)
theorem sortN_pm (F : List Nat) : (sortN F).Perm F := by
  have := (sortI_pm (F.map fun (p : Nat) => (p : Int))).map Int.toNat
  rw [List.map_map] at this
  have e : F.map (Int.toNat ∘ fun (p : Nat) => (p : Int)) = F := by rw [show (Int.toNat ∘ fun (p : Nat) => (p : Int)) = id from rfl, List.map_id]
  rw [e] at this; exact this
theorem sortN_pw {F : List Nat} (nd : F.Nodup) : (sortN F).Pairwise (· < ·) := by
  have h1 : (sortN F).Pairwise (· ≤ ·) := List.pairwise_map.mpr ((pw_sortI _).imp fun h => by (first | lia | omega))
  have h2 : (sortN F).Pairwise (· ≠ ·) := (sortN_pm F).nodup_iff.mpr nd
  exact (h1.and h2).imp fun h => Nat.lt_of_le_of_ne h.1 h.2
theorem sort_backN (F : List Nat) : (sortI (F.map fun (p : Nat) => (p : Int))).map AV.int = (sortN F).map natV := sort_back F
/-- a hanging: its numbers rising -/
structure Hg (n : Nat) (E : List (Nat × Nat)) (A : List Nat) : Prop where
  r : Ris E.length n A
  c : AllC (n + 1) (pick E A)
theorem pw_nodup {A : List Nat} (h : A.Pairwise (· < ·)) : A.Nodup := h.imp fun h => Nat.ne_of_lt h
theorem Hg.span {n : Nat} {E : List (Nat × Nat)} {A : List Nat} (h : Hg n E A) : Span n E A := ⟨pw_nodup h.r.pw, h.r.lt, h.r.len, h.c⟩
theorem Span.hg {n : Nat} {E : List (Nat × Nat)} {A : List Nat} (h : Span n E A) : Hg n E (sortN A) :=
  ⟨⟨by rw [(sortN_pm A).length_eq, h.len], fun i hi => h.lt i ((sortN_pm A).mem_iff.mp hi), sortN_pw h.nd⟩, fun p q hp hq => conn_sub (fun i hi => (sortN_pm A).mem_iff.mpr hi) (h.all p q hp hq)⟩

section
variable {strF : SrtF} {sc : List Int} {P : Nat → Option FnI} {H H0 H1 H2 H3 : AHeap} {n m b : Nat} {ρ : AEnv} {cf : Nat → List AV → AHeap → Res AV} {N : AEnv → AHeap → Prop} {R : AV → AHeap → Prop} {K K' : AV → AHeap → Prop} {x y : PE} {es : PEs} {ss : PSs} {v w : AV} {vs : List AV} {A B : List Nat} {E : List (Nat × Nat)}

/-- what is grown -/
inductive GrownR (H : AHeap) (n : Nat) (E : List (Nat × Nat)) (v : AV) (H' : AHeap) : Prop
  | mk (r : Nat) (A : List Nat) (hv : v = .ref r) (hr : H'[r]? = some (.list (A.map natV))) (hp : H <+: H') (hge : H.length ≤ r) (pw : A.Pairwise (· < ·)) (lt : ∀ i ∈ A, i < E.length) (len : A.length ≤ n) (all : AllC (n + 1) E → Hg n E A) : GrownR H n E v H'
inductive GsI (H0 : AHeap) (n r : Nat) (E : List (Nat × Nat)) (c : Int) (qs : List (Int × Int)) (k : Nat) (ρ : AEnv) (H : AHeap) : Prop
  | mk (S : List Nat) (x4 x6 : Option AV) (hρ : ρ = [some (.int (n + 1 : Nat)), some (.ref r), some (.int c), some (.ref H0.length), x4, some (.ref (H0.length + 1)), x6]) (hS : H[H0.length]? = some (.list (S.map natV))) (hw : H[H0.length + 2]? = some (.list (qs.map pairV))) (hp : H0 <+: H) (hl : S.length ≤ k) (hb : ∀ x ∈ S, x < E.length)
    (fo : Fo (pick E S)) (nd : S.Nodup) (cl : ∀ (j i : Nat), j < k → qs[j]? = some (rk c i) → Conn (pick E S) (ed E i).1 (ed E i).2) : GsI H0 n r E c qs k ρ H
theorem ed_get {i : Nat} {e : Nat × Nat} (h : E[i]? = some e) : ed E i = e := by unfold ed; rw [List.getD_eq_getElem?_getD, h]; rfl
theorem rk_inj {c : Int} {i j : Nat} (h : rk c i = rk c j) : i = j := by
  have : ((i : Int)) = (j : Int) := congrArg Prod.snd h
  (first | lia | omega)
theorem grown_end {S : List Nat} (hok : okT (n + 1) E) (hb : ∀ x ∈ S, x < E.length) (fo : Fo (pick E S)) (nd : S.Nodup) (cl : ∀ i, i < E.length → Conn (pick E S) (ed E i).1 (ed E i).2) (all : AllC (n + 1) E) : Span n E S := by
  have ac : AllC (n + 1) (pick E S) := fun p q hp hq => (all p q hp hq).mono fun e he => by
    obtain ⟨i, hi⟩ := List.mem_iff_getElem?.mp he
    rw [← ed_get hi]
    exact cl i (List.getElem?_eq_some_iff.mp hi).1
  have h1 := allC_len _ rfl (okT_pick hok hb) ac
  have h2 := fo_len _ rfl (okT_pick hok hb) fo
  unfold pick at h1 h2
  rw [List.length_map] at h1 h2
  exact ⟨nd, hb, by (first | lia | omega), ac⟩
/-- what _law_grown answers -/
theorem grown13 (hs : Shuf strF) (h10 : P 10 = some fn_10) (h55 : P 55 = some fn_55) {r : Nat} {c : Int} (hn : n + 1 ≤ 7) (hT : TL H r E) (hl : E.length ≤ 16) (hok : okT (n + 1) E) :
    (callF strF P sc (m + 2) 55 [.int (n + 1 : Nat), .ref r, .int c] H).sat (GrownR H n E) := by
  have hc : 0 ≤ c.fmod 97 ∧ c.fmod 97 < 97 := by rw [Int.fmod_eq_emod_of_nonneg _ (by decide)]; (first | lia | omega)
  have hT1 : TL (H ++ [.list []]) r E := get_pre (pre_app _ _) hT
  obtain ⟨qs, eq, hq⟩ := hs ((List.range E.length).map (rk c))
  have hql : qs.length = E.length := by rw [hq.length_eq, List.length_map, List.length_range]
  have ec : ∀ ρ : AEnv, ρ[1]? = some (some (.ref r)) → ρ[2]? = some (some (.int c)) → denE strF (callF strF P sc (m + 1)) sc H.length (.comp1 (.tuple (.cons (.bin .Add (.bin .Mult (.bin .Mod (.bin .Mult (.var 0) (.bin .Add (.bin .Mod (.var 3) (.int 97)) (.int 1))) (.int 97)) (.int 17)) (.var 0)) (.cons (.var 0) .nil))) (.range1 (.prim .len (.cons (.var 1) .nil))) .none) ρ (H ++ [.list []]) = .ok (.ref (H ++ [AObj.list []]).length) ((H ++ [.list []]) ++ [.list (((List.range E.length).map (rk c)).map pairV)]) := fun ρ e1 e2 => by
    refine v_comp1 (i_range1 (v_prim (vs_cons (v_var e1) vs_nil) (len_ties hT1)) (inR_N (by (first | lia | omega)))) (by
      rw [rangeL_nat]
      exact comp_map (g := fun (k : Nat) => AV.int (k : Int)) (f := fun i => pairV (rk c i)) (fun w hw => by cases hw) (List.range E.length) fun i hi => k_none1 (v_tuple (vs_cons (v_bin (v_bin (v_bin (v_bin (v_var rfl) (v_bin (v_bin (v_var e2) v_int (modZ (by decide))) v_int b_add) (mulS (by (first | lia | omega)) (by (first | lia | omega)))) v_int (modZ (by decide))) v_int (mulS (by decide) (by decide))) (v_var rfl) b_add) (vs_cons (v_var rfl) vs_nil)) tup2)) ?_
    rw [show (List.range E.length).map (fun i => pairV (rk c i)) = ((List.range E.length).map (rk c)).map pairV by rw [List.map_map]; rfl]
    exact allocK (by rw [List.length_map, List.length_map, List.length_range]; (first | lia | omega))
  have e1 : (H ++ [AObj.list []]).length = H.length + 1 := by simp
  refine s_call h55 rfl (s_assign (v_list vs_nil (allocK (Nat.le_of_ble_eq_true rfl))) (s_assign (ec _ rfl rfl) ?_))
  rw [e1]
  have hord := last_get (H ++ [.list []]) (.list (((List.range E.length).map (rk c)).map pairV))
  rw [e1] at hord
  have e2 : ((H ++ [AObj.list []]) ++ [AObj.list (((List.range E.length).map (rk c)).map pairV)]).length = H.length + 2 := by simp
  have hsrt := last_get ((H ++ [AObj.list []]) ++ [AObj.list (((List.range E.length).map (rk c)).map pairV)]) (.list (qs.map pairV))
  have es := sortedP_eq (strF := strF) (sc := sc) hord eq hq (by rw [List.length_map, List.length_range]; (first | lia | omega))
  have p2 : H <+: ((H ++ [AObj.list []]) ++ [AObj.list (((List.range E.length).map (rk c)).map pairV)]) ++ [.list (qs.map pairV)] := ((pre_app _ _).trans (pre_app _ _)).trans (pre_app _ _)
  have hS0 : (((H ++ [AObj.list []]) ++ [AObj.list (((List.range E.length).map (rk c)).map pairV)]) ++ [.list (qs.map pairV)])[H.length]? = some (.list (([] : List Nat).map natV)) := get_pre ((pre_app _ _).trans (pre_app _ _)) (last_get H (.list []))
  rw [e2] at hsrt es
  generalize (((H ++ [AObj.list []]) ++ [AObj.list (((List.range E.length).map (rk c)).map pairV)]) ++ [.list (qs.map pairV)]) = H3 at hsrt es p2 hS0
  refine s_for2 (i_ofR (v_prim (vs_cons (v_var rfl) vs_nil) es) hsrt) (forL_list (GsI H n r E c qs) ⟨[], _, _, rfl, hS0, hsrt, p2, Nat.le_refl _, fun x hx => (by cases hx), .nil, .nil, fun j i hj => absurd hj (Nat.not_lt_zero _)⟩ ?_ ?_)
  · rintro k v ρ H4 hv ⟨S, x4, x6, rfl, hS, hw, hp, hSl, hb, fo, nd, cl⟩
    have hk : k < qs.length := by have := (List.getElem?_eq_some_iff.mp hv).1; rwa [List.length_map] at this
    obtain ⟨i, hi, hqk, rfl⟩ : ∃ i, i < E.length ∧ qs[k]? = some (rk c i) ∧ v = pairV (rk c i) := by
      rw [List.getElem?_map, List.getElem?_eq_getElem hk] at hv
      have hm := hq.mem_iff.mp (List.getElem_mem hk)
      obtain ⟨i, hi, e⟩ := List.mem_map.mp hm
      exact ⟨i, List.mem_range.mp hi, by rw [List.getElem?_eq_getElem hk, e], by rw [e]; exact (Option.some.inj hv).symm⟩
    have he := List.getElem?_eq_getElem hi
    generalize E[i] = e at he
    have hed := ed_get he
    obtain ⟨o1, o2⟩ := hok e (List.mem_of_getElem? he)
    have hT4 : TL H4 r E := get_pre hp hT
    obtain ⟨v, H5, e5, r5, F, rfl, hr5, hp5, hge5, ndF, lt, hF⟩ := Res.sat_ex (reach_spec (strF := strF) (sc := sc) (m := m) (H := H4 ++ [.list ((pick E S).map tieV)]) (s := e.1) h10 hn (last_get _ _) (okT_pick hok hb) o1)
    have p5 : H4 <+: H5 := (pre_app _ _).trans hp5
    have hin := inOf_ints (i := (e.2 : Int)) hr5
    have hnot := c_notin (v := .int e.2) (w := .ref r5) (H := H5)
    rw [hin] at hnot
    have hS5 := get_pre p5 hS
    have hw5 := get_pre p5 hw
    have hmem : (e.2 : Int) ∈ sortI (F.map fun (p : Nat) => (p : Int)) ↔ Conn (pick E S) e.1 e.2 := by
      rw [mem_sortI, mem_nats]; exact hF e.2 o2
    have ev : ∀ ρ : AEnv, ρ[0]? = some (some (.int (n + 1 : Nat))) → ρ[1]? = some (some (.ref r)) → ρ[3]? = some (some (.ref H.length)) → ρ[4]? = some (some (.int i)) → denT strF (callF strF P sc (m + 1)) sc H.length (.cmp .NotIn (.idx (.idx (.var 1) (.var 4)) (.int 1)) (.call 10 (.cons (.var 0) (.cons (.comp1 (.idx (.var 2) (.var 0)) (.of (.var 3)) .none) (.cons (.idx (.idx (.var 1) (.var 4)) (.int 0)) .nil))))) ρ H4 = .ok (!decide ((e.2 : Int) ∈ sortI (F.map fun (p : Nat) => (p : Int)))) H5 := fun ρ g0 g1 g3 g4 =>
      t_cmp (v_idx (v_idx (v_var g1) (v_var g4) (item_tie hT4 he)) v_int item_tup1) (v_call (vs_cons (v_var g0) (vs_cons (picked (i := 1) (j := 3) hT4 hS (by (first | lia | omega)) hb g1 g3) (vs_cons (v_idx (v_idx (v_var g1) (v_var g4) (item_tie (get_pre (pre_app _ _) hT4) he)) v_int item_tup0) vs_nil))) e5) hnot
    show (denSs _ _ _ _ _ ([some (.int (n + 1 : Nat)), some (.ref r), some (.int c), some (.ref H.length), some (.int i), some (.ref (H.length + 1)), some (.int (rk c i).1)]) H4).sat _ _
    by_cases hd : (e.2 : Int) ∈ sortI (F.map fun (p : Nat) => (p : Int))
    · rw [decide_eq_true hd] at ev
      refine s_skip (ev _ rfl rfl rfl rfl) (s_nil ⟨⟨S, _, _, rfl, hS5, hw5, hp.trans p5, by (first | lia | omega), hb, fo, nd, fun j i' hj hq' => ?_⟩, hw5⟩)
      by_cases h : j = k
      · subst h
        rw [hqk] at hq'
        rw [← rk_inj (Option.some.inj hq'), hed]; exact hmem.mp hd
      · exact cl j i' (by (first | lia | omega)) hq'
    · rw [decide_eq_false hd] at ev
      have hnc : ¬ Conn (pick E S) e.1 e.2 := fun q => hd (hmem.mpr q)
      have hpick : pick E (S ++ [i]) = pick E S ++ [e] := by unfold pick; rw [List.map_append, List.map_singleton]; rw [show E.getD i (0, 0) = e from hed]
      refine s_iteT (ev _ rfl rfl rfl rfl) (s_expr (v_append (v_var rfl) (isL_of hS5) (v_var rfl) (append_nat hS5 (Nat.le_refl _) (Nat.lt_of_lt_of_le (show S.length < 100 by (first | lia | omega)) (by decide)))) (s_nil (s_nil ⟨⟨S ++ [i], _, _, rfl, set_top ⟨_, hS5⟩, set_other hw5 (by (first | lia | omega)), prefix_set (hp.trans p5) (Nat.le_refl _), by rw [List.length_append, List.length_singleton]; (first | lia | omega), fun x hx => ?_, ?_, ?_, fun j i' hj hq' => ?_⟩, set_other hw5 (by (first | lia | omega))⟩)))
      · rcases List.mem_append.mp hx with hx | hx
        · exact hb x hx
        · rw [List.mem_singleton.mp hx]; exact hi
      · rw [hpick]; exact fo_snoc _ rfl fo hnc
      · refine List.nodup_append.mpr ⟨nd, List.pairwise_singleton _ _, fun a ha c hc q => ?_⟩
        rw [List.mem_singleton.mp hc] at q
        have := pick_tie (E := E) (show i ∈ S from q ▸ ha)
        rw [hed] at this
        exact hnc this
      · by_cases h : j = k
        · subst h
          rw [hqk] at hq'
          rw [← rk_inj (Option.some.inj hq')]; exact pick_tie (by simp)
        · exact conn_sub (fun x hx => List.mem_append_left _ hx) (cl j i' (by (first | lia | omega)) hq')
  · rintro ρ H4 ⟨S, x4, x6, rfl, hS, hw, hp, hSl, hb, fo, nd, cl⟩
    rw [List.length_map] at hSl cl
    have hlen : S.length ≤ n := by
      have := fo_len _ rfl (okT_pick hok hb) fo
      unfold pick at this
      rwa [List.length_map] at this
    refine s_ret (v_prim (vs_cons (v_var rfl) vs_nil) (sorted_nats hS (by (first | lia | omega)))) ⟨H4.length, sortN S, rfl, ?_, hp.trans (pre_app _ _), hp.length_le, sortN_pw nd, fun i hi => hb i ((sortN_pm S).mem_iff.mp hi), by rw [(sortN_pm S).length_eq]; exact hlen, fun all => (grown_end hok hb fo nd (fun i hi => ?_) all).hg⟩
    · rw [sort_backN]; exact last_get _ _
    · obtain ⟨j, hj⟩ := List.mem_iff_getElem?.mp (hq.mem_iff.mpr (List.mem_map.mpr ⟨i, List.mem_range.mpr hi, rfl⟩))
      exact cl j i (List.getElem?_eq_some_iff.mp hj).1 hj
end
end Mine

namespace Mine
open PySem

/-! Law 13: exchanges. -/
noncomputable def fn_35 : FnI := ⟨4, 5, .cons (.expr (.call 1 (.cons (.var 0) (.cons (.var 1) .nil)))) (.cons (.ite (.or (.cons (.not (.call 25 (.cons (.var 0) (.cons (.var 1) (.cons (.var 2) .nil))))) (.cons (.not (.call 25 (.cons (.var 0) (.cons (.var 1) (.cons (.var 3) .nil))))) .nil))) (.cons (.raise 4 "no hanging") .nil) .nil) (.cons (.assign 4 (.list (.cons (.prim .list (.cons (.var 2) .nil)) .nil))) (.cons (.whl (.cmp .NotEq (.idx (.var 4) (.neg (.int 1))) (.var 3)) (.cons (.expr (.append (.var 4) (.call 34 (.cons (.var 0) (.cons (.var 1) (.cons (.idx (.var 4) (.neg (.int 1))) (.cons (.var 3) .nil))))))) .nil)) (.cons (.ret (.var 4)) .nil))))⟩
noncomputable def fn_75 : FnI := ⟨4, 5, .cons (.tryRet (.call 35 (.cons (.var 0) (.cons (.var 1) (.cons (.var 2) (.cons (.var 3) .nil))))) 0 (some 4) (.cons (.ret (.call 62 (.cons (.var 4) .nil))) .nil)) .nil⟩

/-- one exchange -/
inductive Xch (A B C : List Nat) : Prop
  | mk (g c : Nat) (hg : g ∈ A) (hgB : g ∉ B) (hc : c ∈ B) (hcA : c ∉ A) (hmem : ∀ i, i ∈ C ↔ (i ∈ A ∧ i ≠ g) ∨ i = c) : Xch A B C
/-- what the other one has, and this one has not -/
noncomputable abbrev lack (A B : List Nat) : List Nat := B.filter fun i => decide (i ∉ A)
theorem mem_lack {A B : List Nat} {i : Nat} : i ∈ lack A B ↔ i ∈ B ∧ i ∉ A := by rw [List.mem_filter, decide_eq_true_iff]

section
variable {strF : SrtF} {sc : List Int} {P : Nat → Option FnI} {H H0 H1 H2 H3 : AHeap} {n m b : Nat} {ρ : AEnv} {cf : Nat → List AV → AHeap → Res AV} {N : AEnv → AHeap → Prop} {R : AV → AHeap → Prop} {K K' : AV → AHeap → Prop} {x y : PE} {es : PEs} {ss : PSs} {v w : AV} {vs : List AV} {A B C : List Nat} {E : List (Nat × Nat)} {r qa qb : Nat}

theorem nodup_sub : ∀ {B A : List Nat}, B.Nodup → A.Nodup → (∀ i ∈ B, i ∈ A) → A.length ≤ B.length → ∀ i ∈ A, i ∈ B
  | [], A, _, _, _, h, i, hi => by
    cases A with
    | nil => cases hi
    | cons => exact absurd h (by simp)
  | b :: B, A, nb, na, hs, h, i, hi => by
    obtain ⟨h1, h2⟩ := List.nodup_cons.mp nb
    have hl := but1_len na (hs b List.mem_cons_self)
    by_cases e : i = b
    · rw [e]; exact List.mem_cons_self
    · refine List.mem_cons_of_mem _ (nodup_sub h2 (na.sublist List.filter_sublist) (A := but1 A b) (fun j hj => mem_but1.mpr ⟨hs j (List.mem_cons_of_mem _ hj), fun q => h1 (q ▸ hj)⟩) ?_ i (mem_but1.mpr ⟨hi, e⟩))
      rw [List.length_cons] at h; (first | lia | omega)
/-- a comprehension with a test over numbers -/
theorem comp_nats {q j : Nat} {c : Nat → Bool} {y : PE} (hq : H[q]? = some (.list (B.map natV))) (hl : B.length ≤ 1000) (hj : ρ[j]? = some (some (.ref q))) (ht : ∀ i ∈ B, denT strF cf sc b y (some (natV i) :: ρ) H = .ok (c i) H) :
    denE strF cf sc b (.comp1 (.var 0) (.of (.var j)) (.some y)) ρ H = .ok (.ref H.length) (H ++ [.list ((B.filter c).map natV)]) := by
  refine v_comp1 (i_ofR (v_var hj) hq) (comp_filter (g := natV) (f := natV) (c := c) (one_w hq) B fun i hi => ?_) (allocK (by rw [List.length_map]; exact Nat.le_trans (List.length_filter_le ..) hl))
  cases e : c i with
  | true => exact k_true (by rw [ht i hi, e]) (v_var rfl)
  | false => exact k_false (by rw [ht i hi, e])
theorem lacks {q j k : Nat} (hq : H[q]? = some (.list (B.map natV))) (hl : B.length ≤ 1000) (hj : ρ[j]? = some (some (.ref q))) (ha : H[qa]? = some (.list (A.map natV))) (hk : ρ[k]? = some (some (.ref qa))) :
    denE strF cf sc b (.comp1 (.var 0) (.of (.var j)) (.some (.cmp .NotIn (.var 0) (.var (k + 1))))) ρ H = .ok (.ref H.length) (H ++ [.list ((lack A B).map natV)]) := by
  refine comp_nats hq hl hj fun i hi => ?_
  have hnot := c_notin (v := .int i) (w := .ref qa) (H := H)
  rw [inOf_nats ha] at hnot
  refine (t_cmp (v_var rfl) (v_var (i := k + 1) (ρ := some (natV i) :: ρ) hk) hnot).trans ?_
  congr 1
  by_cases h : i ∈ A <;> simp [h]

inductive ExR (H : AHeap) (n : Nat) (E : List (Nat × Nat)) (A B : List Nat) (v : AV) (H' : AHeap) : Prop
  | mk (q : Nat) (C : List Nat) (hv : v = .ref q) (hq : H'[q]? = some (.list (C.map natV))) (hp : H <+: H') (hge : H.length ≤ q) (hC : Hg n E C) (hx : Xch A B C) : ExR H n E A B v H'
inductive ExI (H0 : AHeap) (n r qa qb : Nat) (E : List (Nat × Nat)) (A B : List Nat) (c : Nat) (k : Nat) (ρ : AEnv) (H : AHeap) : Prop
  | mk (x5 x6 : Option AV) (hρ : ρ = [some (.int (n + 1 : Nat)), some (.ref r), some (.ref qa), some (.ref qb), some (.int c), x5, x6]) (hp : H0 <+: H) (no : ∀ (j g : Nat), j < k → A[j]? = some g → g ∉ B → ¬ AllC (n + 1) (pick E (but1 A g ++ [c]))) : ExI H0 n r qa qb E A B c k ρ H
/-- A with c for g -/
theorem swap_span {g c : Nat} (hA : Hg n E A) (hB : Hg n E B) (hg : g ∈ A) (hc : c ∈ B) (hcA : c ∉ A) (h : AllC (n + 1) (pick E (but1 A g ++ [c]))) : Span n E (but1 A g ++ [c]) := by
  refine ⟨List.nodup_append.mpr ⟨(pw_nodup hA.r.pw).sublist List.filter_sublist, List.pairwise_singleton _ _, fun a ha d hd q => ?_⟩, fun i hi => ?_, ?_, h⟩
  · rw [List.mem_singleton.mp hd] at q
    exact hcA (q ▸ (mem_but1.mp ha).1)
  · rcases List.mem_append.mp hi with hi | hi
    · exact hA.r.lt i (mem_but1.mp hi).1
    · rw [List.mem_singleton.mp hi]; exact hB.r.lt c hc
  · have := but1_len (pw_nodup hA.r.pw) hg
    rw [List.length_append, List.length_singleton, this, hA.r.len]
/-- what exchanged answers -/
theorem exch13 (h0 : P 0 = some fn_0) (h2 : P 2 = some fn_2) (h25 : P 25 = some fn_25) (h34 : P 34 = some fn_34) (hn : n + 1 ≤ 7) (hT : TL H r E) (hok : okT (n + 1) E) (ha : H[qa]? = some (.list (A.map natV))) (hb : H[qb]? = some (.list (B.map natV))) (hA : Hg n E A) (hB : Hg n E B) (hne : A ≠ B) :
    (callF strF P sc (m + 3) 34 [.int (n + 1 : Nat), .ref r, .ref qa, .ref qb] H).sat (ExR H n E A B) := by
  have hal := hA.r.len
  have hbl := hB.r.len
  obtain ⟨c, D, hD⟩ : ∃ c D, lack A B = c :: D := by
    cases hd : lack A B with
    | cons c D => exact ⟨c, D, rfl⟩
    | nil =>
      refine absurd ?_ hne
      have sub : ∀ i ∈ B, i ∈ A := fun i hi => Classical.byContradiction fun q => by
        have := mem_lack.mpr ⟨hi, q⟩
        rw [hd] at this; cases this
      have sub2 : ∀ i ∈ A, i ∈ B := fun i hi => by
        exact nodup_sub (pw_nodup hB.r.pw) (pw_nodup hA.r.pw) sub (by (first | lia | omega)) i hi
      have e := strict_same (a := A.map fun (p : Nat) => (p : Int)) (b := B.map fun (p : Nat) => (p : Int)) (List.pairwise_map.mpr (hA.r.pw.imp fun h => by (first | lia | omega))) (List.pairwise_map.mpr (hB.r.pw.imp fun h => by (first | lia | omega))) fun x => by
        constructor
        · intro hx; obtain ⟨i, hi, rfl⟩ := List.mem_map.mp hx; exact List.mem_map_of_mem (sub2 i hi)
        · intro hx; obtain ⟨i, hi, rfl⟩ := List.mem_map.mp hx; exact List.mem_map_of_mem (sub i hi)
      exact List.map_inj_right (fun x y h => by (first | lia | omega)) |>.mp e
  obtain ⟨hcB, hcA⟩ := mem_lack.mp (show c ∈ lack A B by rw [hD]; exact List.mem_cons_self)
  have p1 := pre_app H [.list ((lack A B).map natV)]
  have ht := item_ref (sc := sc) (k := 0) (x := natV c) (last_get H (.list ((lack A B).map natV))) (by rw [hD]; rfl)
  refine s_call h34 rfl (s_assign (v_idx (lacks (j := 3) (k := 2) hb (by (first | lia | omega)) rfl ha rfl) v_int ht) ?_)
  have ha1 := get_pre p1 ha
  have hb1 := get_pre p1 hb
  have hT1 : TL _ r E := get_pre p1 hT
  have hlen1 : H.length ≤ (H ++ [AObj.list ((lack A B).map natV)]).length := p1.length_le
  generalize H ++ [.list ((lack A B).map natV)] = H1 at p1 ha1 hb1 hT1 hlen1
  refine s_for1 (i_ofR (v_var rfl) ha1) (forL_list (ExI H1 n r qa qb E A B c) ⟨_, _, rfl, List.prefix_rfl, fun j g hj => absurd hj (Nat.not_lt_zero _)⟩ ?_ ?_)
  · rintro k v ρ H2 hv ⟨x5, x6, rfl, hp, no⟩
    rw [List.getElem?_map] at hv
    obtain ⟨g, hg, rfl⟩ := Option.map_eq_some_iff.mp hv
    have hgA := List.mem_of_getElem? hg
    have ha2 := get_pre hp ha1
    have hb2 := get_pre hp hb1
    have hT2 : TL H2 r E := get_pre hp hT1
    have hnot := c_notin (v := .int g) (w := .ref qb) (H := H2)
    rw [inOf_nats hb2] at hnot
    by_cases hgB : g ∈ B
    · rw [decide_eq_true hgB] at hnot
      refine s_skip (t_cmp (v_var rfl) (v_var rfl) hnot) (s_nil ⟨⟨_, _, rfl, hp, fun j g' hj hg' hB' => ?_⟩, ha2⟩)
      by_cases h : j = k
      · subst h; rw [hg] at hg'; cases hg'; exact absurd hgB hB'
      · exact no j g' (by (first | lia | omega)) hg' hB'
    · rw [decide_eq_false hgB] at hnot
      have p3 := pre_app H2 [.list ((but1 A g).map natV)]
      have e3 : ∀ ρ : AEnv, ρ[2]? = some (some (.ref qa)) → ρ[5]? = some (some (natV g)) → denE strF (callF strF P sc (m + 2)) sc H.length (.comp1 (.var 0) (.of (.var 2)) (.some (.cmp .NotEq (.var 0) (.var 6)))) ρ H2 = .ok (.ref H2.length) (H2 ++ [.list ((but1 A g).map natV)]) := fun ρ g2 g5 =>
        comp_nats ha2 (by (first | lia | omega)) g2 fun i hi => by
          refine (t_cmp (v_var rfl) (v_var (i := 6) (ρ := some (natV i) :: ρ) g5) c_ne).trans ?_
          congr 1
          by_cases h : i = g
          · rw [h, decide_eq_false (by simp)]; simp
          · rw [decide_eq_true h]
            have e : ((i : Int) == (g : Int)) = false := beq_eq_false_iff_ne.mpr (by (first | lia | omega))
            rw [e]; rfl
      have hl3 := but1_len (pw_nodup hA.r.pw) hgA
      have g3 := last_get H2 (.list ((but1 A g).map natV))
      generalize hH3 : H2 ++ [AObj.list ((but1 A g).map natV)] = H3 at p3 e3 g3
      have p4 := pre_app H3 [.list [natV c]]
      have g4 := last_get H3 (.list [natV c])
      have g3' := get_pre p4 g3
      generalize hH4 : H3 ++ [AObj.list [natV c]] = H4 at p4 g4 g3'
      have p5 := pre_app H4 [.list ((but1 A g ++ [c]).map natV)]
      have g5 := last_get H4 (.list ((but1 A g ++ [c]).map natV))
      have eadd : binop .Add (.ref H2.length) (.ref H3.length) H4 = .ok (.ref H4.length) (H4 ++ [.list ((but1 A g ++ [c]).map natV)]) := by
        rw [b_addL, g3', g4]
        show alloc ((but1 A g).map natV ++ [natV c]) H4 = _
        rw [List.map_append]
        exact allocK (by rw [List.length_append, List.length_map]; show (but1 A g).length + 1 ≤ 1000; (first | lia | omega))
      have hl5 : (but1 A g ++ [c]).length = n := by rw [List.length_append, List.length_singleton, hl3, hal]
      generalize hH5 : H4 ++ [AObj.list ((but1 A g ++ [c]).map natV)] = H5 at p5 g5 eadd
      have es := sorted_nats (strF := strF) (sc := sc) g5 (by (first | lia | omega))
      have p6 := pre_app H5 [.list ((sortI ((but1 A g ++ [c]).map fun (p : Nat) => (p : Int))).map .int)]
      have g6 := last_get H5 (.list ((sortI ((but1 A g ++ [c]).map fun (p : Nat) => (p : Int))).map .int))
      have g6' : (H5 ++ [AObj.list ((sortI ((but1 A g ++ [c]).map fun (p : Nat) => (p : Int))).map .int)])[H5.length]? = some (.list ((sortN (but1 A g ++ [c])).map natV)) := by rw [g6, sort_backN]
      generalize hH6 : H5 ++ [AObj.list ((sortI ((but1 A g ++ [c]).map fun (p : Nat) => (p : Int))).map .int)] = H6 at p6 g6' es
      have pall := ((p3.trans p4).trans p5).trans p6
      obtain ⟨u, H7, e7, t, rfl, ht7, hp7⟩ := Res.sat_ex (hangingof_spec (strF := strF) (sc := sc) (m := m) h0 h2 h25 hn (get_pre pall hT2) hok (Ask.list H5.length _ rfl g6' fun x hx => by obtain ⟨i, _, rfl⟩ := List.mem_map.mp hx; rfl))
      have ef : denE strF (callF strF P sc (m + 2)) sc H.length (.prim .sorted (.cons (.bin .Add (.comp1 (.var 0) (.of (.var 2)) (.some (.cmp .NotEq (.var 0) (.var 6)))) (.list (.cons (.var 4) .nil))) .nil)) [some (.int (n + 1 : Nat)), some (.ref r), some (.ref qa), some (.ref qb), some (.int c), some (natV g), x6] H2 = .ok (.ref H5.length) H6 :=
        v_prim (vs_cons (v_bin (e3 _ rfl rfl) (by have := v_list (strF := strF) (cf := callF strF P sc (m + 2)) (sc := sc) (b := H.length) (H := H3) (ρ := [some (.int (n + 1 : Nat)), some (.ref r), some (.ref qa), some (.ref qb), some (.int c), some (natV g), x6]) (es := .cons (.var 4) .nil) (vs_cons (v_var rfl) vs_nil) (allocK (Nat.le_of_ble_eq_true rfl)); rwa [show (AV.int (c : Int)) = natV c from rfl, hH4] at this) eadd) vs_nil) es
      cases t with
      | true =>
        obtain ⟨q', S', hv', hq', hr', hc'⟩ := ht7.mp rfl
        cases hv'
        rw [g6'] at hq'
        injection hq' with hq'
        injection hq' with hq'
        have := natV_inj hq'
        subst this
        refine s_iteT (t_cmp (v_var rfl) (v_var rfl) hnot) (s_assign ef (s_iteT (t_call (vs_cons (v_var rfl) (vs_cons (v_var rfl) (vs_cons (v_var rfl) vs_nil))) e7) (s_ret (v_var rfl) ⟨H5.length, _, rfl, get_pre hp7 g6', ((p1.trans hp).trans pall).trans hp7, Nat.le_trans (p1.trans hp).length_le ((p3.trans p4).trans p5).length_le, ⟨hr', hc'⟩, ⟨g, c, hgA, hgB, hcB, hcA, fun i => ?_⟩⟩)))
        rw [(sortN_pm _).mem_iff, List.mem_append, mem_but1, List.mem_singleton]
      | false =>
        refine s_iteT (t_cmp (v_var rfl) (v_var rfl) hnot) (s_assign ef (s_skip (t_call (vs_cons (v_var rfl) (vs_cons (v_var rfl) (vs_cons (v_var rfl) vs_nil))) e7) (s_nil (s_nil ⟨⟨_, _, rfl, (hp.trans pall).trans hp7, fun j g' hj hg' hB' => ?_⟩, get_pre (pall.trans hp7) ha2⟩))))
        by_cases h : j = k
        · subst h; rw [hg] at hg'; cases hg'
          intro all
          have sp := (swap_span hA hB hgA hcB hcA all).hg
          have := ht7.mpr ⟨H5.length, _, rfl, g6', sp.r, sp.c⟩
          cases this
        · exact no j g' (by (first | lia | omega)) hg' hB'
  · rintro ρ H2 ⟨x5, x6, rfl, hp, no⟩
    rw [List.length_map] at no
    obtain ⟨g, hgA, hgB, all⟩ := exchange hA.span hB.span hok hcB hcA
    obtain ⟨j, hj⟩ := List.mem_iff_getElem?.mp hgA
    exact absurd all (no j g (List.getElem?_eq_some_iff.mp hj).1 hj hgB)
end
end Mine

namespace Mine
open PySem

/-! Law 13: exchanges, from one hanging to the other. -/
theorem lack_nil {n : Nat} {E : List (Nat × Nat)} {A B : List Nat} (hA : Hg n E A) (hB : Hg n E B) (h : lack A B = []) : A = B := by
  have hal := hA.r.len
  have hbl := hB.r.len
  have sub : ∀ i ∈ B, i ∈ A := fun i hi => Classical.byContradiction fun q => by
    have := mem_lack.mpr ⟨hi, q⟩
    rw [h] at this; cases this
  have sub2 := nodup_sub (pw_nodup hB.r.pw) (pw_nodup hA.r.pw) sub (by (first | lia | omega))
  have e := strict_same (a := A.map fun (p : Nat) => (p : Int)) (b := B.map fun (p : Nat) => (p : Int)) (List.pairwise_map.mpr (hA.r.pw.imp fun h => by (first | lia | omega))) (List.pairwise_map.mpr (hB.r.pw.imp fun h => by (first | lia | omega))) fun x => by
    constructor
    · intro hx; obtain ⟨i, hi, rfl⟩ := List.mem_map.mp hx; exact List.mem_map_of_mem (sub2 i hi)
    · intro hx; obtain ⟨i, hi, rfl⟩ := List.mem_map.mp hx; exact List.mem_map_of_mem (sub i hi)
  exact List.map_inj_right (fun x y h => by (first | lia | omega)) |>.mp e
theorem lack_self {A : List Nat} : lack A A = [] := List.filter_eq_nil_iff.mpr fun i hi => by simp [hi]
theorem Xch.less {A B C : List Nat} (h : Xch A B C) (nd : B.Nodup) : (lack C B).length + 1 = (lack A B).length := by
  obtain ⟨g, c, hg, hgB, hc, hcA, hmem⟩ := h
  have e : lack C B = but1 (lack A B) c := by
    show B.filter _ = (B.filter _).filter _
    rw [List.filter_filter]
    refine List.filter_congr fun i hi => ?_
    have : i ∉ C ↔ (i ≠ c ∧ i ∉ A) := by
      rw [hmem]
      constructor
      · intro q; exact ⟨fun e => q (.inr e), fun a => q (.inl ⟨a, fun e => hgB (e ▸ hi)⟩)⟩
      · rintro ⟨q1, q2⟩ (⟨a, _⟩ | e)
        · exact q2 a
        · exact q1 e
    by_cases h1 : i ∉ C
    · obtain ⟨h2, h3⟩ := this.mp h1
      rw [decide_eq_true h1, decide_eq_true h2, decide_eq_true h3]; rfl
    · rw [decide_eq_false h1]
      by_cases h2 : i ≠ c
      · by_cases h3 : i ∉ A
        · exact absurd (this.mpr ⟨h2, h3⟩) h1
        · rw [decide_eq_true h2, decide_eq_false h3]; rfl
      · rw [decide_eq_false h2]; rfl
  rw [e]
  exact but1_len (nd.sublist List.filter_sublist) (mem_lack.mpr ⟨hc, hcA⟩)
theorem filter_one {c : Nat} : ∀ {C : List Nat}, C.Nodup → c ∈ C → (C.filter fun i => decide (i = c)).length = 1
  | [], _, h => by cases h
  | a :: C, nd, h => by
    obtain ⟨h1, h2⟩ := List.nodup_cons.mp nd
    by_cases e : a = c
    · subst e
      have e1 : (a :: C).filter (fun i => decide (i = a)) = a :: C.filter (fun i => decide (i = a)) := List.filter_cons_of_pos (by simp)
      have e2 : C.filter (fun i => decide (i = a)) = [] := List.filter_eq_nil_iff.mpr fun i hi q => h1 (of_decide_eq_true q ▸ hi)
      rw [e1, e2]; rfl
    · rw [List.filter_cons_of_neg (by simp [e])]
      exact filter_one h2 ((List.mem_cons.mp h).resolve_left (Ne.symm e))
/-- the new ones of a step: one -/
theorem Xch.one {A B C : List Nat} (h : Xch A B C) (nd : C.Nodup) : (lack A C).length = 1 := by
  obtain ⟨g, c, hg, hgB, hc, hcA, hmem⟩ := h
  have hcC : c ∈ C := (hmem c).mpr (.inr rfl)
  have e : lack A C = C.filter fun i => decide (i = c) := List.filter_congr fun i hi => by
    have : i ∉ A ↔ i = c := by
      rcases (hmem i).mp hi with ⟨a, _⟩ | q
      · exact ⟨fun q => absurd a q, fun q => q ▸ hcA⟩
      · exact ⟨fun _ => q, fun _ => q ▸ hcA⟩
    exact decide_eq_decide.mpr this
  rw [e]; exact filter_one nd hcC

/-- the way so far -/
structure Chn (n : Nat) (E : List (Nat × Nat)) (A B : List Nat) (k : Nat) (Cs : List (List Nat)) (L : List Nat) : Prop where
  len : Cs.length = k + 1
  first : Cs[0]? = some A
  last : Cs[k]? = some L
  all : ∀ C ∈ Cs, Hg n E C
  steps : ∀ {j : Nat} {C D : List Nat}, Cs[j]? = some C → Cs[j + 1]? = some D → Xch C B D
  left : (lack L B).length + k = (lack A B).length
theorem Chn.one {n : Nat} {E : List (Nat × Nat)} {A B : List Nat} (hA : Hg n E A) : Chn n E A B 0 [A] A :=
  ⟨rfl, rfl, rfl, fun C hC => by rw [List.mem_singleton.mp hC]; exact hA, fun e1 e2 => by simp at e2, rfl⟩
theorem Chn.more {n k : Nat} {E : List (Nat × Nat)} {A B L D : List Nat} {Cs : List (List Nat)} (h : Chn n E A B k Cs L) (hB : B.Nodup) (hD : Hg n E D) (hx : Xch L B D) : Chn n E A B (k + 1) (Cs ++ [D]) D := by
  have hl := h.len
  have hx' := hx.less hB
  have hleft := h.left
  refine ⟨by rw [List.length_append, hl]; rfl, by rw [List.getElem?_append_left (by (first | lia | omega))]; exact h.first, by rw [← hl]; exact List.getElem?_concat_length, fun C hC => ?_, fun {j C D'} e1 e2 => ?_, by (first | lia | omega)⟩
  · rcases List.mem_append.mp hC with hC | hC
    · exact h.all C hC
    · rw [List.mem_singleton.mp hC]; exact hD
  · by_cases hj : j + 1 < Cs.length
    · rw [List.getElem?_append_left (by (first | lia | omega))] at e1
      rw [List.getElem?_append_left hj] at e2
      exact h.steps e1 e2
    · have hj2 : j + 1 = Cs.length := by
        have := (List.getElem?_eq_some_iff.mp e2).1
        rw [List.length_append, List.length_singleton] at this
        (first | lia | omega)
      have hjk : j = k := by (first | lia | omega)
      subst hjk
      rw [List.getElem?_append_left (by (first | lia | omega)), h.last] at e1
      rw [hj2, List.getElem?_concat_length] at e2
      cases e1; cases e2
      exact hx

section
variable {strF : SrtF} {sc : List Int} {P : Nat → Option FnI} {H H0 H1 H2 H3 : AHeap} {n m b : Nat} {ρ : AEnv} {cf : Nat → List AV → AHeap → Res AV} {N : AEnv → AHeap → Prop} {R : AV → AHeap → Prop} {K K' : AV → AHeap → Prop} {x y : PE} {es : PEs} {ss : PSs} {v w : AV} {vs : List AV} {A B C : List Nat} {E : List (Nat × Nat)} {r qa qb : Nat}

theorem item_end {q k : Nat} {xs : List AV} {x : AV} (h : H[q]? = some (.list xs)) (hl : xs.length = k + 1) (hx : xs[k]? = some x) : itemOf sc (.ref q) (.int (-1)) H = .ok x H := by
  have ha : at? xs.length (-1) = some k := by
    unfold at?
    rw [if_neg (by (first | lia | omega)), if_pos (by (first | lia | omega)), hl]
    congr 1
    (first | lia | omega)
  show (match items (.ref q) H with
      | some xs => (match at? xs.length (-1) with
        | some j => (match xs[j]? with | some x => Res.ok x H | none => .bad)
        | none => .bad)
      | none => .bad) = _
  rw [i_ref, h]
  show (match at? xs.length (-1) with
        | some j => (match xs[j]? with | some x => Res.ok x H | none => .bad)
        | none => .bad) = _
  rw [ha]
  show (match xs[k]? with | some x => Res.ok x H | none => .bad) = _
  rw [hx]
theorem appendR {q : Nat} {qs : List Nat} (h : H[r]? = some (.list (qs.map .ref))) (hge : b ≤ r) (hl : qs.length < 1000) : appendTo b (.ref r) (.ref q) H = .ok .none (H.set r (.list ((qs ++ [q]).map .ref))) := by
  unfold appendTo
  simp only [h]
  rw [if_pos ⟨hge, by rw [List.length_map]; exact Nat.lt_of_lt_of_le hl (by decide)⟩, List.map_append]; rfl
theorem Fa.setO {o : AObj} {qs : List Nat} {Ss : List (List Nat)} (f : Fa H qs Ss) (h : ∀ q ∈ qs, r ≠ q) : Fa (H.set r o) qs Ss := by
  induction f with
  | nil => exact .nil
  | cons e _ ih => exact .cons (set_other e (h _ List.mem_cons_self)) (ih fun q hq => h q (List.mem_cons_of_mem _ hq))

inductive FndR (H0 : AHeap) (n : Nat) (E : List (Nat × Nat)) (A B : List Nat) (v : AV) (H : AHeap) : Prop
  | mk (k q : Nat) (qs : List Nat) (Cs : List (List Nat)) (hv : v = .ref q) (hq : H[q]? = some (.list (qs.map .ref))) (hf : Fa H qs Cs) (hp : H0 <+: H) (hge : H0.length ≤ q) (hqs : ∀ x ∈ qs, q ≠ x ∧ H0.length ≤ x) (hc : Chn n E A B k Cs B) : FndR H0 n E A B v H
inductive FoI (H0 : AHeap) (n r qa qb : Nat) (E : List (Nat × Nat)) (A B : List Nat) (k : Nat) (ρ : AEnv) (H : AHeap) : Prop
  | mk (qs : List Nat) (Cs : List (List Nat)) (L : List Nat) (hρ : ρ = [some (.int (n + 1 : Nat)), some (.ref r), some (.ref qa), some (.ref qb), some (.ref (H0.length + 1))]) (hq : H[H0.length + 1]? = some (.list (qs.map .ref))) (hf : Fa H qs Cs) (hp : H0 <+: H) (hqs : ∀ x ∈ qs, H0.length + 1 ≠ x ∧ H0.length ≤ x) (hc : Chn n E A B k Cs L) : FoI H0 n r qa qb E A B k ρ H
structure Defs35 (P : Nat → Option FnI) : Prop where
  h0 : P 0 = some fn_0
  h1 : P 1 = some fn_1
  h2 : P 2 = some fn_2
  h25 : P 25 = some fn_25
  h34 : P 34 = some fn_34
  h35 : P 35 = some fn_35
  h62 : P 62 = some fn_62
  h75 : P 75 = some fn_75
theorem ask_nats {q : Nat} (h : H[q]? = some (.list (A.map natV))) : Ask H (.ref q) := .list q _ rfl h fun x hx => by obtain ⟨i, _, rfl⟩ := List.mem_map.mp hx; rfl
/-- what exchanges answers of two hangings -/
theorem exs_ok (D : Defs35 P) (hn : n + 1 ≤ 7) (hT : TL H r E) (hl : E.length ≤ 16) (hok : okT (n + 1) E) (ha : H[qa]? = some (.list (A.map natV))) (hb : H[qb]? = some (.list (B.map natV))) (hA : Hg n E A) (hB : Hg n E B) :
    (callF strF P sc (m + 4) 35 [.int (n + 1 : Nat), .ref r, .ref qa, .ref qb] H).sat (FndR H n E A B) := by
  have hal := hA.r.len
  have hbl := hB.r.len
  obtain ⟨v, H1, e1, t1, rfl, ht1, hp1⟩ := Res.sat_ex (hangingof_spec (strF := strF) (sc := sc) (m := m + 1) D.h0 D.h2 D.h25 hn hT hok (ask_nats ha))
  obtain rfl : t1 = true := ht1.mpr ⟨qa, A, rfl, ha, hA.r, hA.c⟩
  have hT1 : TL H1 r E := get_pre hp1 hT
  obtain ⟨v, H2, e2, t2, rfl, ht2, hp2⟩ := Res.sat_ex (hangingof_spec (strF := strF) (sc := sc) (m := m + 1) D.h0 D.h2 D.h25 hn hT1 hok (ask_nats (get_pre hp1 hb)))
  obtain rfl : t2 = true := ht2.mpr ⟨qb, B, rfl, get_pre hp1 hb, hB.r, hB.c⟩
  have p2 := hp1.trans hp2
  have ha2 := get_pre p2 ha
  have hb2 := get_pre p2 hb
  have hT2 : TL H2 r E := get_pre p2 hT
  have el : prim strF sc .list [.ref qa] H2 = .ok (.ref H2.length) (H2 ++ [.list (A.map natV)]) := by rw [p_list, i_ref, ha2]; exact allocK (by rw [List.length_map]; (first | lia | omega))
  have p3 := (pre_app H2 [.list (A.map natV)]).trans (pre_app _ [.list [AV.ref H2.length]])
  have e3 : (H2 ++ [AObj.list (A.map natV)]).length = H2.length + 1 := by simp
  have g3 := last_get (H2 ++ [AObj.list (A.map natV)]) (.list [AV.ref H2.length])
  have g4 : ((H2 ++ [AObj.list (A.map natV)]) ++ [.list [AV.ref H2.length]])[H2.length]? = some (.list (A.map natV)) := get_pre (pre_app _ _) (last_get _ _)
  refine s_call D.h35 rfl (s_expr (v_call (vs_cons (v_var rfl) (vs_cons (v_var rfl) vs_nil)) (need_new (m := m + 1) D.h0 D.h1 (by (first | lia | omega)) hn hT hl hok))
    (s_skip (t_or (ot_false (t_notF (t_call (vs_cons (v_var rfl) (vs_cons (v_var rfl) (vs_cons (v_var rfl) vs_nil))) e1)) (ot_false (t_notF (t_call (vs_cons (v_var rfl) (vs_cons (v_var rfl) (vs_cons (v_var rfl) vs_nil))) e2)) ot_nil)))
    (s_assign (v_list (vs_cons (v_prim (vs_cons (v_var rfl) vs_nil) el) vs_nil) (allocK (Nat.le_of_ble_eq_true rfl))) ?_)))
  rw [e3] at g3 ⊢
  show (denSs _ _ _ _ _ [some (.int (n + 1 : Nat)), some (.ref r), some (.ref qa), some (.ref qb), some (.ref (H2.length + 1))] _).sat _ _
  generalize (H2 ++ [AObj.list (A.map natV)]) ++ [.list [AV.ref H2.length]] = H3 at p3 g3 g4
  have hlack : (lack A B).length ≤ 7 := Nat.le_trans (List.length_filter_le ..) (by (first | lia | omega))
  refine s_whl (whileL_rule (FoI H2 n r qa qb E A B) (lack A B).length ?_ 100 0 _ _ (by (first | lia | omega)) (Nat.zero_le _) ⟨[H2.length], [A], A, rfl, g3, .cons g4 .nil, p3, fun x hx => by rw [List.mem_singleton.mp hx]; exact ⟨by (first | lia | omega), by (first | lia | omega)⟩, .one hA⟩)
  rintro k ρ H4 hk ⟨qs, Cs, L, rfl, hq, hf, hp, hqs, hc⟩
  obtain ⟨q, hqk, hqL⟩ := hf.at hc.last
  have hql : qs.length = k + 1 := hf.length.trans hc.len
  have it := item_end (sc := sc) (x := .ref q) hq (by rw [List.length_map]; exact hql) (by rw [List.getElem?_map, hqk]; rfl)
  have hb4 := get_pre hp hb2
  have hL : Hg n E L := hc.all L (List.mem_of_getElem? hc.last)
  have hne := c_neR (r := q) (v := .ref qb) (H := H4)
  rw [eqOf_nats hqL hb4] at hne
  refine ⟨_, H4, t_cmp (v_idx (v_var rfl) (v_neg v_int) it) (v_var rfl) hne, fun hf' => ?_, fun ht => ?_⟩
  · have e : L = B := by
      by_cases h : L = B
      · exact h
      · rw [decide_eq_false h] at hf'; cases hf'
    subst e
    exact s_ret (v_var rfl) ⟨k, H2.length + 1, qs, Cs, rfl, hq, hf, p2.trans hp, Nat.le_succ_of_le p2.length_le, fun x hx => ⟨(hqs x hx).1, Nat.le_trans p2.length_le (hqs x hx).2⟩, hc⟩
  · have e : L ≠ B := fun h => by rw [decide_eq_true h] at ht; cases ht
    have hleft := hc.left
    refine ⟨?_, ?_⟩
    · cases hd : lack L B with
      | nil => exact absurd (lack_nil hL hB hd) e
      | cons x l => rw [hd, List.length_cons] at hleft; (first | lia | omega)
    · obtain ⟨v, H5, e5, q5, C5, rfl, hq5, hp5, hge5, hC5, hx5⟩ := Res.sat_ex (exch13 (strF := strF) (sc := sc) (m := m) D.h0 D.h2 D.h25 D.h34 hn (get_pre hp hT2) hok hqL hb4 hL hB e)
      have hq' := get_pre hp5 hq
      have hlt : H2.length + 1 < H4.length := (List.getElem?_eq_some_iff.mp hq).1
      have ap := appendR (b := H.length) (q := q5) hq' (Nat.le_succ_of_le p2.length_le) (by (first | lia | omega))
      have hn5 : H2.length + 1 ≠ q5 := by (first | lia | omega)
      refine s_expr (v_append (v_var rfl) (isL_of hq) (v_call (vs_cons (v_var rfl) (vs_cons (v_var rfl) (vs_cons (v_idx (v_var rfl) (v_neg v_int) it) (vs_cons (v_var rfl) vs_nil)))) e5) ap)
        (s_nil ⟨qs ++ [q5], Cs ++ [C5], C5, rfl, set_top ⟨_, hq'⟩, ((hf.grow hp5).setO fun x hx => (hqs x hx).1).app (.cons (set_other hq5 hn5) .nil), prefix_set (hp.trans hp5) (Nat.le_succ _), fun x hx => ?_, hc.more (pw_nodup hB.r.pw) hC5 hx5⟩)
      rcases List.mem_append.mp hx with hx | hx
      · exact hqs x hx
      · rw [List.mem_singleton.mp hx]; exact ⟨hn5, by (first | lia | omega)⟩
theorem Ask.mono {H H' : AHeap} {v : AV} (hw : Ask H v) (p : H <+: H') : Ask H' v := by
  cases hw with
  | other h h' =>
    cases v with
    | ref q =>
      rw [k_list] at h
      cases hq : H[q]? with
      | none => rw [hq] at h; cases h
      | some o =>
        cases o with
        | list xs => exact absurd hq (h' q xs rfl)
        | dict =>
          refine .other (by rw [k_list, get_pre p hq]) fun q' xs e => ?_
          cases e
          rw [get_pre p hq]; intro e; cases e
    | _ => first | exact .other h fun q xs e => (by cases e) | cases h
  | list q xs hv hq hx => exact .list q xs hv (get_pre p hq) hx
theorem Ask.back {H H' : AHeap} {v : AV} {n : Nat} {E : List (Nat × Nat)} (hw : Ask H v) (p : H <+: H') (h : IsH H' n E v) : IsH H n E v := by
  obtain ⟨q, S, hv', hq', hr', hc'⟩ := h
  subst hv'
  refine ⟨q, S, rfl, ?_, hr', hc'⟩
  cases hw with
  | other h h' =>
    rw [k_list] at h
    cases hq : H[q]? with
    | none => rw [hq] at h; cases h
    | some o => rw [get_pre p hq] at hq'; rw [hq']
  | list q2 xs hv hq hx => cases hv; rw [get_pre p hq] at hq'; rw [hq, hq']
/-- what exchanges does where one of both is none -/
theorem exs_bad (D : Defs35 P) (hn : n + 1 ≤ 7) (hT : TL H r E) (hl : E.length ≤ 16) (hok : okT (n + 1) E) (hv : Ask H v) (hw : Ask H w) (hno : ¬ (IsH H n E v ∧ IsH H n E w)) : ∃ H', callF strF P sc (m + 4) 35 [.int (n + 1 : Nat), .ref r, v, w] H = .exc 4 H' ∧ H <+: H' := by
  obtain ⟨u, H1, e1, t1, rfl, ht1, hp1⟩ := Res.sat_ex (hangingof_spec (strF := strF) (sc := sc) (m := m + 1) D.h0 D.h2 D.h25 hn hT hok hv)
  have nn := need_new (strF := strF) (sc := sc) (m := m + 1) (H := H) D.h0 D.h1 (by (first | lia | omega)) hn hT hl hok
  cases t1 with
  | false =>
    exact x_call (X := fun H' => H <+: H') (c := 4) (strF := strF) (sc := sc) (n := m + 3) (H := H) (args := [.int (n + 1 : Nat), .ref r, v, w]) D.h35 rfl
      (x_expr (v_call (vs_cons (v_var rfl) (vs_cons (v_var rfl) vs_nil)) nn) (x_iteT (t_or (ot_true (t_notT (t_call (vs_cons (v_var rfl) (vs_cons (v_var rfl) (vs_cons (v_var rfl) vs_nil))) e1)))) (x_raise hp1)))
  | true =>
    have hw1 : Ask H1 w := hw.mono hp1
    obtain ⟨u, H2, e2, t2, rfl, ht2, hp2⟩ := Res.sat_ex (hangingof_spec (strF := strF) (sc := sc) (m := m + 1) D.h0 D.h2 D.h25 hn (get_pre hp1 hT) hok hw1)
    cases t2 with
    | true => exact absurd ⟨ht1.mp rfl, hw.back hp1 (ht2.mp rfl)⟩ hno
    | false =>
      exact x_call (X := fun H' => H <+: H') (c := 4) (strF := strF) (sc := sc) (n := m + 3) (H := H) (args := [.int (n + 1 : Nat), .ref r, v, w]) D.h35 rfl
        (x_expr (v_call (vs_cons (v_var rfl) (vs_cons (v_var rfl) vs_nil)) nn) (x_iteT (t_or (ot_false (t_notF (t_call (vs_cons (v_var rfl) (vs_cons (v_var rfl) (vs_cons (v_var rfl) vs_nil))) e1)) (ot_true (t_notT (t_call (vs_cons (v_var rfl) (vs_cons (v_var rfl) (vs_cons (v_var rfl) vs_nil))) e2))))) (x_raise (hp1.trans hp2))))
theorem told13_ok (D : Defs35 P) (hn : n + 1 ≤ 7) (hT : TL H r E) (hl : E.length ≤ 16) (hok : okT (n + 1) E) (ha : H[qa]? = some (.list (A.map natV))) (hb : H[qb]? = some (.list (B.map natV))) (hA : Hg n E A) (hB : Hg n E B) :
    (callF strF P sc (m + 5) 75 [.int (n + 1 : Nat), .ref r, .ref qa, .ref qb] H).sat (FndR H n E A B) := by
  obtain ⟨v, H1, e1, R⟩ := Res.sat_ex (exs_ok (strF := strF) (sc := sc) (m := m) D hn hT hl hok ha hb hA hB)
  exact s_call D.h75 rfl (s_tryRet (v_call (vs_cons (v_var rfl) (vs_cons (v_var rfl) (vs_cons (v_var rfl) (vs_cons (v_var rfl) vs_nil)))) e1) R)
theorem told13_bad (D : Defs35 P) (hn : n + 1 ≤ 7) (hT : TL H r E) (hl : E.length ≤ 16) (hok : okT (n + 1) E) (hv : Ask H v) (hw : Ask H w) (hno : ¬ (IsH H n E v ∧ IsH H n E w)) : (callF strF P sc (m + 5) 75 [.int (n + 1 : Nat), .ref r, v, w] H).sat fun u H' => u = .int 0 ∧ H <+: H' := by
  obtain ⟨H1, e1, hp1⟩ := exs_bad (strF := strF) (sc := sc) (m := m) D hn hT hl hok hv hw hno
  have nm : (callF strF P sc (m + 4) 62 [.exc 4] H1).sat fun v H' => v = .int 0 ∧ H1 <+: H' :=
    s_call D.h62 rfl (SR.sat_mono (names_go (strF := strF) (sc := sc) (H := H1) (cf := callF strF P sc (m + 3)) (b := H1.length) (d := 4) (j := 0) rfl rfl) (fun _ _ q => q.elim) fun _ _ q => q)
  obtain ⟨u, H2, e2, rfl, p2⟩ := Res.sat_ex nm
  exact s_call D.h75 rfl (s_tryX (xv_call (vs_cons (v_var rfl) (vs_cons (v_var rfl) (vs_cons (v_var rfl) (vs_cons (v_var rfl) vs_nil)))) e1) rfl (.inr rfl) (s_ret (v_call (vs_cons (v_var rfl) vs_nil) e2) ⟨rfl, hp1.trans p2⟩))
end
end Mine

namespace Mine
open PySem

/-! Law 13: the steps. -/
noncomputable def fn_76 : FnI := ⟨3, 6, .cons (.for1 3 (.of (.var 2)) (.cons (.ite (.or (.cons (.not (.prim .isList (.cons (.var 3) .nil))) (.cons (.not (.prim .all (.cons (.comp1 (.and (.cons (.call 9 (.cons (.var 0) .nil)) (.cons (.cmp2 .LtE .Lt (.int 0) (.var 0) (.prim .len (.cons (.var 2) .nil))) .nil))) (.of (.var 3)) .none) .nil))) .nil))) (.cons (.ret (.bool false)) .nil) .nil) (.cons (.ite (.or (.cons (.cmp .NotEq (.var 3) (.sset (.var 3))) (.cons (.not (.call 54 (.cons (.var 0) (.cons (.var 1) (.cons (.var 3) .nil))))) .nil))) (.cons (.ret (.bool false)) .nil) .nil) .nil))) (.cons (.for2 4 5 (.zip (.var 2) (.slice (.var 2) (.some (.int 1)) .none)) (.cons (.ite (.cmp .NotEq (.prim .len (.cons (.comp1 (.var 0) (.of (.var 5)) (.some (.cmp .NotIn (.var 0) (.var 5)))) .nil)) (.int 1)) (.cons (.ret (.bool false)) .nil) .nil) .nil)) (.cons (.ret (.bool true)) .nil))⟩

section
variable {strF : SrtF} {sc : List Int} {P : Nat → Option FnI} {H H0 H1 H2 H3 : AHeap} {n m b : Nat} {ρ : AEnv} {cf : Nat → List AV → AHeap → Res AV} {N : AEnv → AHeap → Prop} {R : AV → AHeap → Prop} {K K' : AV → AHeap → Prop} {x y : PE} {es : PEs} {ss : PSs} {v w : AV} {vs : List AV} {A B C : List Nat} {E : List (Nat × Nat)} {r qa qb : Nat}

theorem dedup_self (pw : A.Pairwise (· < ·)) : (dedupSorted (sortI (A.map fun (p : Nat) => (p : Int)))).map AV.int = A.map natV := by
  obtain ⟨h1, h2⟩ := dedup_spec (pw_sortI (A.map fun (p : Nat) => (p : Int)))
  have e := strict_same h1 (List.pairwise_map.mpr (pw.imp fun h => by (first | lia | omega))) fun x => (h2 x).trans (mem_sortI (l := A.map fun (p : Nat) => (p : Int)))
  rw [e, List.map_map]; rfl
theorem sset_self {q : Nat} (hq : H[q]? = some (.list (A.map natV))) (pw : A.Pairwise (· < ·)) (hl : A.length < 64) : prim strF sc .sortedSet [.ref q] H = .ok (.ref H.length) (H ++ [.list (A.map natV)]) := by
  show (match H[q]? with
      | some (.list xs) => if xs.length < 64 then (match intsOf xs with
          | some is => alloc ((dedupSorted (sortI is)).map .int) H
          | none => .bad) else .bad
      | _ => .bad) = _
  rw [hq]
  show (if (A.map natV).length < 64 then _ else _) = _
  rw [if_pos (by rw [List.length_map]; exact hl), intsOf_nats]
  show alloc ((dedupSorted (sortI (A.map fun (p : Nat) => (p : Int)))).map .int) H = _
  rw [dedup_self pw]
  exact allocK (by rw [List.length_map]; (first | lia | omega))
/-- a for over things, some lists watched -/
theorem forL_w13 {step : AV → AEnv → AHeap → SR} {ws : List (Nat × List AV)} {l : List AV} (I : Nat → AEnv → AHeap → Prop) (h0 : I 0 ρ H)
    (hs : ∀ k v ρ H, l[k]? = some v → I k ρ H → (step v ρ H).sat (fun ρ H => I (k + 1) ρ H ∧ ∀ w ∈ ws, H[w.1]? = some (.list w.2)) R) (hN : ∀ ρ H, I l.length ρ H → N ρ H) : (forL ws step l ρ H).sat N R := by
  have : ∀ (us pre : List AV) (ρ : AEnv) (H : AHeap), pre ++ us = l → I pre.length ρ H → (forL ws step us ρ H).sat N R := by
    intro us
    induction us with
    | nil =>
      intro pre ρ H e hI
      rw [List.append_nil] at e; subst e
      exact hN _ _ hI
    | cons v us ih =>
      intro pre ρ H e hI
      have h1 := hs pre.length v ρ H (by rw [← e]; simp) hI
      unfold forL
      cases e1 : step v ρ H with
      | next ρ' H' =>
        rw [e1] at h1
        have h2 : ws.all (fun w => still H' w.1 w.2) = true := List.all_eq_true.mpr fun w hw => still_of (h1.2 w hw)
        simp only [h2, if_true]
        refine ih (pre ++ [v]) ρ' H' (by rw [← e]; simp) ?_
        rw [List.length_append]; exact h1.1
      | ret v H' => rw [e1] at h1; exact h1
      | exc c H' => rw [e1] at h1; exact h1.elim
      | bad => rw [e1] at h1; exact h1.elim
  exact this l [] ρ H rfl h0
theorem zip_get : ∀ {xs ys : List AV} {k : Nat} {v : AV}, (zipL xs ys)[k]? = some v → ∃ a c, xs[k]? = some a ∧ ys[k]? = some c ∧ v = .tup [a, c]
  | [], _, k, v, e => by simp [zipL] at e
  | x :: xs, [], k, v, e => by simp [zipL] at e
  | x :: xs, y :: ys, 0, v, e => by simp [zipL] at e; exact ⟨x, y, rfl, rfl, e.symm⟩
  | x :: xs, y :: ys, k + 1, v, e => by
    have e : (zipL xs ys)[k]? = some v := e
    obtain ⟨a, c, h1, h2, h3⟩ := zip_get (xs := xs) (ys := ys) e
    exact ⟨a, c, h1, h2, h3⟩

inductive StI (H0 : AHeap) (n r q : Nat) (k : Nat) (ρ : AEnv) (H : AHeap) : Prop
  | mk (x3 x4 x5 : Option AV) (hρ : ρ = [some (.int (n + 1 : Nat)), some (.ref r), some (.ref q), x3, x4, x5]) (hp : H0 <+: H) : StI H0 n r q k ρ H
/-- what _law_steps answers of a way -/
theorem steps13 (h9 : P 9 = some fn_9) (h10 : P 10 = some fn_10) (h54 : P 54 = some fn_54) (h76 : P 76 = some fn_76) {k q : Nat} {qs : List Nat} {Cs : List (List Nat)} (hn : n + 1 ≤ 7) (hT : TL H r E) (hok : okT (n + 1) E) (hq : H[q]? = some (.list (qs.map .ref))) (hf : Fa H qs Cs) (hc : Chn n E A B k Cs B) (hk : k ≤ 7) :
    (callF strF P sc (m + 3) 76 [.int (n + 1 : Nat), .ref r, .ref q] H).sat fun v H' => v = .bool true ∧ H <+: H' := by
  have hql : qs.length = k + 1 := hf.length.trans hc.len
  refine s_call h76 rfl (s_for1 (i_ofR (v_var rfl) hq) (forL_list (StI H n r q) ⟨_, _, _, rfl, List.prefix_rfl⟩ ?_ ?_))
  · rintro j v ρ H1 hv ⟨x3, x4, x5, rfl, hp⟩
    rw [List.getElem?_map] at hv
    obtain ⟨qc, hqc, rfl⟩ := Option.map_eq_some_iff.mp hv
    obtain ⟨C, hC, hCq⟩ := hf.get hqc
    have hg := hc.all C (List.mem_of_getElem? hC)
    have hcl := hg.r.len
    have h1 := get_pre hp hCq
    have hT1 : TL H1 r E := get_pre hp hT
    have p2 := pre_app H1 [.list ((C.map natV).map fun x => AV.bool (tw E.length x))]
    have al : ∀ ρ : AEnv, ρ[1]? = some (some (.ref r)) → ρ[3]? = some (some (.ref qc)) → denT strF (callF strF P sc (m + 2)) sc H.length (.prim .all (.cons (.comp1 (.and (.cons (.call 9 (.cons (.var 0) .nil)) (.cons (.cmp2 .LtE .Lt (.int 0) (.var 0) (.prim .len (.cons (.var 2) .nil))) .nil))) (.of (.var 3)) .none) .nil)) ρ H1 = .ok true (H1 ++ [.list ((C.map natV).map fun x => AV.bool (tw E.length x))]) := fun ρ g1 g3 => by
      have := t_prim (strF := strF) (cf := callF strF P sc (m + 2)) (sc := sc) (b := H.length) (ρ := ρ) (H := H1) (p := .all) (vs_cons (v_comp1 (x := .and (.cons (.call 9 (.cons (.var 0) .nil)) (.cons (.cmp2 .LtE .Lt (.int 0) (.var 0) (.prim .len (.cons (.var 2) .nil))) .nil))) (c := .none) (i_ofR (v_var g3) h1) (comp_id (one_w h1) fun a ha => k_none1 (each7 (m := m + 1) h9 hT1 g1 (by obtain ⟨i, _, rfl⟩ := List.mem_map.mp ha; rfl))) (allocK (by rw [List.length_map]; show (C.map natV).length ≤ 1000; rw [List.length_map]; (first | lia | omega)))) vs_nil) (all_map (last_get _ _))
      rwa [tw_back hg.r.lt] at this
    have h2 := get_pre p2 h1
    have hT2 : TL _ r E := get_pre p2 hT1
    generalize H1 ++ [.list ((C.map natV).map fun x => AV.bool (tw E.length x))] = H2 at p2 al h2 hT2
    have p3 := pre_app H2 [.list (C.map natV)]
    have ess := sset_self (strF := strF) (sc := sc) h2 hg.r.pw (by (first | lia | omega))
    have h3 := get_pre p3 h2
    have hT3 : TL _ r E := get_pre p3 hT2
    have g3 := last_get H2 (.list (C.map natV))
    generalize H2 ++ [.list (C.map natV)] = H3 at p3 ess h3 hT3 g3
    have hne := c_neR (r := qc) (v := .ref H2.length) (H := H3)
    rw [eqOf_nats h3 g3, decide_eq_true rfl] at hne
    obtain ⟨v, H4, e4, t, rfl, ht4, hp4⟩ := Res.sat_ex (ishang_spec (strF := strF) (sc := sc) (m := m) h10 h54 hn hT3 hok h3 hcl hg.r.lt)
    obtain rfl : t = true := ht4.mpr hg.c
    exact s_skip (t_or (ot_false (t_notF (t_prim (vs_cons (v_var rfl) vs_nil) (isList_ofK (isListT h1)))) (ot_false (t_notF (al _ rfl rfl)) ot_nil)))
      (s_skip (t_or (ot_false (t_cmp (v_var rfl) (v_sset (v_var rfl) ess) hne) (ot_false (t_notF (t_call (vs_cons (v_var rfl) (vs_cons (v_var rfl) (vs_cons (v_var rfl) vs_nil))) e4)) ot_nil)))
      (s_nil ⟨⟨_, _, _, rfl, ((hp.trans p2).trans p3).trans hp4⟩, get_pre (((hp.trans p2).trans p3).trans hp4) hq⟩))
  · rintro ρ H1 ⟨x3, x4, x5, rfl, hp⟩
    have hq1 := get_pre hp hq
    have p2 := pre_app H1 [.list ((qs.drop 1).map AV.ref)]
    have es : ∀ ρ : AEnv, ρ[2]? = some (some (.ref q)) → denE strF (callF strF P sc (m + 2)) sc H.length (.slice (.var 2) (.some (.int 1)) .none) ρ H1 = .ok (.ref H1.length) (H1 ++ [.list ((qs.drop 1).map AV.ref)]) := fun ρ g2 => by
      refine v_slice (v_var g2) (o_some v_int) o_none hq1 ?_
      rw [cut_one, ← List.map_drop]
      exact allocK (by rw [List.length_map, List.length_drop]; (first | lia | omega))
    have hq2 := get_pre p2 hq1
    have hz := last_get H1 (.list ((qs.drop 1).map AV.ref))
    generalize H1 ++ [.list ((qs.drop 1).map AV.ref)] = H2 at p2 es hq2 hz
    have pp := hp.trans p2
    refine s_for2 (i_zip7 (v_var rfl) (es _ rfl) hq2 hz) (forL_w13 (StI H2 n r q) ⟨_, _, _, rfl, List.prefix_rfl⟩ ?_ ?_)
    · rintro j v ρ H3 hv ⟨x3, x4, x5, rfl, hp3⟩
      obtain ⟨a, c, ha, hc', rfl⟩ := zip_get hv
      rw [List.getElem?_map] at ha hc'
      obtain ⟨qc, hqc, rfl⟩ := Option.map_eq_some_iff.mp ha
      obtain ⟨qd, hqd, rfl⟩ := Option.map_eq_some_iff.mp hc'
      rw [List.getElem?_drop, Nat.add_comm] at hqd
      obtain ⟨C, hC, hCq⟩ := hf.get hqc
      obtain ⟨D, hD, hDq⟩ := hf.get hqd
      have hgD := hc.all D (List.mem_of_getElem? hD)
      have hDl := hgD.r.len
      have hx := (hc.steps hC hD).one (pw_nodup hgD.r.pw)
      have g1 := get_pre (pp.trans hp3) hCq
      have g2 := get_pre (pp.trans hp3) hDq
      have p4 := pre_app H3 [.list ((lack C D).map natV)]
      refine s_skip (t_cmp (v_prim (vs_cons (lacks (j := 5) (k := 4) g2 (by (first | lia | omega)) rfl g1 rfl) vs_nil) (len_list (last_get _ _))) v_int (neF (by rw [List.length_map, hx]; rfl))) (s_nil ⟨⟨_, _, _, rfl, hp3.trans p4⟩, fun w hw => ?_⟩)
      rcases List.mem_cons.mp hw with rfl | hw
      · exact get_pre (hp3.trans p4) hq2
      · rw [List.mem_singleton.mp hw]; exact get_pre (hp3.trans p4) hz
    · rintro ρ H3 ⟨x3, x4, x5, rfl, hp3⟩
      exact s_ret v_bool ⟨rfl, pp.trans hp3⟩
end
end Mine

namespace Mine
open PySem

/-! Law 13: what is no hanging. -/
noncomputable def fn_77 : FnI := ⟨1, 11, .cons (.assigns [1, 2] (.call 8 (.cons (.var 0) (.cons (.int 7) (.cons (.int 16) .nil))))) (.cons (.assign 3 (.prim .list (.cons (.var 2) .nil))) (.cons (.assign 4 (.call 6 (.cons (.var 0) (.cons (.int 30) .nil)))) (.cons (.assign 5 (.call 55 (.cons (.var 1) (.cons (.var 2) (.cons (.call 6 (.cons (.var 0) (.cons (.int 3) .nil))) .nil))))) (.cons (.assign 6 (.call 55 (.cons (.var 1) (.cons (.var 2) (.cons (.var 4) .nil))))) (.cons (.assign 7 (.idx (.list (.cons (.bin .Add (.var 5) (.list (.cons (.prim .len (.cons (.var 2) .nil)) .nil))) (.cons (.bin .Add (.slice (.var 5) .none (.some (.neg (.int 1)))) (.list (.cons (.neg (.int 1)) .nil))) (.cons (.bin .Add (.list (.cons (.int 0) .nil)) (.var 5)) (.cons (.prim .tuple (.cons (.var 5) .nil)) (.cons .none (.cons (.int 5) (.cons (.list (.cons (.bool true) .nil)) (.cons (.str "0") .nil))))))))) (.bin .Mod (.bin .FloorDiv (.var 4) (.int 97)) (.int 8)))) (.cons (.ite (.and (.cons (.cmp .Eq (.bin .Mod (.bin .FloorDiv (.var 4) (.int 776)) (.int 3)) (.int 1)) (.cons (.cmp .NotEq (.var 5) (.list .nil)) (.cons (.cmp .Lt (.idx (.var 5) (.int 0)) (.int 2)) .nil)))) (.cons (.assign 7 (.call 56 (.cons (.var 5) .nil))) .nil) .nil) (.cons (.ite (.or (.cons (.cmp .NotEq (.call 75 (.cons (.var 1) (.cons (.var 3) (.cons (.var 7) (.cons (.var 6) .nil))))) (.int 0)) (.cons (.cmp .NotEq (.call 75 (.cons (.var 1) (.cons (.var 3) (.cons (.var 6) (.cons (.var 7) .nil))))) (.int 0)) .nil))) (.cons (.ret (.bool false)) .nil) .nil) (.cons (.assign 8 (.list (.cons (.prim .list (.cons (.var 5) .nil)) (.cons (.prim .list (.cons (.var 6) .nil)) .nil)))) (.cons (.assign 9 (.call 75 (.cons (.var 1) (.cons (.var 3) (.cons (.idx (.var 8) (.int 0)) (.cons (.idx (.var 8) (.int 1)) .nil)))))) (.cons (.ite (.cmp .Lt (.prim .len (.cons (.call 10 (.cons (.var 1) (.cons (.var 2) (.cons (.int 0) .nil)))) .nil)) (.var 1)) (.cons (.ret (.and (.cons (.cmp .Eq (.var 9) (.int 0)) (.cons (.cmp .Eq (.var 3) (.var 2)) .nil)))) .nil) .nil) (.cons (.ite (.or (.cons (.not (.prim .isList (.cons (.var 9) .nil))) (.cons (.cmp .Eq (.var 9) (.list .nil)) (.cons (.cmp .NotEq (.idx (.var 9) (.int 0)) (.var 5)) (.cons (.cmp .NotEq (.idx (.var 9) (.neg (.int 1))) (.var 6)) .nil))))) (.cons (.ret (.bool false)) .nil) .nil) (.cons (.ite (.or (.cons (.cmp .NotEq (.prim .len (.cons (.var 9) .nil)) (.bin .Add (.int 1) (.prim .len (.cons (.comp1 (.var 0) (.of (.var 6)) (.some (.cmp .NotIn (.var 0) (.var 6)))) .nil)))) (.cons (.not (.call 76 (.cons (.var 1) (.cons (.var 2) (.cons (.var 9) .nil))))) .nil))) (.cons (.ret (.bool false)) .nil) .nil) (.cons (.for1 10 (.of (.var 9)) (.cons (.expr (.append (.var 10) (.int 99))) .nil)) (.cons (.ret (.and (.cons (.cmp .Eq (.var 3) (.var 2)) (.cons (.cmp .Eq (.var 8) (.list (.cons (.var 5) (.cons (.var 6) .nil)))) .nil)))) .nil))))))))))))))⟩

/-- a thing that is no hanging -/
structure Wr (H : AHeap) (n : Nat) (E : List (Nat × Nat)) (v : AV) : Prop where
  ask : Ask H v
  no : ¬ IsH H n E v
inductive WrR (H : AHeap) (n : Nat) (E : List (Nat × Nat)) (v : AV) (H' : AHeap) : Prop
  | mk (h : Wr H' n E v) (hp : H <+: H') : WrR H n E v H'
theorem Wr.mono {H H' : AHeap} {v : AV} {n : Nat} {E : List (Nat × Nat)} (h : Wr H n E v) (p : H <+: H') : Wr H' n E v := ⟨h.ask.mono p, fun i => h.no (h.ask.back p i)⟩
theorem wr_list {H : AHeap} {n q : Nat} {E : List (Nat × Nat)} {xs : List AV} (hq : H[q]? = some (.list xs)) (hx : ∀ x ∈ xs, plainV x = true) (hno : ∀ S : List Nat, xs = S.map natV → Ris E.length n S → AllC (n + 1) (pick E S) → False) : Wr H n E (.ref q) :=
  ⟨.list q xs rfl hq hx, fun ⟨q', S, hv', hq', hr', hc'⟩ => by
    cases hv'
    rw [hq] at hq'
    injection hq' with hq'
    injection hq' with hq'
    exact hno S hq' hr' hc'⟩
theorem wr_other {H : AHeap} {n : Nat} {E : List (Nat × Nat)} {v : AV} (h : isListK v H = some false) (hn : ∀ q, v ≠ .ref q) : Wr H n E v :=
  ⟨.other h fun q xs e => absurd e (hn q), fun ⟨q', S, hv', hq', hr', hc'⟩ => hn q' hv'⟩
theorem plain_nats {A : List Nat} : ∀ x ∈ A.map natV, plainV x = true := fun x hx => by obtain ⟨i, _, rfl⟩ := List.mem_map.mp hx; rfl
theorem pick_all {n : Nat} {E : List (Nat × Nat)} {S : List Nat} (hl : ∀ i ∈ S, i < E.length) (h : AllC (n + 1) (pick E S)) : AllC (n + 1) E := fun p q hp hq => (h p q hp hq).mono fun e he => by
  obtain ⟨i, hi, rfl⟩ := pick_mem he
  refine .tie ?_
  unfold ed
  rw [List.getD_eq_getElem?_getD, List.getElem?_eq_getElem (hl i hi)]
  exact List.getElem_mem _

section
variable {strF : SrtF} {sc : List Int} {P : Nat → Option FnI} {H H0 H1 H2 H3 : AHeap} {n m b : Nat} {ρ : AEnv} {cf : Nat → List AV → AHeap → Res AV} {N : AEnv → AHeap → Prop} {R : AV → AHeap → Prop} {K K' : AV → AHeap → Prop} {x y : PE} {es : PEs} {ss : PSs} {v w : AV} {vs : List AV} {A B C : List Nat} {E : List (Nat × Nat)} {r qa qb : Nat}

theorem add_lists {p q : Nat} {xs ys : List AV} (h1 : H[p]? = some (.list xs)) (h2 : H[q]? = some (.list ys)) (hl : xs.length + ys.length ≤ 1000) : binop .Add (.ref p) (.ref q) H = .ok (.ref H.length) (H ++ [.list (xs ++ ys)]) := by
  rw [b_addL, h1, h2]
  exact allocK (by rw [List.length_append]; exact hl)
theorem int_nats {S : List Nat} {i : Int} (h : AV.int i ∈ S.map natV) : ∃ j ∈ S, i = (j : Int) := by
  obtain ⟨j, hj, e⟩ := List.mem_map.mp h
  have e : AV.int (j : Int) = AV.int i := e
  injection e with e
  exact ⟨j, hj, e.symm⟩
section
variable (hT : TL H r E) (hl : E.length ≤ 16) (ho : H[qa]? = some (.list (A.map natV))) (hal : A.length ≤ 7) (g2 : ρ[2]? = some (some (.ref r))) (g5 : ρ[5]? = some (some (.ref qa)))
include hT hl ho hal g2 g5
theorem wrong0 : (denE strF cf sc b (.bin .Add (.var 5) (.list (.cons (.prim .len (.cons (.var 2) .nil)) .nil))) ρ H).sat (WrR H n E) := by
  have p1 := pre_app H [.list [AV.int E.length]]
  refine sat_okE (v_bin (v_var g5) (v_list (vs_cons (v_prim (vs_cons (v_var g2) vs_nil) (len_ties hT)) vs_nil) (allocK (Nat.le_of_ble_eq_true rfl))) (add_lists (get_pre p1 ho) (last_get _ _) (by rw [List.length_map]; show A.length + 1 ≤ 1000; (first | lia | omega)))) ⟨wr_list (last_get _ _) (fun x hx => ?_) fun S e hr hc => ?_, p1.trans (pre_app _ _)⟩
  · rcases List.mem_append.mp hx with hx | hx
    · exact plain_nats x hx
    · rw [List.mem_singleton.mp hx]; rfl
  · obtain ⟨j, hj, e'⟩ := int_nats (S := S) (i := (E.length : Int)) (by rw [← e]; simp)
    have := hr.lt j hj
    (first | lia | omega)
theorem wrong1 : (denE strF cf sc b (.bin .Add (.slice (.var 5) .none (.some (.neg (.int 1)))) (.list (.cons (.neg (.int 1)) .nil))) ρ H).sat (WrR H n E) := by
  have hcl : (cut (A.map natV) none (some (-1))).length ≤ 7 := Nat.le_trans cut_len (by rw [List.length_map]; exact hal)
  have p1 := pre_app H [.list (cut (A.map natV) none (some (-1)))]
  have p2 := pre_app (H ++ [.list (cut (A.map natV) none (some (-1)))]) [.list [AV.int (-1)]]
  refine sat_okE (v_bin (v_slice (v_var g5) o_none (o_some (v_neg v_int)) ho (allocK (by (first | lia | omega)))) (v_list (vs_cons (v_neg v_int) vs_nil) (allocK (Nat.le_of_ble_eq_true rfl))) (add_lists (get_pre p2 (last_get _ _)) (last_get _ _) (by show _ + 1 ≤ 1000; (first | lia | omega)))) ⟨wr_list (last_get _ _) (fun x hx => ?_) fun S e hr hc => ?_, (p1.trans p2).trans (pre_app _ _)⟩
  · rcases List.mem_append.mp hx with hx | hx
    · exact plain_nats x (cut_mem hx)
    · rw [List.mem_singleton.mp hx]; rfl
  · obtain ⟨j, hj, e'⟩ := int_nats (S := S) (i := -1) (by rw [← e]; exact List.mem_append_right _ (List.mem_singleton.mpr rfl))
    (first | lia | omega)
theorem wrong2 (all : AllC (n + 1) E → Hg n E A) : (denE strF cf sc b (.bin .Add (.list (.cons (.int 0) .nil)) (.var 5)) ρ H).sat (WrR H n E) := by
  have p1 := pre_app H [.list [AV.int 0]]
  refine sat_okE (v_bin (v_list (vs_cons v_int vs_nil) (allocK (Nat.le_of_ble_eq_true rfl))) (v_var g5) (add_lists (last_get _ _) (get_pre p1 ho) (by rw [List.length_map]; show 1 + A.length ≤ 1000; (first | lia | omega)))) ⟨wr_list (last_get _ _) (fun x hx => ?_) fun S e hr hc => ?_, p1.trans (pre_app _ _)⟩
  · rcases List.mem_append.mp hx with hx | hx
    · rw [List.mem_singleton.mp hx]; rfl
    · exact plain_nats x hx
  · have e1 : S = 0 :: A := natV_inj (F := S) (G := 0 :: A) (e.symm.trans rfl)
    have h1 := (all (pick_all hr.lt hc)).r.len
    have h2 := hr.len
    rw [e1, List.length_cons] at h2
    (first | lia | omega)
/-- one of the eight -/
theorem wrong13 {c : Int} (all : AllC (n + 1) E → Hg n E A) (g4 : ρ[4]? = some (some (.int c))) :
    (denE strF cf sc b (.idx (.list (.cons (.bin .Add (.var 5) (.list (.cons (.prim .len (.cons (.var 2) .nil)) .nil))) (.cons (.bin .Add (.slice (.var 5) .none (.some (.neg (.int 1)))) (.list (.cons (.neg (.int 1)) .nil))) (.cons (.bin .Add (.list (.cons (.int 0) .nil)) (.var 5)) (.cons (.prim .tuple (.cons (.var 5) .nil)) (.cons .none (.cons (.int 5) (.cons (.list (.cons (.bool true) .nil)) (.cons (.str "0") .nil))))))))) (.bin .Mod (.bin .FloorDiv (.var 4) (.int 97)) (.int 8))) ρ H).sat (WrR H n E) := by
  obtain ⟨j, ej, hj⟩ := fmod_nat (c := c.fdiv 97) (n := 8) (by decide)
  obtain ⟨v0, H1, e1, w0, p1⟩ := Res.sat_ex (wrong0 (strF := strF) (cf := cf) (sc := sc) (b := b) (n := n) hT hl ho hal g2 g5)
  obtain ⟨v1, H2, e2, w1, p2⟩ := Res.sat_ex (wrong1 (strF := strF) (cf := cf) (sc := sc) (b := b) (n := n) (get_pre p1 hT) hl (get_pre p1 ho) hal g2 g5)
  obtain ⟨v2, H3, e3, w2, p3⟩ := Res.sat_ex (wrong2 (strF := strF) (cf := cf) (sc := sc) (b := b) (n := n) (get_pre (p1.trans p2) hT) hl (get_pre (p1.trans p2) ho) hal g2 g5 all)
  have etup : prim strF sc .tuple [.ref qa] H3 = .ok (.tup (A.map natV)) H3 := by rw [p_tuple, i_ref, get_pre ((p1.trans p2).trans p3) ho]
  have p4 := pre_app H3 [.list [AV.bool true]]
  have p5 := pre_app (H3 ++ [.list [AV.bool true]]) [.list [v0, v1, v2, .tup (A.map natV), .none, .int 5, .ref H3.length, .str "0"]]
  obtain ⟨u, hu, hw⟩ : ∃ u, [v0, v1, v2, AV.tup (A.map natV), .none, .int 5, .ref H3.length, .str "0"][j]? = some u ∧ Wr ((H3 ++ [.list [AV.bool true]]) ++ [.list [v0, v1, v2, .tup (A.map natV), .none, .int 5, .ref H3.length, .str "0"]]) n E u := by
    match j, hj with
    | 0, _ => exact ⟨_, rfl, w0.mono (((p2.trans p3).trans p4).trans p5)⟩
    | 1, _ => exact ⟨_, rfl, w1.mono ((p3.trans p4).trans p5)⟩
    | 2, _ => exact ⟨_, rfl, w2.mono (p4.trans p5)⟩
    | 3, _ => exact ⟨_, rfl, wr_other rfl fun q e => by cases e⟩
    | 4, _ => exact ⟨_, rfl, wr_other rfl fun q e => by cases e⟩
    | 5, _ => exact ⟨_, rfl, wr_other rfl fun q e => by cases e⟩
    | 6, _ =>
      refine ⟨_, rfl, wr_list (get_pre p5 (last_get _ _)) (fun x hx => by rw [List.mem_singleton.mp hx]; rfl) fun S e _ _ => ?_⟩
      cases S with
      | nil => cases e
      | cons a S => cases e
    | 7, _ => exact ⟨_, rfl, wr_other rfl fun q e => by cases e⟩
  exact sat_okE (v_idx (v_list (vs_cons e1 (vs_cons e2 (vs_cons e3 (vs_cons (v_prim (vs_cons (v_var g5) vs_nil) etup) (vs_cons v_none (vs_cons v_int (vs_cons (v_list (vs_cons v_bool vs_nil) (allocK (Nat.le_of_ble_eq_true rfl))) (vs_cons v_str vs_nil)))))))) (allocK (Nat.le_of_ble_eq_true rfl)))
    (v_bin (v_bin (v_var g4) v_int (divB (by decide) (by decide))) v_int (modN (n := 8) rfl ej (by decide))) (item_ref (last_get _ _) hu)) ⟨hw, (((p1.trans p2).trans p3).trans p4).trans p5⟩
end

/-- truths for 0 and 1 -/
noncomputable def tv : Nat → AV
  | 0 => .bool false
  | 1 => .bool true
  | i + 2 => natV (i + 2)
theorem tv_plain {i : Nat} : plainV (tv i) = true := match i with
  | 0 => rfl
  | 1 => rfl
  | _ + 2 => rfl
inductive TruI (H0 : AHeap) (r : Nat) (F : List Nat) (k : Nat) (ρ : AEnv) (H : AHeap) : Prop
  | mk (x2 : Option AV) (hρ : ρ = [some (.ref r), some (.ref H0.length), x2]) (hr : H[H0.length]? = some (.list ((F.take k).map tv))) (hp : H0 <+: H) : TruI H0 r F k ρ H
inductive TruR (H0 : AHeap) (F : List Nat) (v : AV) (H : AHeap) : Prop
  | mk (q : Nat) (hv : v = .ref q) (hq : H[q]? = some (.list (F.map tv))) (hp : H0 <+: H) : TruR H0 F v H
theorem truths13 (h56 : P 56 = some fn_56) {F : List Nat} (hr : H[r]? = some (.list (F.map natV))) (hl : F.length ≤ 100) : (callF strF P sc (m + 1) 56 [.ref r] H).sat (TruR H F) := by
  refine s_call h56 rfl (s_assign (v_list vs_nil (allocK (Nat.le_of_ble_eq_true rfl))) (s_for1 (i_ofR (v_var rfl) (get_pre (pre_app _ _) hr)) (forL_list (TruI H r F) ⟨_, rfl, last_get _ _, pre_app _ _⟩ ?_ ?_)))
  · rintro j v ρ H1 hv ⟨x2, rfl, hr1, hp1⟩
    rw [List.getElem?_map] at hv
    obtain ⟨i, hi, rfl⟩ := Option.map_eq_some_iff.mp hv
    have hj : j < F.length := (List.getElem?_eq_some_iff.mp hi).1
    have pt := pre_app H1 [AObj.list [.bool false, .bool true, natV i]]
    have hu : [AV.bool false, .bool true, natV i][min i 2]? = some (tv i) := by
      match i with
      | 0 => rfl
      | 1 => rfl
      | i + 2 => rw [show min (i + 2) 2 = 2 by (first | lia | omega)]; rfl
    have emin : prim strF sc .min2 [natV i, .int 2] (H1 ++ [AObj.list [.bool false, .bool true, natV i]]) = .ok (.int (min i 2 : Nat)) (H1 ++ [AObj.list [.bool false, .bool true, natV i]]) := by
      rw [show prim strF sc .min2 [natV i, .int 2] (H1 ++ [AObj.list [.bool false, .bool true, natV i]]) = .ok (.int (min (i : Int) 2)) (H1 ++ [AObj.list [.bool false, .bool true, natV i]]) from rfl]
      congr 2; (first | lia | omega)
    have hr2 := get_pre pt hr1
    have hlen : ((F.take j).map tv).length = j := by rw [List.length_map, List.length_take]; (first | lia | omega)
    have ea : appendTo H.length (.ref H.length) (tv i) (H1 ++ [AObj.list [.bool false, .bool true, natV i]]) = .ok .none ((H1 ++ [AObj.list [.bool false, .bool true, natV i]]).set H.length (.list ((F.take j).map tv ++ [tv i]))) := by
      unfold appendTo
      simp only [hr2]
      rw [if_pos ⟨Nat.le_refl _, Nat.lt_of_lt_of_le (show ((F.take j).map tv).length < 1000 by (first | lia | omega)) (by decide)⟩]
    refine s_expr (v_append (v_var rfl) (isL_of hr1) (v_idx (v_list (vs_cons v_bool (vs_cons v_bool (vs_cons (v_var rfl) vs_nil))) (allocK (Nat.le_of_ble_eq_true rfl))) (v_prim (vs_cons (v_var rfl) (vs_cons v_int vs_nil)) emin) (item_ref (last_get _ _) hu)) ea)
      (s_nil ⟨⟨_, rfl, ?_, prefix_set (hp1.trans pt) (Nat.le_refl _)⟩, get_pre (prefix_set (hp1.trans pt) (Nat.le_refl _)) hr⟩)
    rw [set_top ⟨_, hr2⟩, List.take_add_one, hi, List.map_append]; rfl
  · rintro ρ H1 ⟨x2, rfl, hr1, hp1⟩
    rw [List.length_map, List.take_length] at hr1
    exact s_ret (v_var rfl) ⟨_, rfl, hr1, hp1⟩
theorem tru_wrong {F : List Nat} {a q : Nat} (ha : a < 2) (hF : F[0]? = some a) (hq : H[q]? = some (.list (F.map tv))) : Wr H n E (.ref q) := by
  refine wr_list hq (fun x hx => by obtain ⟨i, _, rfl⟩ := List.mem_map.mp hx; exact tv_plain) fun S e _ _ => ?_
  have e0 : (F.map tv)[0]? = some (tv a) := by rw [List.getElem?_map, hF]; rfl
  rw [e, List.getElem?_map] at e0
  obtain ⟨i, _, e1⟩ := Option.map_eq_some_iff.mp e0
  match a, ha with
  | 0, _ => cases e1
  | 1, _ => cases e1
end
end Mine

namespace Mine
open PySem

/-! Law 13. -/
structure Defs13 (P : Nat → Option FnI) : Prop where
  h0 : P 0 = some fn_0
  h1 : P 1 = some fn_1
  h2 : P 2 = some fn_2
  h5 : P 5 = some fn_5
  h6 : P 6 = some fn_6
  h7 : P 7 = some fn_7
  h8 : P 8 = some fn_8
  h9 : P 9 = some fn_9
  h10 : P 10 = some fn_10
  h25 : P 25 = some fn_25
  h34 : P 34 = some fn_34
  h35 : P 35 = some fn_35
  h54 : P 54 = some fn_54
  h55 : P 55 = some fn_55
  h56 : P 56 = some fn_56
  h62 : P 62 = some fn_62
  h75 : P 75 = some fn_75
  h76 : P 76 = some fn_76
  h77 : P 77 = some fn_77
theorem Defs13.to35 {P : Nat → Option FnI} (D : Defs13 P) : Defs35 P := ⟨D.h0, D.h1, D.h2, D.h25, D.h34, D.h35, D.h62, D.h75⟩

noncomputable def natsD (F : List Nat) : PyData := .list (F.map fun (p : Nat) => PyData.int p)
theorem rd_refs13 {H : AHeap} {d : Nat} {qs : List Nat} {Ss : List (List Nat)} (f : Fa H qs Ss) : (qs.map AV.ref).mapM (rd H (d + 1)) = some (Ss.map natsD) := by
  induction f with
  | nil => rfl
  | cons h _ ih => rw [List.map_cons, List.mapM_cons, rd_nats h, ih]; rfl
theorem rd_lists13 {H : AHeap} {r d : Nat} {qs : List Nat} {Ss : List (List Nat)} (hr : H[r]? = some (.list (qs.map .ref))) (f : Fa H qs Ss) : rd H (d + 2) (.ref r) = some (.list (Ss.map natsD)) := by
  show (match H[r]? with
      | some (.list xs) => (xs.mapM (rd H (d + 1))).map PyData.list
      | _ => none) = _
  rw [hr]
  show ((qs.map AV.ref).mapM (rd H (d + 1))).map PyData.list = _
  rw [rd_refs13 f]; rfl
theorem eqvAll_lists13 : ∀ (Ss : List (List Nat)), PyData.eqvAll (Ss.map natsD) (Ss.map natsD) = true
  | [] => rfl
  | S :: Ss => by
    have h : PyData.eqv (natsD S) (natsD S) = true := by
      show PyData.eqvAll (S.map fun (p : Nat) => PyData.int p) (S.map fun (p : Nat) => PyData.int p) = true
      rw [eqvAll_nats]; exact decide_eq_true rfl
    show (PyData.eqv (natsD S) (natsD S) && PyData.eqvAll (Ss.map natsD) (Ss.map natsD)) = true
    rw [h, eqvAll_lists13 Ss]; rfl
theorem eqOf_lists13 {H : AHeap} {r q : Nat} {qs ps : List Nat} {Ss : List (List Nat)} (hr : H[r]? = some (.list (qs.map .ref))) (h : Fa H qs Ss) (hq : H[q]? = some (.list (ps.map .ref))) (h' : Fa H ps Ss) : eqOf (.ref r) (.ref q) H = some true := by
  unfold eqOf
  rw [rd_lists13 (d := 6) hr h, rd_lists13 (d := 6) hq h']
  show some (PyData.eqvAll (Ss.map natsD) (Ss.map natsD)) = _
  rw [eqvAll_lists13]
theorem eqOf_none13 {H : AHeap} {r q : Nat} {qs : List Nat} {S : List Nat} {Ss : List (List Nat)} (hr : H[r]? = some (.list (qs.map .ref))) (h : Fa H qs (S :: Ss)) (hq : H[q]? = some (.list [])) : eqOf (.ref r) (.ref q) H = some false := by
  unfold eqOf
  rw [rd_lists13 (d := 6) hr h, rd_nats (d := 7) (F := []) hq]
  rfl

section
variable {strF : SrtF} {sc : List Int} {P : Nat → Option FnI} {H H0 H1 H2 H3 : AHeap} {n m b : Nat} {ρ : AEnv} {cf : Nat → List AV → AHeap → Res AV} {N : AEnv → AHeap → Prop} {R : AV → AHeap → Prop} {K K' : AV → AHeap → Prop} {x y : PE} {es : PEs} {ss tt : PSs} {v w : AV} {vs : List AV} {A B C : List Nat} {E : List (Nat × Nat)} {r rh qo qp : Nat}

theorem s_join {J : AEnv → AHeap → Prop} (h : (denSs strF cf sc b (.cons (.ite x tt .nil) .nil) ρ H).sat J fun _ _ => False) (k : ∀ ρ' H', J ρ' H' → (denSs strF cf sc b ss ρ' H').sat N R) : (denSs strF cf sc b (.cons (.ite x tt .nil) ss) ρ H).sat N R := by
  rw [sat_cons] at h ⊢
  exact SR.sat_mono h (fun ρ' H' q => k ρ' H' q) fun _ _ q => q.elim
inductive JnI (H0 : AHeap) (n r rh : Nat) (c : Int) (qo qp : Nat) (E : List (Nat × Nat)) (ρ : AEnv) (H : AHeap) : Prop
  | mk (w : AV) (hρ : ρ = [some .scr, some (.int (n + 1 : Nat)), some (.ref r), some (.ref rh), some (.int c), some (.ref qo), some (.ref qp), some w, none, none, none]) (hp : H0 <+: H) (hw : Wr H n E w) : JnI H0 n r rh c qo qp E ρ H
/-- places that hang together with the first -/
theorem reach_len {F : List Nat} (nd : F.Nodup) (lt : ∀ p ∈ F, p < n + 1) (hF : ∀ p, p < n + 1 → (p ∈ F ↔ Conn E 0 p)) : F.length < n + 1 ↔ ¬ AllC (n + 1) E := by
  have h2 := nodup_len nd lt
  constructor
  · intro h all
    have : n + 1 ≤ F.length := full_len fun p hp => (hF p hp).mpr (all 0 p (by (first | lia | omega)) hp)
    (first | lia | omega)
  · intro no
    refine Nat.lt_of_le_of_ne h2 fun e => no ?_
    have f := nodup_full nd e lt
    intro x y hx hy
    exact (((hF x hx).mp (f x hx)).symm).trans ((hF y hy).mp (f y hy))
inductive ApI (Hb : AHeap) (q : Nat) (qs : List Nat) (x1 x2 x3 x4 x5 x6 x7 x8 : Option AV) (k : Nat) (ρ : AEnv) (H : AHeap) : Prop
  | mk (x10 : Option AV) (hρ : ρ = [some .scr, x1, x2, x3, x4, x5, x6, x7, x8, some (.ref q), x10]) (hp : Hb <+: H) (hq : H[q]? = some (.list (qs.map .ref))) (hx : ∀ y ∈ qs, ∃ xs : List AV, H[y]? = some (.list xs) ∧ xs.length ≤ 100 + k) : ApI Hb q qs x1 x2 x3 x4 x5 x6 x7 x8 k ρ H
theorem ap_turn {Hb : AHeap} {q k y : Nat} {qs : List Nat} {x1 x2 x3 x4 x5 x6 x7 x8 : Option AV} (hk : k ≤ 100) (hy : qs[k]? = some y) (hqs : ∀ x ∈ qs, q ≠ x ∧ Hb.length ≤ x) (I : ApI Hb q qs x1 x2 x3 x4 x5 x6 x7 x8 k ρ H) :
    (denSs strF cf sc 0 (.cons (.expr (.append (.var 10) (.int 99))) .nil) (ρ.set 10 (some (.ref y))) H).sat (fun ρ H => ApI Hb q qs x1 x2 x3 x4 x5 x6 x7 x8 (k + 1) ρ H ∧ H[q]? = some (.list (qs.map .ref))) R := by
  obtain ⟨x10, rfl, hp, hq, hx⟩ := I
  have hm := List.mem_of_getElem? hy
  obtain ⟨xs, e, hl⟩ := hx y hm
  obtain ⟨n1, n2⟩ := hqs y hm
  have ea : appendTo 0 (.ref y) (.int 99) H = .ok .none (H.set y (.list (xs ++ [.int 99]))) := by
    unfold appendTo
    simp only [e]
    rw [if_pos ⟨Nat.zero_le _, Nat.lt_of_lt_of_le (show xs.length < 1000 by (first | lia | omega)) (by decide)⟩]
  have hq' : (H.set y (.list (xs ++ [.int 99])))[q]? = some (.list (qs.map .ref)) := set_other hq (Ne.symm n1)
  refine s_expr (v_append (v_var rfl) (isL_of e) v_int ea) (s_nil ⟨⟨_, rfl, prefix_set hp n2, hq', fun z hz => ?_⟩, hq'⟩)
  by_cases h : y = z
  · subst h
    exact ⟨_, set_top ⟨_, e⟩, by rw [List.length_append, List.length_singleton]; (first | lia | omega)⟩
  · obtain ⟨zs, e2, hl2⟩ := hx z hz
    exact ⟨zs, set_other e2 h, by (first | lia | omega)⟩

theorem law13 (hs : Shuf strF) (D : Defs13 P) : (callF strF P sc (m + 6) 77 [.scr] []).sat fun v _ => v = .bool true := by
  obtain ⟨v, H1, e1, n', r, E, rfl, hT1, hp1, hg1, hl, hok, h1, h2⟩ := Res.sat_ex (net_new (strF := strF) (sc := sc) (P := P) (H := []) (m := m + 1) (most := 7) (room := 16) D.h5 D.h6 D.h7 D.h8 (by decide) (by decide) (by decide) (by decide))
  obtain ⟨n, rfl⟩ : ∃ n, n' = n + 1 := ⟨n' - 1, by (first | lia | omega)⟩
  have tl := listP (strF := strF) (sc := sc) hT1 (by rw [List.length_map]; (first | lia | omega))
  have p2 := pre_app H1 [.list (E.map tieV)]
  have hh2 := last_get H1 (.list (E.map tieV))
  have hT2 : TL _ r E := get_pre p2 hT1
  generalize H1 ++ [.list (E.map tieV)] = H2 at tl p2 hh2 hT2
  generalize H1.length = rh at tl hh2
  have m30 := mix_spec (strF := strF) (sc := sc) (P := P) (H := H2) (n := m + 3) D.h5 D.h6 (k := 30) (by decide)
  have m3 := mix_spec (strF := strF) (sc := sc) (P := P) (H := H2) (n := m + 3) D.h5 D.h6 (k := 3) (by decide)
  obtain ⟨v, H3, e3, qo, A, rfl, ho3, hp3, hgo, pwA, ltA, lenA, allA⟩ := Res.sat_ex (grown13 (strF := strF) (sc := sc) (m := m + 3) (c := mix sc 3) hs D.h10 D.h55 h2 hT2 hl hok)
  have hT3 : TL H3 r E := get_pre hp3 hT2
  obtain ⟨v, H4, e4, qp, B, rfl, hq4, hp4, hgp, pwB, ltB, lenB, allB⟩ := Res.sat_ex (grown13 (strF := strF) (sc := sc) (m := m + 3) (c := mix sc 30) hs D.h10 D.h55 h2 hT3 hl hok)
  have hT4 : TL H4 r E := get_pre hp4 hT3
  have hh4 : TL H4 rh E := get_pre (hp3.trans hp4) hh2
  have ho4 := get_pre hp4 ho3
  generalize hc : mix sc 30 = c at m30 e4
  obtain ⟨w, H5, e5, hw, hp5⟩ := Res.sat_ex (wrong13 (strF := strF) (cf := callF strF P sc (m + 5)) (sc := sc) (b := 0) (n := n) (c := c) (ρ := [some .scr, some (.int (n + 1 : Nat)), some (.ref r), some (.ref rh), some (.int c), some (.ref qo), some (.ref qp), none, none, none, none]) hT4 hl ho4 (by (first | lia | omega)) rfl rfl allA rfl)
  refine s_call D.h77 rfl (s_assigns (v_call (vs_cons (v_var rfl) (vs_cons v_int (vs_cons v_int vs_nil))) e1) rfl (s_assign (v_prim (vs_cons (v_var rfl) vs_nil) tl) (s_assign (v_call (vs_cons (v_var rfl) (vs_cons v_int vs_nil)) m30)
    (s_assign (v_call (vs_cons (v_var rfl) (vs_cons (v_var rfl) (vs_cons (v_call (vs_cons (v_var rfl) (vs_cons v_int vs_nil)) m3) vs_nil))) e3) (s_assign (v_call (vs_cons (v_var rfl) (vs_cons (v_var rfl) (vs_cons (v_var rfl) vs_nil))) e4) (s_assign e5 (s_join (J := JnI H5 n r rh c qo qp E) ?_ ?_)))))))
  · have ho5 := get_pre hp5 ho4
    have pn := pre_app H5 [.list []]
    obtain ⟨t, et, ht⟩ := fmod_nat (c := c.fdiv 776) (n := 3) (by decide)
    have c1 : ∀ {ρ : AEnv} {H : AHeap}, ρ[4]? = some (some (.int c)) → denE strF (callF strF P sc (m + 5)) sc 0 (.bin .Mod (.bin .FloorDiv (.var 4) (.int 776)) (.int 3)) ρ H = .ok (.int t) H := fun g4 => v_bin (v_bin (v_var g4) v_int (divB (by decide) (by decide))) v_int (modN (n := 3) rfl et (by decide))
    have hne := c_neR (r := qo) (v := .ref H5.length) (H := H5 ++ [.list []])
    rw [eqOf_nats (G := []) (get_pre pn ho5) (last_get _ _)] at hne
    by_cases ht1 : t = 1
    · cases A with
      | nil =>
        rw [decide_eq_true rfl] at hne
        exact s_skip (t_and (at_true (t_cmp (c1 rfl) v_int (eqT (by (first | lia | omega)))) (at_false (t_cmp (v_var rfl) (v_list vs_nil (allocK (Nat.le_of_ble_eq_true rfl))) hne)))) (s_nil ⟨w, rfl, pn, hw.mono pn⟩)
      | cons a A =>
        rw [decide_eq_false (by simp)] at hne
        have it := item_ref (sc := sc) (k := 0) (x := natV a) (get_pre pn ho5) rfl
        by_cases ha : a < 2
        · obtain ⟨u, H6, e6, q6, rfl, hq6, hp6⟩ := Res.sat_ex (truths13 (strF := strF) (sc := sc) (m := m + 4) D.h56 (get_pre pn ho5) (by (first | lia | omega)))
          exact s_iteT (t_and (at_true (t_cmp (c1 rfl) v_int (eqT (by (first | lia | omega)))) (at_true (t_cmp (v_var rfl) (v_list vs_nil (allocK (Nat.le_of_ble_eq_true rfl))) hne) (at_true (t_cmp (v_idx (v_var rfl) v_int it) v_int (ltT (by (first | lia | omega)))) at_nil))))
            (s_assign (v_call (vs_cons (v_var rfl) vs_nil) e6) (s_nil (s_nil ⟨.ref q6, rfl, pn.trans hp6, tru_wrong ha rfl hq6⟩)))
        · exact s_skip (t_and (at_true (t_cmp (c1 rfl) v_int (eqT (by (first | lia | omega)))) (at_true (t_cmp (v_var rfl) (v_list vs_nil (allocK (Nat.le_of_ble_eq_true rfl))) hne) (at_false (t_cmp (v_idx (v_var rfl) v_int it) v_int (ltF (by (first | lia | omega)))))))) (s_nil ⟨w, rfl, pn, hw.mono pn⟩)
    · exact s_skip (t_and (at_false (t_cmp (c1 rfl) v_int (eqF (by (first | lia | omega)))))) (s_nil ⟨w, rfl, List.prefix_rfl, hw⟩)
  · rintro ρ H6 ⟨w, rfl, hp6, hw⟩
    have p46 := hp5.trans hp6
    have hT6 : TL H6 r E := get_pre p46 hT4
    have hh6 : TL H6 rh E := get_pre p46 hh4
    have ho6 := get_pre p46 ho4
    have hq6 := get_pre p46 hq4
    obtain ⟨u, H7, e7, rfl, hp7⟩ := Res.sat_ex (told13_bad (strF := strF) (sc := sc) (m := m) D.to35 h2 hh6 hl hok hw.ask (ask_nats hq6) fun i => hw.no i.1)
    obtain ⟨u, H8, e8, rfl, hp8⟩ := Res.sat_ex (told13_bad (strF := strF) (sc := sc) (m := m) D.to35 h2 (get_pre hp7 hh6) hl hok (ask_nats (get_pre hp7 hq6)) (hw.ask.mono hp7) fun i => (hw.mono hp7).no i.2)
    have p68 := hp7.trans hp8
    have la := listP (strF := strF) (sc := sc) (get_pre p68 ho6) (by rw [List.length_map]; (first | lia | omega))
    have pa := pre_app H8 [.list (A.map natV)]
    have lb := listP (strF := strF) (sc := sc) (get_pre (p68.trans pa) hq6) (by rw [List.length_map]; (first | lia | omega))
    have pb := pre_app (H8 ++ [.list (A.map natV)]) [.list (B.map natV)]
    have ga : (H8 ++ [.list (A.map natV)])[H8.length]? = some (.list (A.map natV)) := last_get _ _
    have gb := last_get (H8 ++ [.list (A.map natV)]) (.list (B.map natV))
    generalize hka : H8.length = ka at la ga lb
    generalize hkb : (H8 ++ [AObj.list (A.map natV)]).length = kb at gb lb
    have pk := pre_app ((H8 ++ [AObj.list (A.map natV)]) ++ [.list (B.map natV)]) [.list [AV.ref ka, .ref kb]]
    have gk := last_get ((H8 ++ [AObj.list (A.map natV)]) ++ [.list (B.map natV)]) (.list [AV.ref ka, .ref kb])
    have p8k := (pa.trans pb).trans pk
    have ga9 := get_pre (pb.trans pk) ga
    have gb9 := get_pre pk gb
    refine s_skip (t_or (ot_false (t_cmp (v_call (vs_cons (v_var rfl) (vs_cons (v_var rfl) (vs_cons (v_var rfl) (vs_cons (v_var rfl) vs_nil)))) e7) v_int (neF rfl)) (ot_false (t_cmp (v_call (vs_cons (v_var rfl) (vs_cons (v_var rfl) (vs_cons (v_var rfl) (vs_cons (v_var rfl) vs_nil)))) e8) v_int (neF rfl)) ot_nil)))
      (s_assign (v_list (vs_cons (v_prim (vs_cons (v_var rfl) vs_nil) la) (vs_cons (v_prim (vs_cons (v_var rfl) vs_nil) lb) vs_nil)) (allocK (Nat.le_of_ble_eq_true rfl))) ?_)
    generalize hkk : ((H8 ++ [AObj.list (A.map natV)]) ++ [AObj.list (B.map natV)]).length = kk at gk
    generalize ((H8 ++ [AObj.list (A.map natV)]) ++ [AObj.list (B.map natV)]) ++ [.list [AV.ref ka, .ref kb]] = H9 at p8k gk ga9 gb9
    have p9 := p68.trans p8k
    have hT9 : TL H9 r E := get_pre p9 hT6
    have hh9 : TL H9 rh E := get_pre p9 hh6
    have ho9 := get_pre p9 ho6
    have hq9 := get_pre p9 hq6
    have i0 := item_ref (sc := sc) (k := 0) (x := .ref ka) gk rfl
    have i1 := item_ref (sc := sc) (k := 1) (x := .ref kb) gk rfl
    have heqT : ∀ {Hx : AHeap}, H9 <+: Hx → cmpop .Eq (.ref rh) (.ref r) Hx = some true := fun p => by rw [c_eqR]; exact eqOf_ties (get_pre p hh9) (get_pre p hT9)
    by_cases all : AllC (n + 1) E
    · have hA := allA all
      have hB := allB all
      obtain ⟨u, HA, eA, k, q, qs, Cs, rfl, hqA, hfA, hpA, hgeA, hqsA, hch⟩ := Res.sat_ex (told13_ok (strF := strF) (sc := sc) (m := m) D.to35 h2 hh9 hl hok ga9 gb9 hA hB)
      have hleft := hch.left
      rw [lack_self] at hleft
      have hleft : k = (lack A B).length := by rw [← hleft]; simp
      have hk7 : k ≤ 7 := by rw [hleft]; exact Nat.le_trans (List.length_filter_le ..) (by (first | lia | omega))
      have hql : qs.length = k + 1 := hfA.length.trans hch.len
      obtain ⟨u, HB, eB, rB, F, rfl, hrB, hpB, hgeB, nd, lt, hF⟩ := Res.sat_ex (reach_spec (strF := strF) (sc := sc) (m := m + 4) (s := 0) D.h10 h2 (get_pre hpA hT9) hok (by (first | lia | omega)))
      have hnl : ¬ F.length < n + 1 := fun q => (reach_len nd lt hF).mp q all
      have pAB := hpB
      have hqB := get_pre hpB hqA
      have hfB := hfA.grow hpB
      have pn := pre_app HB [.list []]
      obtain ⟨S0, SS, hCs⟩ : ∃ S0 SS, Cs = S0 :: SS := by
        cases Cs with
        | nil => cases hch.first
        | cons S0 SS => exact ⟨S0, SS, rfl⟩
      have hnil := eqOf_none13 (get_pre pn hqB) (hCs ▸ hfB.grow pn) (last_get HB (.list []))
      have hqC := get_pre pn hqB
      have hfC := hfB.grow pn
      have p9C := (hpA.trans hpB).trans pn
      generalize hHC : HB ++ [AObj.list []] = HC at pn hqC hfC p9C hnil
      obtain ⟨q0, hq0, hl0⟩ := hfC.at hch.first
      obtain ⟨qk, hqk, hlk⟩ := hfC.at hch.last
      have it0 := item_ref (sc := sc) (k := 0) (x := .ref q0) hqC (by rw [List.getElem?_map, hq0]; rfl)
      have itk := item_end (sc := sc) (x := .ref qk) hqC (by rw [List.length_map]; exact hql) (by rw [List.getElem?_map, hqk]; rfl)
      have ne0 := c_neR (r := q0) (v := .ref qo) (H := HC)
      rw [eqOf_nats hl0 (get_pre p9C ho9), decide_eq_true rfl] at ne0
      have nek := c_neR (r := qk) (v := .ref qp) (H := HC)
      rw [eqOf_nats hlk (get_pre p9C hq9), decide_eq_true rfl] at nek
      have pl := pre_app HC [.list ((lack A B).map natV)]
      have elack : ∀ ρ : AEnv, ρ[6]? = some (some (.ref qp)) → ρ[5]? = some (some (.ref qo)) → denE strF (callF strF P sc (m + 5)) sc 0 (.comp1 (.var 0) (.of (.var 6)) (.some (.cmp .NotIn (.var 0) (.var 6)))) ρ HC = .ok (.ref HC.length) (HC ++ [.list ((lack A B).map natV)]) := fun ρ g6 g5 => lacks (j := 6) (k := 5) (get_pre p9C hq9) (by (first | lia | omega)) g6 (get_pre p9C ho9) g5
      have gl := last_get HC (.list ((lack A B).map natV))
      generalize hHD : HC ++ [AObj.list ((lack A B).map natV)] = HD at pl gl elack
      have p9D := p9C.trans pl
      have hqD := get_pre pl hqC
      have hfD := hfC.grow pl
      obtain ⟨u, HE, eE, rfl, hpE⟩ := Res.sat_ex (steps13 (strF := strF) (sc := sc) (m := m + 2) D.h9 D.h10 D.h54 D.h76 h2 (get_pre p9D hT9) hok hqD hfD hch hk7)
      have hqE := get_pre hpE hqD
      have hfE := hfD.grow hpE
      have p9E := p9D.trans hpE
      have hnn : cmpop .NotEq (.int (qs.map AV.ref).length) (.int (1 + ((lack A B).map natV).length)) HD = some false := neF (by rw [List.length_map, List.length_map, hql, ← hleft]; (first | lia | omega))
      refine s_assign (v_call (vs_cons (v_var rfl) (vs_cons (v_var rfl) (vs_cons (v_idx (v_var rfl) v_int i0) (vs_cons (v_idx (v_var rfl) v_int i1) vs_nil)))) eA)
        (s_skip (t_cmp (v_prim (vs_cons (v_call (vs_cons (v_var rfl) (vs_cons (v_var rfl) (vs_cons v_int vs_nil))) eB) vs_nil) (len_list hrB)) (v_var rfl) (ltF (by rw [List.length_map, sortI_length, List.length_map]; (first | lia | omega))))
        (s_skip (t_or (ot_false (t_notF (t_prim (vs_cons (v_var rfl) vs_nil) (isList_ofK (isListT hqB)))) (ot_false (t_cmp (v_var rfl) (by have := v_list (strF := strF) (cf := callF strF P sc (m + 5)) (sc := sc) (b := 0) (ρ := [some .scr, some (.int (n + 1 : Nat)), some (.ref r), some (.ref rh), some (.int c), some (.ref qo), some (.ref qp), some w, some (.ref kk), some (.ref q), none]) (H := HB) (es := .nil) vs_nil (allocK (Nat.le_of_ble_eq_true rfl)); rw [hHC] at this; exact hkk ▸ this) (c_eqR.trans hnil)) (ot_false (t_cmp (v_idx (v_var rfl) v_int it0) (v_var rfl) ne0) (ot_false (t_cmp (v_idx (v_var rfl) (v_neg v_int) itk) (v_var rfl) nek) ot_nil)))))
        (s_skip (t_or (ot_false (t_cmp (v_prim (vs_cons (v_var rfl) vs_nil) (len_list hqC)) (v_bin v_int (v_prim (vs_cons (elack _ rfl rfl) vs_nil) (len_list gl)) b_add) hnn) (ot_false (t_notF (t_call (vs_cons (v_var rfl) (vs_cons (v_var rfl) (vs_cons (v_var rfl) vs_nil))) eE)) ot_nil)))
        (s_for1 (i_ofR (v_var rfl) hqE) (forL_list (ApI H9 q qs _ _ _ _ _ _ _ _) ⟨_, rfl, p9E, hqE, fun y hy => ?_⟩ ?_ ?_)))))
      · obtain ⟨i, hi⟩ := List.mem_iff_getElem?.mp hy
        obtain ⟨S, hS, hSy⟩ := hfE.get hi
        refine ⟨_, hSy, ?_⟩
        rw [List.length_map, (hch.all S (List.mem_of_getElem? hS)).r.len]; (first | lia | omega)
      · intro j v ρ H hv I
        rw [List.getElem?_map] at hv
        obtain ⟨y, hy, rfl⟩ := Option.map_eq_some_iff.mp hv
        have hj : j < qs.length := (List.getElem?_eq_some_iff.mp hy).1
        exact ap_turn (by (first | lia | omega)) hy hqsA I
      · rintro ρ H ⟨x10, rfl, hp, hq, hx⟩
        have pz := pre_app H [.list [AV.ref qo, .ref qp]]
        have hz : cmpop .Eq (.ref kk) (.ref H.length) (H ++ [.list [AV.ref qo, .ref qp]]) = some true := by
          rw [c_eqR]
          exact eqOf_lists13 (qs := [ka, kb]) (ps := [qo, qp]) (Ss := [A, B]) (get_pre (hp.trans pz) gk) (.cons (get_pre (hp.trans pz) ga9) (.cons (get_pre (hp.trans pz) gb9) .nil)) (last_get _ _) (.cons (get_pre (hp.trans pz) ho9) (.cons (get_pre (hp.trans pz) hq9) .nil))
        exact s_ret (v_and (a_true (v_cmp (v_var rfl) (v_var rfl) (heqT hp)) (a_one (v_cmp (v_var (hkk ▸ rfl)) (v_list (vs_cons (v_var rfl) (vs_cons (v_var rfl) vs_nil)) (allocK (Nat.le_of_ble_eq_true rfl))) hz)))) rfl
    · have noA : ¬ (IsH H9 n E (.ref ka) ∧ IsH H9 n E (.ref kb)) := fun i => by
        obtain ⟨q, S, _, _, hr, hc⟩ := i.1
        exact all (pick_all hr.lt hc)
      obtain ⟨u, HA, eA, rfl, hpA⟩ := Res.sat_ex (told13_bad (strF := strF) (sc := sc) (m := m) D.to35 h2 hh9 hl hok (ask_nats ga9) (ask_nats gb9) noA)
      obtain ⟨u, HB, eB, rB, F, rfl, hrB, hpB, hgeB, nd, lt, hF⟩ := Res.sat_ex (reach_spec (strF := strF) (sc := sc) (m := m + 4) (s := 0) D.h10 h2 (get_pre hpA hT9) hok (by (first | lia | omega)))
      have hnl := (reach_len nd lt hF).mpr all
      exact s_assign (v_call (vs_cons (v_var rfl) (vs_cons (v_var rfl) (vs_cons (v_idx (v_var rfl) v_int i0) (vs_cons (v_idx (v_var rfl) v_int i1) vs_nil)))) eA)
        (s_iteT (t_cmp (v_prim (vs_cons (v_call (vs_cons (v_var rfl) (vs_cons (v_var rfl) (vs_cons v_int vs_nil))) eB) vs_nil) (len_list hrB)) (v_var rfl) (ltT (by rw [List.length_map, sortI_length, List.length_map]; (first | lia | omega))))
        (s_ret (v_and (a_true (v_cmp (v_var rfl) v_int (eqT rfl)) (a_one (v_cmp (v_var rfl) (v_var rfl) (heqT (hpA.trans hpB)))))) rfl))
end
end Mine

namespace Mine
open PySem

/-! The checker: does this IR stand for that tree? -/
structure Tab where
  fns : List (Nat × Str)
  excs : List (Nat × Str)
  gints : List (Nat × Str × Int)
  defs : List (Nat × FnI) := []
  q : Bool := false
  okc : Nat → Bool := fun _ => true
  qs : List Nat := []

/-- the same, for a handler: what walks over things is refused -/
noncomputable abbrev Tab.quiet (T : Tab) : Tab := { T with q := true, okc := fun k => T.qs.contains k }

noncomputable def notStar : Expr → Bool
  | .Starred .. => false
  | _ => true
noncomputable def notComp : Expr → Bool
  | .ListComp .. => false
  | .SetComp .. => false
  | .DictComp .. => false
  | _ => true
noncomputable def notTupComp : Expr → Bool
  | .ListComp .. => false
  | .SetComp .. => false
  | .DictComp .. => false
  | .Tuple .. => false
  | _ => true
noncomputable def notSlice : Expr → Bool
  | .Slice .. => false
  | _ => true
noncomputable def notSet : Expr → Bool
  | .Set .. => false
  | _ => true

noncomputable def slot (Γ : List Str) (x : Str) : Option Nat := Γ.findIdx? (· == x)
noncomputable def kindIn (S : Scope) (x : Str) : Option NameKind := S.names.lookup x
noncomputable def isGlob (S : Scope) (x : Str) : Bool := kindIn S x == some .globalImplicit && !(x == ("__debug__" : Str))
noncomputable def isVarK (S : Scope) (x : Str) : Bool := (kindIn S x == some .local || kindIn S x == some .cell || kindIn S x == some .free) && !(x == ("__debug__" : Str)) && !(x == ("__classdict__" : Str))
noncomputable def isStoreK (S : Scope) (x : Str) : Bool := kindIn S x == some .local || kindIn S x == some .cell
noncomputable def relab (scope S : Scope) : Scope :=
  { scope with names := scope.names.map fun (n, k) => if (k == .free && S.kind == .function && kindIn S n == some .cell) then (n, .cell) else (n, k) }
/-- a comprehension's scope; xs are its targets -/
noncomputable def scopeOk (scope S : Scope) (Γ xs : List Str) : Bool := scope.kind == .function &&
  scope.names.all (fun x => (x.2 != .local || scope.names.lookup x.1 == some .local) && (x.2 != .cell || scope.names.lookup x.1 == some .cell) &&
    (x.2 != .free || (scope.names.lookup x.1 == some .free && (kindIn S x.1 == some .cell || kindIn S x.1 == some .free))) && (!(x.2 == .local || x.2 == .cell) || xs.contains x.1 || (slot Γ x.1).isNone)) && xs.all (isStoreK scope)
noncomputable def notZip : It → Bool
  | .zip _ _ => false
  | _ => true
noncomputable def someArgs : PEs → Bool
  | .nil => false
  | _ => true
noncomputable def plainBase : Expr → Bool
  | .Name .. => true
  | .Subscript .. => true
  | _ => false
/-- the built-ins that are covered -/
noncomputable def okPrim : Prim → Bool
  | .sortedSet => false
  | _ => true
noncomputable def typeName : Prim → Option Str
  | .isInt => some "int"
  | .isBool => some "bool"
  | .isList => some "list"
  | .isTuple => some "tuple"
  | .isValueError => some "ValueError"
  | _ => none
noncomputable def tyName (T : Tab) (p : Prim) : Option Str := match p with
  | .isExc c => T.excs.lookup c
  | p => typeName p
noncomputable def primName : Prim → Option Str
  | .len => some "len"
  | .list => some "list"
  | .tuple => some "tuple"
  | .sorted => some "sorted"
  | .min2 => some "min"
  | .max2 => some "max"
  | .max1 => some "max"
  | .all => some "all"
  | .sortedP => some "sorted"
  | _ => none

/-! taking trees apart -/
noncomputable def opt {α : Type} (o : Option α) (k : α → Bool) : Bool := match o with
  | some a => k a
  | none => false
inductive OptE {α : Type} (o : Option α) (k : α → Bool) : Prop
  | mk (a : α) (e : o = some a) (h : k a = true) : OptE o k
theorem opt_eq {α : Type} {o : Option α} {k : α → Bool} (h : opt o k = true) : OptE o k := by
  cases o with
  | none => cases h
  | some a => exact ⟨a, rfl, h⟩
theorem and_tt {a b : Bool} (h : (a && b) = true) : a = true ∧ b = true := by
  cases a
  · cases h
  · exact ⟨rfl, h⟩
theorem eq_tt {α : Type} [BEq α] [LawfulBEq α] {a b : α} (h : (a == b) = true) : a = b := beq_iff_eq.mp h
noncomputable def one1 {α : Type} : List α → Option α
  | [a] => some a
  | _ => none
noncomputable def two2 {α : Type} : List α → Option (α × α)
  | [a, b] => some (a, b)
  | _ => none
theorem one1_eq {α : Type} {l : List α} {a : α} (h : one1 l = some a) : l = [a] := by
  match l, h with
  | [_], h => cases h; rfl
theorem two2_eq {α : Type} {l : List α} {a : α × α} (h : two2 l = some a) : l = [a.1, a.2] := by
  match l, h with
  | [_, _], h => cases h; rfl
theorem inv {α β : Type} {mk : α → β} {d : β → Option α} (G : ∀ e, (d e).elim e mk = e) {e : β} {x : α} (h : d e = some x) : e = mk x := by
  have g := G e
  rw [h] at g
  exact g.symm
noncomputable def dConst (e : Expr) : Option (Const × Nat × Pos) := by
  cases e with
  | Constant c k p => exact some (c, k, p)
  | _ => exact none
theorem dConst_eq {e : Expr} {x : (Const × Nat × Pos)} (h : dConst e = some x) : e = .Constant x.1 x.2.1 x.2.2 := inv (mk := fun x => .Constant x.1 x.2.1 x.2.2) (fun e => by cases e <;> rfl) h
noncomputable def dName (e : Expr) : Option (Str × Pos) := by
  cases e with
  | Name x p => exact some (x, p)
  | _ => exact none
theorem dName_eq {e : Expr} {x : (Str × Pos)} (h : dName e = some x) : e = .Name x.1 x.2 := inv (mk := fun x => .Name x.1 x.2) (fun e => by cases e <;> rfl) h
noncomputable def dBin (e : Expr) : Option (Expr × Operator × Expr × Pos) := by
  cases e with
  | BinOp l o r p => exact some (l, o, r, p)
  | _ => exact none
theorem dBin_eq {e : Expr} {x : (Expr × Operator × Expr × Pos)} (h : dBin e = some x) : e = .BinOp x.1 x.2.1 x.2.2.1 x.2.2.2 := inv (mk := fun x => .BinOp x.1 x.2.1 x.2.2.1 x.2.2.2) (fun e => by cases e <;> rfl) h
noncomputable def dUn (e : Expr) : Option (UnaryOp × Expr × Pos) := by
  cases e with
  | UnaryOp o x p => exact some (o, x, p)
  | _ => exact none
theorem dUn_eq {e : Expr} {x : (UnaryOp × Expr × Pos)} (h : dUn e = some x) : e = .UnaryOp x.1 x.2.1 x.2.2 := inv (mk := fun x => .UnaryOp x.1 x.2.1 x.2.2) (fun e => by cases e <;> rfl) h
noncomputable def dCmp (e : Expr) : Option (Expr × List CmpOp × List Expr × Pos) := by
  cases e with
  | Compare l o r p => exact some (l, o, r, p)
  | _ => exact none
theorem dCmp_eq {e : Expr} {x : (Expr × List CmpOp × List Expr × Pos)} (h : dCmp e = some x) : e = .Compare x.1 x.2.1 x.2.2.1 x.2.2.2 := inv (mk := fun x => .Compare x.1 x.2.1 x.2.2.1 x.2.2.2) (fun e => by cases e <;> rfl) h
noncomputable def dBool (e : Expr) : Option (BoolOp × List Expr × Pos) := by
  cases e with
  | BoolOp o vs p => exact some (o, vs, p)
  | _ => exact none
theorem dBool_eq {e : Expr} {x : (BoolOp × List Expr × Pos)} (h : dBool e = some x) : e = .BoolOp x.1 x.2.1 x.2.2 := inv (mk := fun x => .BoolOp x.1 x.2.1 x.2.2) (fun e => by cases e <;> rfl) h
noncomputable def dIfe (e : Expr) : Option (Expr × Expr × Expr × Pos) := by
  cases e with
  | IfExp t a b p => exact some (t, a, b, p)
  | _ => exact none
theorem dIfe_eq {e : Expr} {x : (Expr × Expr × Expr × Pos)} (h : dIfe e = some x) : e = .IfExp x.1 x.2.1 x.2.2.1 x.2.2.2 := inv (mk := fun x => .IfExp x.1 x.2.1 x.2.2.1 x.2.2.2) (fun e => by cases e <;> rfl) h
noncomputable def dSub (e : Expr) : Option (Expr × Expr × Pos) := by
  cases e with
  | Subscript v s p => exact some (v, s, p)
  | _ => exact none
theorem dSub_eq {e : Expr} {x : (Expr × Expr × Pos)} (h : dSub e = some x) : e = .Subscript x.1 x.2.1 x.2.2 := inv (mk := fun x => .Subscript x.1 x.2.1 x.2.2) (fun e => by cases e <;> rfl) h
noncomputable def dSl (e : Expr) : Option (Option Expr × Option Expr × Option Expr × Pos) := by
  cases e with
  | Slice l h s p => exact some (l, h, s, p)
  | _ => exact none
theorem dSl_eq {e : Expr} {x : (Option Expr × Option Expr × Option Expr × Pos)} (h : dSl e = some x) : e = .Slice x.1 x.2.1 x.2.2.1 x.2.2.2 := inv (mk := fun x => .Slice x.1 x.2.1 x.2.2.1 x.2.2.2) (fun e => by cases e <;> rfl) h
noncomputable def dList (e : Expr) : Option (List Expr × Pos) := by
  cases e with
  | List vs p => exact some (vs, p)
  | _ => exact none
theorem dList_eq {e : Expr} {x : (List Expr × Pos)} (h : dList e = some x) : e = .List x.1 x.2 := inv (mk := fun x => .List x.1 x.2) (fun e => by cases e <;> rfl) h
noncomputable def dTup (e : Expr) : Option (List Expr × Nat × Pos) := by
  cases e with
  | Tuple vs b p => exact some (vs, b, p)
  | _ => exact none
theorem dTup_eq {e : Expr} {x : (List Expr × Nat × Pos)} (h : dTup e = some x) : e = .Tuple x.1 x.2.1 x.2.2 := inv (mk := fun x => .Tuple x.1 x.2.1 x.2.2) (fun e => by cases e <;> rfl) h
noncomputable def dComp (e : Expr) : Option (Expr × List Comprehension × Scope × Pos) := by
  cases e with
  | ListComp el g s p => exact some (el, g, s, p)
  | _ => exact none
theorem dComp_eq {e : Expr} {x : (Expr × List Comprehension × Scope × Pos)} (h : dComp e = some x) : e = .ListComp x.1 x.2.1 x.2.2.1 x.2.2.2 := inv (mk := fun x => .ListComp x.1 x.2.1 x.2.2.1 x.2.2.2) (fun e => by cases e <;> rfl) h
noncomputable def dAttr (e : Expr) : Option (Expr × Str × Pos) := by
  cases e with
  | Attribute o m p => exact some (o, m, p)
  | _ => exact none
theorem dAttr_eq {e : Expr} {x : (Expr × Str × Pos)} (h : dAttr e = some x) : e = .Attribute x.1 x.2.1 x.2.2 := inv (mk := fun x => .Attribute x.1 x.2.1 x.2.2) (fun e => by cases e <;> rfl) h
noncomputable def dCall0 (e : Expr) : Option (Expr × List Expr × List Keyword × Pos) := by
  cases e with
  | Call f a k p => exact some (f, a, k, p)
  | _ => exact none
theorem dCall0_eq {e : Expr} {x : (Expr × List Expr × List Keyword × Pos)} (h : dCall0 e = some x) : e = .Call x.1 x.2.1 x.2.2.1 x.2.2.2 := inv (mk := fun x => .Call x.1 x.2.1 x.2.2.1 x.2.2.2) (fun e => by cases e <;> rfl) h
noncomputable def nilO {α : Type} (l : List α) : Bool := l.isEmpty
theorem nilO_eq {α : Type} {l : List α} (h : l.isEmpty = true) : l = [] := List.isEmpty_iff.mp h
noncomputable def dCall (e : Expr) (k : Expr → List Expr → Pos → Bool) : Bool := opt (dCall0 e) fun x => x.2.2.1.isEmpty && k x.1 x.2.1 x.2.2.2
inductive CallE (e : Expr) (k : Expr → List Expr → Pos → Bool) : Prop
  | mk (f : Expr) (a : List Expr) (p : Pos) (he : e = .Call f a [] p) (h : k f a p = true) : CallE e k
theorem dCall_eq {e : Expr} {k : Expr → List Expr → Pos → Bool} (h : dCall e k = true) : CallE e k := by
  obtain ⟨x, hx, h⟩ := opt_eq h
  obtain ⟨h1, h⟩ := and_tt h
  exact ⟨_, _, _, by rw [dCall0_eq hx, nilO_eq h1], h⟩
/-- a call of a name -/
noncomputable def dCallN (e : Expr) (k : Str → List Expr → Bool) : Bool := dCall e fun f a _ => opt (dName f) fun x => k x.1 a
inductive CallNE (e : Expr) (k : Str → List Expr → Bool) : Prop
  | mk (f : Str) (np : Pos) (args : List Expr) (pos : Pos) (he : e = .Call (.Name f np) args [] pos) (h : k f args = true) : CallNE e k
theorem dCallN_eq {e : Expr} {k : Str → List Expr → Bool} (h : dCallN e k = true) : CallNE e k := by
  obtain ⟨f, a, p, rfl, h⟩ := dCall_eq h
  obtain ⟨x, hx, h⟩ := opt_eq h
  cases dName_eq hx
  exact ⟨_, _, _, _, rfl, h⟩
noncomputable def cBool : Const → Option Bool
  | .bool b => some b
  | _ => none
theorem cBool_eq {c : Const} {x : Bool} (h : cBool c = some x) : c = .bool x := inv (mk := fun x => .bool x) (fun e => by cases e <;> rfl) h
noncomputable def cInt : Const → Option Int
  | .int b => some b
  | _ => none
theorem cInt_eq {c : Const} {x : Int} (h : cInt c = some x) : c = .int x := inv (mk := fun x => .int x) (fun e => by cases e <;> rfl) h
noncomputable def cStr : Const → Option Str
  | .str b => some b
  | _ => none
theorem cStr_eq {c : Const} {x : Str} (h : cStr c = some x) : c = .str x := inv (mk := fun x => .str x) (fun e => by cases e <;> rfl) h
noncomputable def cNone : Const → Option Unit
  | .none => some ()
  | _ => none
theorem cNone_eq {c : Const} {x : Unit} (h : cNone c = some x) : c = .none := inv (mk := fun _ => .none) (fun e => by cases e <;> rfl) h
noncomputable def isLR (p : Prim) : Bool := by
  cases p with
  | listRange => exact true
  | _ => exact false
theorem isLR_eq {p : Prim} (h : isLR p = true) : p = .listRange := by cases p <;> first | rfl | cases h

section
variable (T : Tab)
mutual
noncomputable def chkE (Γ : List Str) (S : Scope) : PE → Expr → Bool
  | .none, e => opt (dConst e) fun c => opt (cNone c.1) fun _ => true
  | .bool b, e => opt (dConst e) fun c => opt (cBool c.1) fun d => b == d
  | .int i, e => opt (dConst e) fun c => opt (cInt c.1) fun j => i == j
  | .str x, e => opt (dConst e) fun c => opt (cStr c.1) fun y => x == y
  | .var i, e => opt (dName e) fun x => slot Γ x.1 == some i && isVarK S x.1
  | .gint k i, e => opt (dName e) fun x => T.gints.lookup k == some (x.1, i) && isGlob S x.1
  | .bin op a b, e => opt (dBin e) fun x => op == x.2.1 && (chkE Γ S a x.1 && chkE Γ S b x.2.2.1)
  | .neg a, e => opt (dUn e) fun x => UnaryOp.USub == x.1 && chkE Γ S a x.2.1
  | .not a, e => opt (dUn e) fun x => UnaryOp.Not == x.1 && chkE Γ S a x.2.1
  | .cmp op a b, e => opt (dCmp e) fun x => opt (one1 x.2.1) fun o => opt (one1 x.2.2.1) fun r => op == o && (notSet r && (chkE Γ S a x.1 && chkE Γ S b r))
  | .cmp2 o1 o2 a b c, e => opt (dCmp e) fun x => opt (two2 x.2.1) fun o => opt (two2 x.2.2.1) fun r => o1 == o.1 && (o2 == o.2 && (notSet r.2 && (chkE Γ S a x.1 && (chkE Γ S b r.1 && chkE Γ S c r.2))))
  | .and es, e => opt (dBool e) fun x => BoolOp.And == x.1 && chkEs Γ S es x.2.1
  | .or es, e => opt (dBool e) fun x => BoolOp.Or == x.1 && chkEs Γ S es x.2.1
  | .ite c a b, e => opt (dIfe e) fun x => chkE Γ S c x.1 && (chkE Γ S a x.2.1 && chkE Γ S b x.2.2.1)
  | .call k es, e => T.okc k && dCallN e fun f args => T.fns.lookup k == some f && (isGlob S f && (someArgs es && chkEs Γ S es args))
  | .prim p es, e => (!T.q || (tyName T p).isSome) && dCallN e fun f args => cond (isLR p)
      (opt (one1 args) fun a => dCallN a fun g as => f == ("list" : Str) && (isGlob S f && (g == ("range" : Str) && (isGlob S g && chkEs Γ S es as))))
      (okPrim p && (isGlob S f && (match tyName T p with
        | some t => f == ("isinstance" : Str) && opt (two2 args) fun a => opt (dName a.2) fun g => t == g.1 && (isGlob S g.1 && chkEs Γ S es [a.1])
        | none => primName p == some f && chkEs Γ S es args)))
  | .idx a i, e => opt (dSub e) fun x => notSlice x.2.1 && (chkE Γ S a x.1 && chkE Γ S i x.2.1)
  | .slice a lo hi, e => opt (dSub e) fun x => opt (dSl x.2.1) fun y => y.2.2.1.isNone && (chkE Γ S a x.1 && (chkO Γ S lo y.1 && chkO Γ S hi y.2.1))
  | .list es, e => opt (dList e) fun vs => chkEs Γ S es vs.1
  | .tuple es, e => opt (dTup e) fun vs => chkEs Γ S es vs.1
  | .dict, _ => false
  | .comp1 el it c, e => !T.q && opt (dComp e) fun x => opt (one1 x.2.1) fun g => opt (dName g.target) fun v => g.is_async == 0 && (scopeOk x.2.2.1 S Γ [v.1] && (notZip it && (notSet g.iter && (chkI Γ S it g.iter && (chkC (v.1 :: Γ) (relab x.2.2.1 S) c g.ifs && chkE (v.1 :: Γ) (relab x.2.2.1 S) el x.1)))))
  | .comp2 el it, e => !T.q && opt (dComp e) fun x => opt (one1 x.2.1) fun g => opt (dTup g.target) fun ts => opt (two2 ts.1) fun t => opt (dName t.1) fun v => opt (dName t.2) fun w => g.is_async == 0 && (g.ifs.isEmpty && (scopeOk x.2.2.1 S Γ [v.1, w.1] && (!(v.1 == w.1) && (notSet g.iter && (chkI Γ S it g.iter && chkE (v.1 :: w.1 :: Γ) (relab x.2.2.1 S) el x.1)))))
  | .append a y, e => dCall e fun f as p => opt (dAttr f) fun t => opt (one1 as) fun v => t.2.1 == ("append" : Str) && (t.2.2.endLine == p.line && (plainBase t.1 && (notStar v && (chkE Γ S a t.1 && chkE Γ S y v))))
  | .count a y, e => dCall e fun f as p => opt (dAttr f) fun t => opt (one1 as) fun v => t.2.1 == ("count" : Str) && (t.2.2.endLine == p.line && (plainBase t.1 && (notStar v && (chkE Γ S a t.1 && chkE Γ S y v))))
  | .index a y, e => dCall e fun f as p => opt (dAttr f) fun t => opt (one1 as) fun v => t.2.1 == ("index" : Str) && (t.2.2.endLine == p.line && (plainBase t.1 && (notStar v && (chkE Γ S a t.1 && chkE Γ S y v))))
  | .sset a, e => !T.q && dCallN e fun f args => opt (one1 args) fun y => dCallN y fun g as => opt (one1 as) fun x => f == ("sorted" : Str) && (isGlob S f && (g == ("set" : Str) && (isGlob S g && (notStar x && chkE Γ S a x))))
noncomputable def chkEs (Γ : List Str) (S : Scope) : PEs → List Expr → Bool
  | .nil, es => es.isEmpty
  | .cons a as, es => (match es with | e :: r => notStar e && (chkE Γ S a e && chkEs Γ S as r) | [] => false)
noncomputable def chkO (Γ : List Str) (S : Scope) : PEo → Option Expr → Bool
  | .none, o => o.isNone
  | .some a, o => opt o fun e => chkE Γ S a e
noncomputable def chkC (Γ : List Str) (S : Scope) : PEo → List Expr → Bool
  | .none, es => es.isEmpty
  | .some a, es => opt (one1 es) fun e => chkE Γ S a e
noncomputable def chkI (Γ : List Str) (S : Scope) : It → Expr → Bool
  | .of a, e => chkE Γ S a e
  | .range1 n, e => dCallN e fun f args => opt (one1 args) fun x => f == ("range" : Str) && (isGlob S f && (notStar x && chkE Γ S n x))
  | .range2 .., _ => false
  | .zip a b, e => dCallN e fun f args => opt (two2 args) fun x => f == ("zip" : Str) && (isGlob S f && (notStar x.1 && (notStar x.2 && (chkE Γ S a x.1 && chkE Γ S b x.2))))
end

noncomputable def chkIdx (Γ : List Str) (S : Scope) : List Nat → List Expr → Bool
  | [], es => (match es with | [] => true | _ => false)
  | i :: is, es => (match es with | .Name x _ :: r => slot Γ x == some i && isStoreK S x && chkIdx Γ S is r | _ => false)

noncomputable def dAsg (e : Stmt) : Option (List Expr × Expr × Pos) := by
  cases e with
  | Assign ts v p => exact some (ts, v, p)
  | _ => exact none
theorem dAsg_eq {e : Stmt} {x : (List Expr × Expr × Pos)} (h : dAsg e = some x) : e = .Assign x.1 x.2.1 x.2.2 := inv (mk := fun x => .Assign x.1 x.2.1 x.2.2) (fun e => by cases e <;> rfl) h
noncomputable def dIf (e : Stmt) : Option (Expr × List Stmt × List Stmt × Pos) := by
  cases e with
  | If c t e p => exact some (c, t, e, p)
  | _ => exact none
theorem dIf_eq {e : Stmt} {x : (Expr × List Stmt × List Stmt × Pos)} (h : dIf e = some x) : e = .If x.1 x.2.1 x.2.2.1 x.2.2.2 := inv (mk := fun x => .If x.1 x.2.1 x.2.2.1 x.2.2.2) (fun e => by cases e <;> rfl) h
noncomputable def dFor (e : Stmt) : Option (Expr × Expr × List Stmt × List Stmt × Pos) := by
  cases e with
  | For t i b o p => exact some (t, i, b, o, p)
  | _ => exact none
theorem dFor_eq {e : Stmt} {x : (Expr × Expr × List Stmt × List Stmt × Pos)} (h : dFor e = some x) : e = .For x.1 x.2.1 x.2.2.1 x.2.2.2.1 x.2.2.2.2 := inv (mk := fun x => .For x.1 x.2.1 x.2.2.1 x.2.2.2.1 x.2.2.2.2) (fun e => by cases e <;> rfl) h
noncomputable def dWh (e : Stmt) : Option (Expr × List Stmt × List Stmt × Pos) := by
  cases e with
  | While t b o p => exact some (t, b, o, p)
  | _ => exact none
theorem dWh_eq {e : Stmt} {x : (Expr × List Stmt × List Stmt × Pos)} (h : dWh e = some x) : e = .While x.1 x.2.1 x.2.2.1 x.2.2.2 := inv (mk := fun x => .While x.1 x.2.1 x.2.2.1 x.2.2.2) (fun e => by cases e <;> rfl) h
noncomputable def dRet (e : Stmt) : Option (Option Expr × Pos) := by
  cases e with
  | Return v p => exact some (v, p)
  | _ => exact none
theorem dRet_eq {e : Stmt} {x : (Option Expr × Pos)} (h : dRet e = some x) : e = .Return x.1 x.2 := inv (mk := fun x => .Return x.1 x.2) (fun e => by cases e <;> rfl) h
noncomputable def dEx (e : Stmt) : Option (Expr × Pos) := by
  cases e with
  | Expr v p => exact some (v, p)
  | _ => exact none
theorem dEx_eq {e : Stmt} {x : (Expr × Pos)} (h : dEx e = some x) : e = .Expr x.1 x.2 := inv (mk := fun x => .Expr x.1 x.2) (fun e => by cases e <;> rfl) h

/-- a comprehension may be stored right away -/
noncomputable def isCompP : PE → Bool
  | .comp1 .. => true
  | .comp2 .. => true
  | _ => false
noncomputable def dRaise (e : Stmt) : Option (Option Expr × Option Expr × Pos) := by
  cases e with
  | Raise v c p => exact some (v, c, p)
  | _ => exact none
theorem dRaise_eq {e : Stmt} {x : (Option Expr × Option Expr × Pos)} (h : dRaise e = some x) : e = .Raise x.1 x.2.1 x.2.2 := inv (mk := fun x => .Raise x.1 x.2.1 x.2.2) (fun e => by cases e <;> rfl) h
noncomputable def dTry (e : Stmt) : Option (List Stmt × List ExceptHandler × List Stmt × List Stmt × Pos) := by
  cases e with
  | Try b h o f p => exact some (b, h, o, f, p)
  | _ => exact none
theorem dTry_eq {e : Stmt} {x : (List Stmt × List ExceptHandler × List Stmt × List Stmt × Pos)} (h : dTry e = some x) : e = .Try x.1 x.2.1 x.2.2.1 x.2.2.2.1 x.2.2.2.2 := inv (mk := fun x => .Try x.1 x.2.1 x.2.2.1 x.2.2.2.1 x.2.2.2.2) (fun e => by cases e <;> rfl) h
noncomputable def bodyH : ExceptHandler → List Stmt
  | .ExceptHandler _ _ b _ => b
noncomputable def dH (h : ExceptHandler) : Option Expr × Option Str × Pos := match h with
  | .ExceptHandler t n _ p => (t, n, p)
theorem dH_eq (h : ExceptHandler) : h = .ExceptHandler (dH h).1 (dH h).2.1 (bodyH h) (dH h).2.2 := by cases h; rfl
/-- a handler's head: its class, its name -/
noncomputable def chkH (T : Tab) (Γ : List Str) (S : Scope) (c : Nat) (i : Option Nat) (h : ExceptHandler) : Bool :=
  opt (dH h).1 fun t => opt (dName t) fun x => T.excs.lookup c == some x.1 && (isGlob S x.1 && (!(bodyH h).isEmpty && (match i with
    | none => false
    | some j => opt (dH h).2.1 fun nm => slot Γ nm == some j && kindIn S nm == some .local)))
end
mutual
noncomputable def chkS (T : Tab) (Γ : List Str) (S : Scope) : PS → Stmt → Bool
  | .assign i e, s => opt (dAsg s) fun x => opt (one1 x.1) fun t => opt (dName t) fun v => slot Γ v.1 == some i && (isStoreK S v.1 && ((isCompP e || notComp x.2.1) && chkE T Γ S e x.2.1))
  | .assigns is e, s => !T.q && opt (dAsg s) fun x => opt (one1 x.1) fun t => opt (dTup t) fun ts => notTupComp x.2.1 && (chkIdx Γ S is ts.1 && (decide is.Nodup && chkE T Γ S e x.2.1))
  | .ite c t e, s => opt (dIf s) fun x => chkE T Γ S c x.1 && (chkSs T Γ S t x.2.1 && chkSs T Γ S e x.2.2.1)
  | .for1 i it body, s => !T.q && opt (dFor s) fun x => opt (dName x.1) fun v => x.2.2.2.1.isEmpty && (slot Γ v.1 == some i && (isStoreK S v.1 && (notZip it && (notSet x.2.1 && (chkI T Γ S it x.2.1 && chkSs T Γ S body x.2.2.1)))))
  | .for2 i j it body, s => !T.q && opt (dFor s) fun x => opt (dTup x.1) fun ts => opt (two2 ts.1) fun t => opt (dName t.1) fun v => opt (dName t.2) fun w => x.2.2.2.1.isEmpty && (slot Γ v.1 == some i && (isStoreK S v.1 && (slot Γ w.1 == some j && (isStoreK S w.1 && (notSet x.2.1 && (chkI T Γ S it x.2.1 && chkSs T Γ S body x.2.2.1))))))
  | .whl c body, s => opt (dWh s) fun x => x.2.2.1.isEmpty && (chkE T Γ S c x.1 && chkSs T Γ S body x.2.1)
  | .ret e, s => opt (dRet s) fun o => opt o.1 fun v => chkE T Γ S e v
  | .expr e, s => opt (dEx s) fun v => notComp v.1 && chkE T Γ S e v.1
  | .raise c m, s => !T.q && opt (dRaise s) fun x => x.2.1.isNone && opt x.1 fun v => dCallN v fun f args => opt (one1 args) fun y => opt (dConst y) fun z => opt (cStr z.1) fun w => T.excs.lookup c == some f && (isGlob S f && m == w)
  | .tryRet e c i h, s => !T.q && opt (dTry s) fun x => x.2.2.1.isEmpty && (x.2.2.2.1.isEmpty && opt (one1 x.1) fun st => opt (dRet st) fun o => opt o.1 fun v => opt (one1 x.2.1) fun hd => chkE T Γ S e v && (chkH T Γ S c i hd && chkSs T.quiet Γ S h (bodyH hd)))
noncomputable def chkSs (T : Tab) (Γ : List Str) (S : Scope) : PSs → List Stmt → Bool
  | .nil, ss => ss.isEmpty
  | .any, _ => true
  | .cons a as, ss => (match ss with | s :: r => chkS T Γ S a s && chkSs T Γ S as r | [] => false)
end

/-- the names of a def's own -/
noncomputable def gamOf (S : Scope) : List Str := (S.names.filter fun x => x.2 == .local || x.2 == .cell).map (·.1)
noncomputable def chkFn (T : Tab) (f : FnI) (params : Arguments) (body : List Stmt) (S : Scope) : Bool :=
  params.posonlyargs.isEmpty && params.vararg.isNone && params.kwonlyargs.isEmpty && params.kw_defaults.isEmpty && params.kwarg.isNone && params.defaults.isEmpty &&
  params.args.length == f.np && (gamOf S).take f.np == params.args.map (·.arg) && (gamOf S).length == f.nv && decide (S.names.map (·.1)).Nodup &&
  S.kind == .function && !S.isGenerator && !S.isCoroutine && S.names.all (fun x => x.2 != .free) && chkSs T (gamOf S) S f.body body
end Mine

namespace Mine
open PySem PySem.Calls PyProof.Rows

/-! The relation of the abstract state to the model's. -/
structure Cx where
  prog : Program
  w : World
  sa : Addr
  sc : List Int
  fa : Nat → Addr
  ea : Nat → Value
  os : OsState
  mg : Str → Option Value
  mb : Str → Option Value
  z : Addr → Prop
  eo : Nat → Prop

mutual
inductive VR (C : Cx) (μ : List Addr) (h : Heap) : AV → Value → Prop
  | none : VR C μ h .none .none
  | bool (b : Bool) : VR C μ h (.bool b) (.bool b)
  | int (i : Int) (t : Tok) : VR C μ h (.int i) (.int i t)
  | str (s : Str) (t : Tok) : VR C μ h (.str s) (.str s t)
  | tup {a : Addr} {items : List Value} {vs : List AV} : h.IsTuple a items.toArray → ¬ C.z a → vs.length ≤ lim → VRs C μ h vs items → VR C μ h (.tup vs) (.ref a)
  | ref {n : Nat} {a : Addr} : μ[n]? = some a → VR C μ h (.ref n) (.ref a)
  | scr : VR C μ h .scr (.ref C.sa)
  | fn (k : Nat) : VR C μ h (.fn k) (.ref (C.fa k))
  | exc {c : Nat} {a : Addr} {o : Obj} : C.eo c → h.get? a = some o → ¬ C.z a → o.cls = C.ea c → (∃ vs, o.data = .fields vs) → VR C μ h (.exc c) (.ref a)
inductive VRs (C : Cx) (μ : List Addr) (h : Heap) : List AV → List Value → Prop
  | nil : VRs C μ h [] []
  | cons {x : AV} {v : Value} {xs : List AV} {vs : List Value} : VR C μ h x v → VRs C μ h xs vs → VRs C μ h (x :: xs) (v :: vs)
end

section
variable {C : Cx} {μ : List Addr} {h : Heap} {xs ys : List AV} {vs us : List Value}
theorem VRs.length (q : VRs C μ h xs vs) : xs.length = vs.length := by
  induction xs generalizing vs with
  | nil => cases q; rfl
  | cons x xs ih => cases q with
    | cons _ r => rw [List.length_cons, List.length_cons, ih r]
theorem VRs.get (q : VRs C μ h xs vs) {i : Nat} {x : AV} (e : xs[i]? = some x) : ∃ v, vs[i]? = some v ∧ VR C μ h x v := by
  induction xs generalizing vs i with
  | nil => cases e
  | cons y xs ih => cases q with
    | cons a r => cases i with
      | zero => cases e; exact ⟨_, rfl, a⟩
      | succ i => exact ih r e
theorem VRs.append (q : VRs C μ h xs vs) (r : VRs C μ h ys us) : VRs C μ h (xs ++ ys) (vs ++ us) := by
  induction xs generalizing vs with
  | nil => cases q; exact r
  | cons x xs ih => cases q with
    | cons a q => exact .cons a (ih q)
theorem VRs.take (q : VRs C μ h xs vs) (n : Nat) : VRs C μ h (xs.take n) (vs.take n) := by
  induction xs generalizing vs n with
  | nil => cases q; rw [List.take_nil, List.take_nil]; exact .nil
  | cons x xs ih => cases q with
    | cons a q => cases n with
      | zero => exact .nil
      | succ n => exact .cons a (ih q n)
theorem VRs.drop (q : VRs C μ h xs vs) (n : Nat) : VRs C μ h (xs.drop n) (vs.drop n) := by
  induction n generalizing xs vs with
  | zero => exact q
  | succ n ih => cases q with
    | nil => exact .nil
    | cons a q => exact ih q
theorem VRs.set (q : VRs C μ h xs vs) (i : Nat) {x : AV} {v : Value} (r : VR C μ h x v) : VRs C μ h (xs.set i x) (vs.set i v) := by
  induction xs generalizing vs i with
  | nil => cases q; exact .nil
  | cons y xs ih => cases q with
    | cons a q => cases i with
      | zero => exact .cons r q
      | succ i => exact .cons a (ih q i)
theorem VRs.of_get (e : xs.length = vs.length) (q : ∀ (i : Nat) (x : AV) (v : Value), xs[i]? = some x → vs[i]? = some v → VR C μ h x v) : VRs C μ h xs vs := by
  induction xs generalizing vs with
  | nil => cases vs with
    | nil => exact .nil
    | cons => cases e
  | cons x xs ih => cases vs with
    | nil => cases e
    | cons v vs => exact .cons (q 0 x v rfl rfl) (ih (Nat.succ.inj e) fun i y u e1 e2 => q (i + 1) y u e1 e2)
end

/-- a list's face -/
inductive LstR (C : Cx) (μ : List Addr) (h : Heap) (i : Nat) (xs : List AV) : Prop
  | mk (l : xs.length ≤ lim) (a : Addr) (vs : List Value) (e : μ[i]? = some a) (p : h.PlainList a (List.toArray vs)) (q : VRs C μ h xs vs) : LstR C μ h i xs
structure HeapR (C : Cx) (μ : List Addr) (H : AHeap) (h : Heap) : Prop where
  len : μ.length = H.length
  nd : μ.Nodup
  list : ∀ {i : Nat} {xs : List AV}, H[i]? = some (.list xs) → LstR C μ h i xs
  dict : ∀ {i : Nat}, H[i]? = some .dict → ∃ (a : Addr) (n : Nat × Array (Option Value)), μ[i]? = some a ∧ h.get? a = some { cls := .type "dict", data := .dict #[] n.1, slots := n.2 }

structure EnvR (C : Cx) (μ : List Addr) (h : Heap) (env : Env) (Γ : List Str) (ρ : AEnv) : Prop where
  kind : env.scope.kind = .function
  ns : ∃ m, h.Ns env.locals m ∧ ∀ {x : Str} {i : Nat} {v : AV}, slot Γ x = some i → env.kindOf x = some .local → ρ[i]? = some (some v) → ∃ u, m x = some u ∧ VR C μ h v u
  cells : ∀ {x : Str}, env.kindOf x = some .cell ∨ env.kindOf x = some .free → ∃ c o, env.cells.lookup x = some c ∧ h.IsCell c o ∧
    ∀ {i : Nat} {v : AV}, slot Γ x = some i → ρ[i]? = some (some v) → ∃ u, o = some u ∧ VR C μ h v u
  cell : ∀ {x : Str} {c : Addr}, env.cells.lookup x = some c → ∃ o, h.IsCell c o
  inj : ∀ {x y : Str} {c : Addr}, env.cells.lookup x = some c → env.cells.lookup y = some c → x = y
  globals : env.globals = mainGlobals
  builtins : env.builtins = builtinsNs

/-- what may turn in a frame -/
noncomputable def Own (μ : List Addr) (env : Env) (a : Addr) : Prop := a ∈ μ ∨ a = env.locals ∨ ∃ x, env.cells.lookup x = some a

/-- not a table of names -/
noncomputable def ND (o : Obj) : Prop := ∀ es ep, o.data ≠ .dict es ep
/-- a table of names -/
inductive DT (o : Obj) : Prop
  | mk (es : Array DictEntry) (ep : Nat) (hd : o.data = .dict es ep) : DT o
theorem DT.no {o : Obj} (d : DT o) (n : ND o) : False := by
  obtain ⟨es, ep, hd⟩ := d
  exact n _ _ hd
/-- stands as it stood; a table of names may have got its slots -/
inductive Kp (z : Prop) (a : Addr) (o : Obj) (h : Heap) : Prop
  | same (e : h.get? a = some o) : Kp z a o h
  | slot (hz : z) (hd : DT o) (sl : Array (Option Value)) (e : h.get? a = some { o with slots := sl }) : Kp z a o h
theorem Kp.ex {z : Prop} {a : Addr} {o : Obj} {h : Heap} (k : Kp z a o h) (n : ND o) : h.get? a = some o := by
  cases k with
  | same e => exact e
  | slot _ hd _ _ => exact (hd.no n).elim
theorem Kp.map {z z' : Prop} {a : Addr} {o : Obj} {h h' : Heap} (k : Kp z a o h) (q : z → z') (g : ∀ {o' : Obj}, h.get? a = some o' → h'.get? a = some o') : Kp z' a o h' := by
  cases k with
  | same e => exact .same (g e)
  | slot hz hd sl e => exact .slot (q hz) hd sl (g e)
theorem Kp.trans {z : Prop} {a : Addr} {o : Obj} {h h' : Heap} (k : Kp z a o h) (g : ∀ {o' : Obj}, h.get? a = some o' → Kp z a o' h') : Kp z a o h' := by
  cases k with
  | same e => exact g e
  | slot hz hd sl e =>
    cases g e with
    | same e' => exact .slot hz hd sl e'
    | slot _ _ sl' e' => exact .slot hz hd sl' e'
theorem Kp.live {z : Prop} {a : Addr} {o : Obj} {h : Heap} (k : Kp z a o h) : ∃ o', h.get? a = some o' := by
  cases k with
  | same e => exact ⟨_, e⟩
  | slot _ _ _ e => exact ⟨_, e⟩
theorem Kp.ns {z : Prop} {L : Addr} {m : Str → Option Value} {h h' : Heap} (n : h.Ns L m) (k : ∀ {o : Obj}, h.get? L = some o → Kp z L o h') : h'.Ns L m := by
  obtain ⟨o, es, ep, ho, r⟩ := n
  cases k ho with
  | same e => exact ⟨o, es, ep, e, r⟩
  | slot _ _ sl e => exact ⟨_, es, ep, e, r⟩
/-- what lives lives on -/
structure Lv (h h' : Heap) : Prop where
  go : ∀ {a : Addr} {o : Obj}, h.get? a = some o → ∃ o', h'.get? a = some o' ∧ (DT o → DT o')
theorem Lv.trans {h h' h'' : Heap} (x : Lv h h') (y : Lv h' h'') : Lv h h'' := ⟨fun e => let ⟨_, e1, n1⟩ := x.go e; let ⟨o, e2, n2⟩ := y.go e1; ⟨o, e2, fun n => n2 (n1 n)⟩⟩
theorem Lv.grow {h h' : Heap} (k : ∀ {a : Addr} {o : Obj}, h.get? a = some o → h'.get? a = some o) : Lv h h' := ⟨fun e => ⟨_, k e, id⟩⟩
theorem Lv.but {h h' : Heap} {c : Addr} {oc : Obj} (ec : h'.get? c = some oc) (nc : ∀ {o : Obj}, h.get? c = some o → DT o → DT oc) (k : ∀ {a : Addr} {o : Obj}, h.get? a = some o → ¬ (a = c) → h'.get? a = some o) : Lv h h' := ⟨fun {a o} e => by
  by_cases q : a = c
  · subst q; exact ⟨oc, ec, nc e⟩
  · exact ⟨o, k e q, id⟩⟩
/-- the frames on the stack stand -/
noncomputable def FF (z : Addr → Prop) (h g : Heap) : List Env → Prop
  | [] => True
  | env :: r => env.scope.kind ≠ .module ∧ (∃ L o, env.frame = some L ∧ g.get? L = none ∧ h.get? L = some o ∧ DT o ∧ ¬ z L) ∧ FF z h g r
theorem FF.map {z z' : Addr → Prop} {h h' g : Heap} (k : ∀ {L : Addr} {o : Obj}, h.get? L = some o → DT o → ¬ z L → ∃ o', h'.get? L = some o' ∧ DT o' ∧ ¬ z' L) : ∀ {l : List Env}, FF z h g l → FF z' h' g l
  | [], _ => trivial
  | _ :: _, ⟨hk, ⟨L, o, hf, hn, ho, hd, hz⟩, hr⟩ => let ⟨o', e, n, q⟩ := k ho hd hz; ⟨hk, ⟨L, o', hf, hn, e, n, q⟩, FF.map k hr⟩
theorem FF.fun {z : Addr → Prop} {h g : Heap} : ∀ {l : List Env}, FF z h g l → h.FunFrames g l
  | [], _ => trivial
  | _ :: _, ⟨hk, ⟨L, o, hf, hn, ho, hd, _⟩, hr⟩ => ⟨hk, ⟨L, o, hf, hn, ho, fun vs q => by obtain ⟨es, ep, hd⟩ := hd; rw [hd] at q; cases q⟩, FF.fun hr⟩
theorem Lv.ff {z : Addr → Prop} {h h' g : Heap} (x : Lv h h') {l : List Env} (f : FF z h g l) : FF z h' g l := FF.map (fun e n q => let ⟨o, e', n'⟩ := x.go e; ⟨o, e', n' n, q⟩) f

structure Ext (env : Env) (μ μ' : List Addr) (h h' : Heap) : Prop where
  pre : μ <+: μ'
  stay : ∀ {a : Addr} {o : Obj}, h.get? a = some o → ¬ Own μ env a → Kp True a o h'
  new : ∀ {a : Addr}, a ∈ μ' → a ∉ μ → h.get? a = none
  live : Lv h h'

/-- where a def was entered: its heap, the law's heap, the frames -/
structure Bs where
  h : Heap
  g : Heap
  fs : List Env
  q : Bool
  gb : ∀ a o, g.get? a = some o → h.get? a = some o
noncomputable abbrev Bs.get? (B : Bs) (a : Addr) : Option Obj := B.h.get? a
structure St (C : Cx) (base : Bs) (b : Nat) (env : Env) (Γ : List Str) (ρ : AEnv) (μ : List Addr) (H : AHeap) (s : Shared) : Prop where
  keep : ∀ a o, base.get? a = some o → Kp (base.g.get? a = none) a o s.heap
  hp : HeapR C μ H s.heap
  er : EnvR C μ s.heap env Γ ρ
  fresh : ∀ {i : Nat} {a : Addr}, b ≤ i → μ[i]? = some a → base.get? a = none
  noloc : base.get? env.locals = none
  lm : env.locals ∉ μ
  nocell : ∀ {x : Str} {c : Addr}, env.cells.lookup x = some c → base.get? c = none
  gens : s.gens = #[]
  os : s.os = C.os
  zl : ∀ {a : Addr}, C.z a → ∃ o, s.heap.get? a = some o
  ff : FF C.z s.heap base.g base.fs

section
variable {C : Cx} {μ μ' μ'' : List Addr} {h h' h'' : Heap} {env : Env} {Γ : List Str} {ρ : AEnv} {H H' : AHeap}

theorem Ext.refl : Ext env μ μ h h := ⟨List.prefix_rfl, fun e _ => .same e, fun p q => absurd p q, .grow fun e => e⟩
theorem Ext.trans (x : Ext env μ μ' h h') (y : Ext env μ' μ'' h' h'') : Ext env μ μ'' h h'' := by
  refine ⟨x.pre.trans y.pre, fun {a o} e ho => (x.stay e ho).trans fun e' => y.stay e' ?_, fun {a} hm hn => ?_, x.live.trans y.live⟩
  · rintro (q | q | q)
    · by_cases hq : a ∈ μ
      · exact ho (.inl hq)
      · rw [x.new q hq] at e; cases e
    · exact ho (.inr (.inl q))
    · exact ho (.inr (.inr q))
  · by_cases hq : a ∈ μ'
    · exact x.new hq hn
    · cases e : h.get? a with
      | none => rfl
      | some o => obtain ⟨o', e', _⟩ := x.live.go e; rw [y.new hm hq] at e'; cases e'

theorem get_prefix {μ μ' : List Addr} {n : Nat} {a : Addr} (p : μ <+: μ') (e : μ[n]? = some a) : μ'[n]? = some a := by
  obtain ⟨t, rfl⟩ := p
  rw [List.getElem?_append_left (List.getElem?_eq_some_iff.mp e).1]; exact e

/-- what stands for a thing of the law's: lists, tables -/
inductive OwnM (o : Obj) : Prop
  | list (vs : Array Value) (k : Nat) (e : o = { cls := .type "list", data := .seq vs k }) : OwnM o
  | dict (es : Array DictEntry) (ep : Nat) (e : o.data = .dict es ep) : OwnM o
/-- what a frame may turn -/
inductive OwnO (o : Obj) : Prop
  | mem (m : OwnM o) : OwnO o
  | cell (v : Option Value) (e : o.data = .cell v) : OwnO o
theorem OwnM.of (R : HeapR C μ H h) {a : Addr} {o : Obj} (q : a ∈ μ) (ho : h.get? a = some o) : OwnM o := by
  obtain ⟨i, e⟩ := List.mem_iff_getElem?.mp q
  cases hH : H[i]? with
  | none => rw [List.getElem?_eq_none_iff, ← R.len] at hH; rw [List.getElem?_eq_none hH] at e; cases e
  | some x =>
    cases x with
    | list xs =>
      obtain ⟨_, b, vs, e', ⟨k, p⟩, _⟩ := R.list hH
      rw [e] at e'; cases e'
      rw [p] at ho; cases ho
      exact .list _ _ rfl
    | dict =>
      obtain ⟨b, k, e', p⟩ := R.dict hH
      rw [e] at e'; cases e'
      rw [p] at ho; cases ho
      exact .dict _ _ rfl
theorem OwnO.of (R : HeapR C μ H h) (N : EnvR C μ h env Γ ρ) {a : Addr} {o : Obj} (q : Own μ env a) (ho : h.get? a = some o) : OwnO o := by
  rcases q with q | q | ⟨x, q⟩
  · exact .mem (.of R q ho)
  · subst q
    obtain ⟨m, ⟨o', es, ep, ho', hd', _⟩, _⟩ := N.ns
    rw [ho'] at ho; cases ho; exact .mem (.dict _ _ hd')
  · obtain ⟨o', o'', ho', hd'⟩ := N.cell q
    rw [ho'] at ho; cases ho; exact .cell _ hd'
theorem OwnO.noF {o : Obj} {vs : Array Value} (q : OwnO o) (hd : o.data = .fields vs) : False := by
  cases q with
  | mem m => cases m with
    | list vs k e => subst e; cases hd
    | dict es ep e => rw [hd] at e; cases e
  | cell v e => rw [hd] at e; cases e
theorem OwnO.noT {o : Obj} {vs : Array Value} {n : Nat} (q : OwnO o) (hc : o.cls = .type "tuple") (hd : o.data = .seq vs n) : False := by
  cases q with
  | mem m => cases m with
    | list vs k e => subst e; simp at hc
    | dict es ep e => rw [hd] at e; cases e
  | cell v e => rw [hd] at e; cases e
theorem notOwn_tuple (R : HeapR C μ H h) (N : EnvR C μ h env Γ ρ) {a : Addr} {items : Array Value} (t : h.IsTuple a items) : ¬ Own μ env a := fun q =>
  let ⟨_, ho, hc, _, hd⟩ := t; (OwnO.of R N q ho).noT hc hd
theorem notOwn_fields (R : HeapR C μ H h) (N : EnvR C μ h env Γ ρ) {a : Addr} {o : Obj} {vs : Array Value} (ho : h.get? a = some o) (hd : o.data = .fields vs) : ¬ Own μ env a := fun q => (OwnO.of R N q ho).noF hd
theorem IsTuple.stays {a : Addr} {items : Array Value} (t : h.IsTuple a items) (e : ∀ o, h.get? a = some o → h'.get? a = some o) : h'.IsTuple a items :=
  let ⟨o, ho, r⟩ := t; ⟨o, e o ho, r⟩
theorem IsTuple.kept {z : Prop} {a : Addr} {items : Array Value} (t : h.IsTuple a items) (e : ∀ {o : Obj}, h.get? a = some o → Kp z a o h') : h'.IsTuple a items :=
  let ⟨o, ho, hc, n, hd⟩ := t; ⟨o, (e ho).ex (fun _ _ q => by rw [hd] at q; cases q), hc, n, hd⟩

/-- what is told of a thing stays true where its objects stay -/
theorem VR.gmap (hr : ∀ {n : Nat} {a : Addr}, μ[n]? = some a → μ'[n]? = some a) (ht : ∀ {a : Addr} {its : Array Value}, h.IsTuple a its → h'.IsTuple a its)
    (he : ∀ {a : Addr} {o : Obj} {vs : Array Value}, h.get? a = some o → o.data = .fields vs → ∃ o' vs', h'.get? a = some o' ∧ o'.cls = o.cls ∧ o'.data = .fields vs') {x : AV} {v : Value} (q : VR C μ h x v) : VR C μ' h' x v :=
  @VR.rec C μ h (fun x v _ => VR C μ' h' x v) (fun xs vs _ => VRs C μ' h' xs vs) .none .bool .int .str (fun t z l _ ih => .tup (ht t) z l ih) (fun e => .ref (hr e)) .scr .fn
    (fun hk e z hc hd => let ⟨_, hd⟩ := hd; let ⟨_, vs', e', c', d'⟩ := he e hd; .exc hk e' z (c'.trans hc) ⟨vs', d'⟩) .nil (fun _ _ a r => .cons a r) x v q
theorem VRs.gmap (hr : ∀ {n : Nat} {a : Addr}, μ[n]? = some a → μ'[n]? = some a) (ht : ∀ {a : Addr} {its : Array Value}, h.IsTuple a its → h'.IsTuple a its)
    (he : ∀ {a : Addr} {o : Obj} {vs : Array Value}, h.get? a = some o → o.data = .fields vs → ∃ o' vs', h'.get? a = some o' ∧ o'.cls = o.cls ∧ o'.data = .fields vs') {xs : List AV} {vs : List Value} (q : VRs C μ h xs vs) : VRs C μ' h' xs vs := by
  induction xs generalizing vs with
  | nil => cases q; exact .nil
  | cons x xs ih => cases q with
    | cons a r => exact .cons (VR.gmap hr ht he a) (ih r)
theorem Kp.fields {z : Prop} {a : Addr} {o : Obj} {vs : Array Value} (e : Kp z a o h') (hd : o.data = .fields vs) : ∃ o' vs', h'.get? a = some o' ∧ o'.cls = o.cls ∧ o'.data = .fields vs' :=
  ⟨o, vs, e.ex (fun _ _ q => by rw [hd] at q; cases q), rfl, hd⟩
theorem VR.mono' {P : Addr → Prop} (p : μ <+: μ') (st : ∀ {a : Addr} {o : Obj}, h.get? a = some o → ¬ P a → Kp True a o h')
    (ht : ∀ {a : Addr} {items : Array Value}, h.IsTuple a items → ¬ P a) (hf : ∀ {a : Addr} {o : Obj} {vs : Array Value}, h.get? a = some o → o.data = .fields vs → ¬ P a) {x : AV} {v : Value} (q : VR C μ h x v) : VR C μ' h' x v :=
  q.gmap (get_prefix p) (fun t => IsTuple.kept t fun e => st e (ht t)) fun e hd => (st e (hf e hd)).fields hd
theorem VRs.mono' {P : Addr → Prop} (p : μ <+: μ') (st : ∀ {a : Addr} {o : Obj}, h.get? a = some o → ¬ P a → Kp True a o h')
    (ht : ∀ {a : Addr} {items : Array Value}, h.IsTuple a items → ¬ P a) (hf : ∀ {a : Addr} {o : Obj} {vs : Array Value}, h.get? a = some o → o.data = .fields vs → ¬ P a) {xs : List AV} {vs : List Value} (q : VRs C μ h xs vs) : VRs C μ' h' xs vs :=
  q.gmap (get_prefix p) (fun t => IsTuple.kept t fun e => st e (ht t)) fun e hd => (st e (hf e hd)).fields hd
theorem VR.mono (R : HeapR C μ H h) (N : EnvR C μ h env Γ ρ) (x : Ext env μ μ' h h') {a : AV} {v : Value} (q : VR C μ h a v) : VR C μ' h' a v :=
  VR.mono' (P := Own μ env) x.pre x.stay (notOwn_tuple R N) (notOwn_fields R N) q
theorem VRs.mono (R : HeapR C μ H h) (N : EnvR C μ h env Γ ρ) (x : Ext env μ μ' h h') {a : List AV} {v : List Value} (q : VRs C μ h a v) : VRs C μ' h' a v :=
  VRs.mono' (P := Own μ env) x.pre x.stay (notOwn_tuple R N) (notOwn_fields R N) q
theorem VR.keeps (k : ∀ {a : Addr} {o : Obj}, h.get? a = some o → h'.get? a = some o) {a : AV} {v : Value} (q : VR C μ h a v) : VR C μ h' a v :=
  VR.mono' (P := fun _ => False) List.prefix_rfl (fun e _ => .same (k e)) (fun _ => id) (fun _ _ => id) q
theorem VRs.keeps (k : ∀ {a : Addr} {o : Obj}, h.get? a = some o → h'.get? a = some o) {a : List AV} {v : List Value} (q : VRs C μ h a v) : VRs C μ h' a v :=
  VRs.mono' (P := fun _ => False) List.prefix_rfl (fun e _ => .same (k e)) (fun _ => id) (fun _ _ => id) q
end
end Mine

namespace Mine
open PySem PySem.Calls PyProof.Rows

section
variable {C : Cx} {μ μ' μ'' : List Addr} {h h' h'' : Heap} {base : Bs} {env : Env} {Γ : List Str} {ρ : AEnv} {H H' : AHeap} {b : Nat} {s s' : Shared}

theorem EnvR.mono (N : EnvR C μ h env Γ ρ) (hL : ∀ m, h.Ns env.locals m → h'.Ns env.locals m)
    (hc : ∀ (x : Str) (c : Addr) (o : Obj), env.cells.lookup x = some c → h.get? c = some o → h'.get? c = some o) (hv : ∀ {x : AV} {v : Value}, VR C μ h x v → VR C μ' h' x v) : EnvR C μ' h' env Γ ρ where
  kind := N.kind
  ns := by
    obtain ⟨m, n, q⟩ := N.ns
    exact ⟨m, hL m n, fun e k r => let ⟨u, e', v⟩ := q e k r; ⟨u, e', hv v⟩⟩
  cells := fun k => by
    obtain ⟨c, o, e, ⟨ob, eb, db⟩, q⟩ := N.cells k
    exact ⟨c, o, e, ⟨ob, hc _ c ob e eb, db⟩, fun e r => let ⟨u, e', v⟩ := q e r; ⟨u, e', hv v⟩⟩
  cell := fun e => let ⟨o, ob, eb, db⟩ := N.cell e; ⟨o, ob, hc _ _ ob e eb, db⟩
  inj := N.inj
  globals := N.globals
  builtins := N.builtins

theorem HeapR.get (R : HeapR C μ H h) {i : Nat} {a : Addr} (e : μ[i]? = some a) : ∃ o, H[i]? = some o := by
  have : i < H.length := R.len ▸ (List.getElem?_eq_some_iff.mp e).1
  exact ⟨_, List.getElem?_eq_getElem this⟩

theorem HeapR.keeps (R : HeapR C μ H h) (k : ∀ {a : Addr} {o : Obj}, h.get? a = some o → h'.get? a = some o) : HeapR C μ H h' where
  len := R.len
  nd := R.nd
  list := fun e => by
    obtain ⟨l, a, vs, e', ⟨n, p⟩, q⟩ := R.list e
    exact ⟨l, a, vs, e', ⟨n, k p⟩, q.keeps k⟩
  dict := fun e => let ⟨a, n, e', p⟩ := R.dict e; ⟨a, n, e', k p⟩

/-- nothing of the old goes, new things may come -/
theorem St.grow (S : St C base b env Γ ρ μ H s) (k : ∀ {a : Addr} {o : Obj}, s.heap.get? a = some o → s'.heap.get? a = some o) (hg : s'.gens = s.gens) (ho : s'.os = s.os) : St C base b env Γ ρ μ H s' where
  keep := fun a o e => (S.keep a o e).map id k
  hp := S.hp.keeps k
  er := S.er.mono (fun _ n => n.at fun _ e => k e) (fun _ _ _ _ e => k e) (fun q => q.keeps k)
  fresh := S.fresh
  noloc := S.noloc
  lm := S.lm
  nocell := S.nocell
  gens := hg.trans S.gens
  os := ho.trans S.os
  zl := fun z => let ⟨_, e⟩ := S.zl z; ⟨_, k e⟩
  ff := (Lv.grow k).ff S.ff

theorem Ext.grow (k : ∀ {a : Addr} {o : Obj}, h.get? a = some o → h'.get? a = some o) : Ext env μ μ h h' := ⟨List.prefix_rfl, fun e _ => .same (k e), fun p q => absurd p q, .grow k⟩

theorem ns_one {m m' : Str → Option Value} {L : Addr} (n : h.Ns L m) (n' : h.Ns L m') : m = m' := by
  obtain ⟨o, es, ep, ho, hd, _, e⟩ := n
  obtain ⟨o', es', ep', ho', hd', _, e'⟩ := n'
  rw [ho] at ho'; cases ho'; rw [hd] at hd'; cases hd'
  funext x; rw [← e, ← e']
theorem get_memμ {μ : List Addr} {a : Addr} {i : Nat} (q : μ[i]? = some a) : a ∈ μ := List.mem_iff_getElem?.mpr ⟨i, q⟩
/-- one own object turns -/
theorem St.core {D : Addr} {ρ' : AEnv} {H' : AHeap} {s' : Shared} (S : St C base b env Γ ρ μ H s) (own : Own μ env D) (hb : base.get? D = none)
    (st : ∀ {c : Addr} {o : Obj}, s.heap.get? c = some o → ¬ (c = D) → s'.heap.get? c = some o) (lv : Lv s.heap s'.heap) (hg : s'.gens = s.gens) (ho : s'.os = s.os)
    (hp : (∀ {x : List AV} {v : List Value}, VRs C μ s.heap x v → VRs C μ s'.heap x v) → HeapR C μ H' s'.heap)
    (er : (∀ {x : AV} {v : Value}, VR C μ s.heap x v → VR C μ s'.heap x v) → EnvR C μ s'.heap env Γ ρ') : St C base b env Γ ρ' μ H' s' ∧ Ext env μ μ s.heap s'.heap := by
  have ht : ∀ {c : Addr} {items : Array Value}, s.heap.IsTuple c items → ¬ (c = D) := fun t e => notOwn_tuple S.hp S.er t (e ▸ own)
  have hf : ∀ {c : Addr} {o : Obj} {vs : Array Value}, s.heap.get? c = some o → o.data = .fields vs → ¬ (c = D) := fun e d e' => notOwn_fields S.hp S.er e d (e' ▸ own)
  refine ⟨⟨fun c o e => (S.keep c o e).map id fun e1 => st e1 fun e' => ?_, hp fun q => VRs.mono' (P := (· = D)) List.prefix_rfl (fun e n => .same (st e n)) ht hf q, er fun q => VR.mono' (P := (· = D)) List.prefix_rfl (fun e n => .same (st e n)) ht hf q, S.fresh, S.noloc, S.lm, S.nocell, hg.trans S.gens, ho.trans S.os, fun z => ?_, lv.ff S.ff⟩,
    ⟨List.prefix_rfl, fun e n => .same (st e fun e' => n (e' ▸ own)), fun p q => absurd p q, lv⟩⟩
  · rw [e', hb] at e; cases e
  · obtain ⟨o, e⟩ := S.zl z
    obtain ⟨o', e', _⟩ := lv.go e
    exact ⟨o', e'⟩
/-- the same, of one that is no thing of the law's -/
theorem St.but {D : Addr} {ρ' : AEnv} {s' : Shared} (S : St C base b env Γ ρ μ H s) (own : Own μ env D) (hm : D ∉ μ) (hb : base.get? D = none)
    (st : ∀ {c : Addr} {o : Obj}, s.heap.get? c = some o → ¬ (c = D) → s'.heap.get? c = some o) (lv : Lv s.heap s'.heap) (hg : s'.gens = s.gens) (ho : s'.os = s.os)
    (er : (∀ {x : AV} {v : Value}, VR C μ s.heap x v → VR C μ s'.heap x v) → EnvR C μ s'.heap env Γ ρ') : St C base b env Γ ρ' μ H s' ∧ Ext env μ μ s.heap s'.heap :=
  S.core own hb st lv hg ho (fun monos => ⟨S.hp.len, S.hp.nd, fun e => let ⟨l, c, ws, e', ⟨k, p⟩, q⟩ := S.hp.list e; ⟨l, c, ws, e', ⟨k, st p fun q => hm (q ▸ get_memμ e')⟩, monos q⟩,
    fun e => let ⟨c, k, e', p⟩ := S.hp.dict e; ⟨c, k, e', st p fun q => hm (q ▸ get_memμ e')⟩⟩) er
theorem cell_ne {c : Addr} {o : Option Value} {L : Addr} {m : Str → Option Value} (hc : h.IsCell c o) (n : h.Ns L m) : c ≠ L := fun e => by
  subst e; obtain ⟨ob, eb, db⟩ := hc; obtain ⟨o', es, ep, ho, hd, _⟩ := n
  rw [eb] at ho; cases ho; rw [db] at hd; cases hd
theorem ns_lv {L : Addr} {m : Str → Option Value} (n' : h'.Ns L m) (k : ∀ {a : Addr} {o : Obj}, h.get? a = some o → ¬ (a = L) → h'.get? a = some o) : Lv h h' :=
  let ⟨_, _, _, ho', hd, _⟩ := n'; .but ho' (fun _ _ => ⟨_, _, hd⟩) k
theorem EnvR.cellne (N : EnvR C μ h env Γ ρ) {x : Str} {c : Addr} (e : env.cells.lookup x = some c) : ¬ (c = env.locals) :=
  let ⟨_, hc⟩ := N.cell e; let ⟨_, n, _⟩ := N.ns; cell_ne hc n
/-- the same, where the frame's own table is known by its names alone -/
theorem St.growL (S : St C base b env Γ ρ μ H s) {m : Str → Option Value} (n : s.heap.Ns env.locals m) (n' : s'.heap.Ns env.locals m) (k : ∀ {a : Addr} {o : Obj}, a ≠ env.locals → s.heap.get? a = some o → s'.heap.get? a = some o) (hg : s'.gens = s.gens) (ho : s'.os = s.os) :
    St C base b env Γ ρ μ H s' ∧ Ext env μ μ s.heap s'.heap :=
  S.but (.inr (.inl rfl)) S.lm S.noloc (fun e q => k q e) (ns_lv n' fun e q => k q e) hg ho fun mono => S.er.mono (fun m' x => ns_one n x ▸ n') (fun _ _ _ e1 e2 => k (S.er.cellne e1) e2) mono

theorem St.tok (S : St C base b env Γ ρ μ H s) (t : Nat) : St C base b env Γ ρ μ H { s with toks := t } := S.grow (fun e => e) rfl rfl

theorem size_push (h : Heap) (o : Obj) : (h.push o).objs.size = h.objs.size + 1 := Heap.size_push ..
theorem St.push (S : St C base b env Γ ρ μ H s) (o : Obj) : St C base b env Γ ρ μ H { s with heap := s.heap.push o } := S.grow (fun e => Heap.get?_push_of_some _ e) rfl rfl
theorem Ext.push (o : Obj) : Ext env μ μ h (h.push o) := Ext.grow (fun e => Heap.get?_push_of_some _ e)

theorem mem_get {μ : List Addr} {a : Addr} (q : a ∈ μ) : ∃ i : Nat, μ[i]? = some a := List.mem_iff_getElem?.mp q
theorem get_mem {μ : List Addr} {a : Addr} {i : Nat} (q : μ[i]? = some a) : a ∈ μ := List.mem_iff_getElem?.mpr ⟨i, q⟩
theorem HeapR.live (R : HeapR C μ H h) {a : Addr} (q : a ∈ μ) : ∃ o, h.get? a = some o := by
  obtain ⟨i, e⟩ := mem_get q
  obtain ⟨o, eo⟩ := R.get e
  cases o with
  | list xs => obtain ⟨_, a', vs, e', ⟨n, p⟩, _⟩ := R.list eo; rw [e] at e'; cases e'; exact ⟨_, p⟩
  | dict => obtain ⟨a', n, e', p⟩ := R.dict eo; rw [e] at e'; cases e'; exact ⟨_, p⟩
theorem none_size (h : Heap) : h.get? h.objs.size = none := by
  cases e : h.get? h.objs.size with
  | none => rfl
  | some o => exact absurd (Heap.lt_size e) (Nat.lt_irrefl _)
theorem none_ge {h : Heap} {a : Addr} (ha : h.objs.size ≤ a) : h.get? a = none := by
  cases e : h.get? a with
  | none => rfl
  | some o => exact absurd (Heap.lt_size e) (Nat.not_lt.mpr ha)

theorem PlainList.not_ns {a : Addr} {items : Array Value} {m : Str → Option Value} (p : h.PlainList a items) (n : h.Ns a m) : False := by
  obtain ⟨k, p⟩ := p
  obtain ⟨o, es, ep, ho, hd, _⟩ := n
  rw [p] at ho; cases ho; cases hd
theorem PlainList.not_cell {a : Addr} {items : Array Value} {v : Option Value} (p : h.PlainList a items) (n : h.IsCell a v) : False := by
  obtain ⟨k, p⟩ := p
  obtain ⟨o, ho, hd⟩ := n
  rw [p] at ho; cases ho; cases hd

inductive SnocR {α : Type} (l : List α) (x y : α) (i : Nat) : Prop
  | old (e : l[i]? = some y) : SnocR l x y i
  | new (hi : i = l.length) (hy : y = x) : SnocR l x y i
theorem snoc_get {α : Type} {l : List α} {x y : α} {i : Nat} (e : (l ++ [x])[i]? = some y) : SnocR l x y i := by
  by_cases hi : i < l.length
  · rw [List.getElem?_append_left hi] at e; exact .old e
  · by_cases h : i = l.length
    · subst h; rw [List.getElem?_concat_length] at e; exact .new rfl (Option.some.inj e).symm
    · rw [List.getElem?_eq_none (by rw [List.length_append, List.length_singleton]; exact Nat.lt_of_le_of_ne (Nat.not_lt.mp hi) (Ne.symm h))] at e; cases e
/-- an object that stands beside the tracked ones is tracked from here on -/
theorem St.trackO (S : St C base b env Γ ρ μ H s) {a : Addr} {o : AObj} (h1 : ∀ {xs : List AV}, o = .list xs → xs.length ≤ lim ∧ ∃ vs : List Value, s.heap.PlainList a vs.toArray ∧ VRs C μ s.heap xs vs)
    (h2 : o = .dict → ∃ n : Nat × Array (Option Value), s.heap.get? a = some { cls := .type "dict", data := .dict #[] n.1, slots := n.2 }) (hn : a ∉ μ) (hne : env.locals ≠ a) (hb : base.get? a = none) :
    St C base b env Γ ρ (μ ++ [a]) (H ++ [o]) s := by
  have p := List.prefix_append μ [a]
  have last : (μ ++ [a])[H.length]? = some a := by rw [← S.hp.len]; exact List.getElem?_concat_length
  have monos : ∀ {x : List AV} {v : List Value}, VRs C μ s.heap x v → VRs C (μ ++ [a]) s.heap x v := fun q => q.gmap (get_prefix p) id fun e d => ⟨_, _, e, rfl, d⟩
  refine ⟨S.keep, ⟨by rw [List.length_append, List.length_append, S.hp.len]; rfl, List.nodup_append.mpr ⟨S.hp.nd, List.pairwise_singleton _ _, fun x hx y hy e => ?_⟩, fun e => ?_, fun e => ?_⟩, S.er.mono (fun _ e => e) (fun _ _ _ _ e => e) (fun q => q.gmap (get_prefix p) id fun e d => ⟨_, _, e, rfl, d⟩), fun hi e => ?_, S.noloc, fun q => ?_, S.nocell, S.gens, S.os, S.zl, S.ff⟩
  · rw [List.mem_singleton.mp hy] at e; exact hn (e ▸ hx)
  · cases snoc_get e with
    | old e => obtain ⟨l, c, us, e', p', q⟩ := S.hp.list e; exact ⟨l, c, us, get_prefix p e', p', monos q⟩
    | new hi hy => obtain ⟨l, vs, p', q⟩ := h1 hy.symm; exact ⟨l, a, vs, hi ▸ last, p', monos q⟩
  · cases snoc_get e with
    | old e => obtain ⟨c, n, e', p'⟩ := S.hp.dict e; exact ⟨c, n, get_prefix p e', p'⟩
    | new hi hy => obtain ⟨n, p'⟩ := h2 hy.symm; exact ⟨a, n, hi ▸ last, p'⟩
  · cases snoc_get e with
    | old e => exact S.fresh hi e
    | new _ hy => rw [hy]; exact hb
  · rcases List.mem_append.mp q with q | q
    · exact S.lm q
    · exact hne (List.mem_singleton.mp q)
/-- a list -/
theorem St.track (S : St C base b env Γ ρ μ H s) {a : Addr} {vs : List Value} {xs : List AV} (hl : s.heap.PlainList a vs.toArray) (hv : VRs C μ s.heap xs vs) (hn : a ∉ μ) (hb : base.get? a = none) (hz : xs.length ≤ lim) :
    St C base b env Γ ρ (μ ++ [a]) (H ++ [.list xs]) s :=
  S.trackO (fun e => by cases e; exact ⟨hz, vs, hl, hv⟩) (fun e => by cases e) hn (fun e => by obtain ⟨_, n, _⟩ := S.er.ns; exact PlainList.not_ns hl (e ▸ n)) hb
theorem Ext.track {a : Addr} (ha : h.get? a = none) (k : ∀ {a : Addr} {o : Obj}, h.get? a = some o → h'.get? a = some o) : Ext env μ (μ ++ [a]) h h' :=
  ⟨List.prefix_append .., fun e _ => .same (k e), fun p q => by
    rcases List.mem_append.mp p with p | p
    · exact absurd p q
    · simp at p; subst p; exact ha, .grow k⟩
theorem Ext.trackX {a : Addr} (x : Ext env μ μ' h h') (ha : h.get? a = none) : Ext env μ (μ' ++ [a]) h h' :=
  ⟨x.pre.trans (List.prefix_append ..), x.stay, fun p q => by
    rcases List.mem_append.mp p with p | p
    · exact x.new p q
    · simp at p; subst p; exact ha, x.live⟩

theorem base_none (S : St C base b env Γ ρ μ H s) {a : Addr} (ha : s.heap.get? a = none) : base.get? a = none := by
  cases e : base.get? a with
  | none => rfl
  | some o => obtain ⟨o', e'⟩ := (S.keep _ _ e).live; rw [e'] at ha; cases ha
theorem not_mem (S : St C base b env Γ ρ μ H s) {a : Addr} (ha : s.heap.get? a = none) : a ∉ μ := fun q => by
  obtain ⟨o, e⟩ := S.hp.live q; rw [ha] at e; cases e

/-- a new list -/
theorem St.newList (S : St C base b env Γ ρ μ H s) {vs : List Value} {xs : List AV} (hv : VRs C μ s.heap xs vs) (hz : xs.length ≤ lim) :
    St C base b env Γ ρ (μ ++ [s.heap.objs.size]) (H ++ [.list xs]) { s with heap := s.heap.push { cls := .type "list", data := .seq vs.toArray } } :=
  (S.push _).track (vs := vs) ⟨0, Heap.get?_push_size _ rfl⟩ (hv.keeps fun e => Heap.get?_push_of_some _ e) (not_mem S (none_size _)) (base_none S (none_size _)) hz
theorem Ext.newList {o : Obj} : Ext env μ (μ ++ [h.objs.size]) h (h.push o) := Ext.track (none_size _) fun e => Heap.get?_push_of_some _ e

/-- a tracked list turns -/
theorem St.turn (S : St C base b env Γ ρ μ H s) {r : Nat} {a : Addr} {xs ys : List AV} {us : List Value} {h' : Heap} (er : H[r]? = some (.list xs)) (ea : μ[r]? = some a) (hb : b ≤ r)
    (hl : h'.PlainList a us.toArray) (hs : Heap.SameBut a s.heap h') (hv : VRs C μ s.heap ys us) (hz : ys.length ≤ lim) :
    St C base b env Γ ρ μ (H.set r (.list ys)) { s with heap := h' } ∧ Ext env μ μ s.heap h' := by
  obtain ⟨_, a', vs, ea', pl, _⟩ := S.hp.list er
  rw [ea] at ea'; cases ea'
  have st : ∀ {c : Addr} {o : Obj}, s.heap.get? c = some o → ¬ (c = a) → h'.get? c = some o := fun e n => (hs.2 _ n).trans e
  have hr : r < H.length := (List.getElem?_eq_some_iff.mp er).1
  have hne : ∀ {i : Nat} {c : Addr}, i ≠ r → μ[i]? = some c → c ≠ a := fun {i c} hi e e' => hi ((List.getElem?_inj (List.getElem?_eq_some_iff.mp e).1 S.hp.nd).mp (e.trans (e' ▸ ea.symm)))
  have lv : Lv s.heap h' := let ⟨_, p⟩ := hl; let ⟨_, p'⟩ := pl; .but p (fun e d => by rw [p'] at e; cases e; obtain ⟨_, _, q⟩ := d; cases q) st
  refine S.core (s' := { s with heap := h' }) (.inl (get_memμ ea)) (S.fresh hb ea) st lv rfl rfl (fun monos => ⟨by rw [List.length_set]; exact S.hp.len, S.hp.nd, fun {i zs} e => ?_, fun {i} e => ?_⟩)
    fun mono => S.er.mono (fun m n => n.at fun _ e => st e fun e' => PlainList.not_ns pl (e' ▸ n)) (fun x c o e1 e2 => st e2 fun e' => let ⟨_, n⟩ := S.er.cell e1; PlainList.not_cell pl (e' ▸ n)) mono
  · by_cases hi : i = r
    · subst hi
      rw [List.getElem?_set_self hr] at e
      cases e
      exact ⟨hz, a, us, ea, hl, monos hv⟩
    · rw [List.getElem?_set_ne (Ne.symm hi)] at e
      obtain ⟨l, c, ws, e', ⟨n, p⟩, q⟩ := S.hp.list e
      exact ⟨l, c, ws, e', ⟨n, st p (hne hi e')⟩, monos q⟩
  · by_cases hi : i = r
    · subst hi
      rw [List.getElem?_set_self hr] at e
      cases e
    · rw [List.getElem?_set_ne (Ne.symm hi)] at e
      obtain ⟨c, n, e', p⟩ := S.hp.dict e
      exact ⟨c, n, e', st p (hne hi e')⟩

theorem slot_lt {Γ : List Str} {x : Str} {i : Nat} (e : slot Γ x = some i) : Γ[i]? = some x := by
  unfold slot at e
  rw [List.findIdx?_eq_some_iff_getElem] at e
  obtain ⟨hi, h1, _⟩ := e
  rw [List.getElem?_eq_getElem hi]; exact congrArg some (eq_of_beq h1)
theorem slot_inj {Γ : List Str} {x y : Str} {i : Nat} (e : slot Γ x = some i) (e' : slot Γ y = some i) : x = y := by
  have := slot_lt e
  rw [slot_lt e'] at this
  exact (Option.some.inj this).symm

inductive SetR (ρ : AEnv) (x y : Str) (j : Nat) (v z : AV) : Prop
  | new (hy : y = x) (hz : z = v) : SetR ρ x y j v z
  | old (hy : y ≠ x) (e : ρ[j]? = some (some z)) : SetR ρ x y j v z
theorem set_slot {x y : Str} {i j : Nat} {v z : AV} (ex : slot Γ x = some i) (ey : slot Γ y = some j) (e : (ρ.set i (some v))[j]? = some (some z)) : SetR ρ x y j v z := by
  by_cases hj : j = i
  · subst hj
    by_cases hl : j < ρ.length
    · rw [List.getElem?_set_self hl] at e; cases e; exact .new (slot_inj ex ey).symm rfl
    · rw [List.set_eq_of_length_le (Nat.not_lt.mp hl), List.getElem?_eq_none (Nat.not_lt.mp hl)] at e; cases e
  · rw [List.getElem?_set_ne (Ne.symm hj)] at e
    exact .old (fun e' => hj (by subst e'; rw [ex] at ey; exact (Option.some.inj ey).symm)) e
theorem bind_local {x : Str} {i : Nat} {v : AV} {u : Value} {m : Str → Option Value} (N : EnvR C μ h env Γ ρ) (ex : slot Γ x = some i) (hk : env.kindOf x = some .local) (hv : VR C μ h' v u) (n' : h'.Ns env.locals fun y => if y = x then some u else m y)
    (q : ∀ {x : Str} {i : Nat} {v : AV}, slot Γ x = some i → env.kindOf x = some .local → ρ[i]? = some (some v) → ∃ u, m x = some u ∧ VR C μ h' v u) (hs : ∀ {c : Addr} {o : Option Value}, h.IsCell c o → h'.IsCell c o)
    (mono : ∀ {x : AV} {v : Value}, VR C μ h x v → VR C μ h' x v) : EnvR C μ h' env Γ (ρ.set i (some v)) := by
  refine ⟨N.kind, ⟨_, n', fun ey ky ez => ?_⟩, fun ky => ?_, fun e => ?_, N.inj, N.globals, N.builtins⟩
  · cases set_slot ex ey ez with
    | new hy hz => subst hy hz; exact ⟨u, if_pos rfl, hv⟩
    | old ne ez =>
      obtain ⟨u', e', v'⟩ := q ey ky ez
      exact ⟨u', (if_neg ne).trans e', v'⟩
  · obtain ⟨c, o, e, hc, q⟩ := N.cells ky
    refine ⟨c, o, e, hs hc, fun ey ez => ?_⟩
    cases set_slot ex ey ez with
    | new hy hz => subst hy; rw [hk] at ky; rcases ky with ky | ky <;> cases ky
    | old ne ez => obtain ⟨u', e', v'⟩ := q ey ez; exact ⟨u', e', mono v'⟩
  · obtain ⟨o, hc⟩ := N.cell e
    exact ⟨o, hs hc⟩
theorem bind_cell {x : Str} {i : Nat} {v : AV} {u : Value} {c₀ : Addr} (N : EnvR C μ h env Γ ρ) (ex : slot Γ x = some i) (hk : env.kindOf x = some .cell) (ec : env.cells.lookup x = some c₀) (hv : VR C μ h' v u) (hc' : h'.IsCell c₀ (some u))
    (ns : ∀ {m : Str → Option Value}, h.Ns env.locals m → h'.Ns env.locals m) (hs : ∀ {c : Addr} {o : Option Value}, h.IsCell c o → c ≠ c₀ → h'.IsCell c o) (mono : ∀ {x : AV} {v : Value}, VR C μ h x v → VR C μ h' x v) : EnvR C μ h' env Γ (ρ.set i (some v)) := by
  obtain ⟨m, n, q⟩ := N.ns
  refine ⟨N.kind, ⟨m, ns n, fun ey ky ez => ?_⟩, fun {y} ky => ?_, fun {y c} e => ?_, N.inj, N.globals, N.builtins⟩
  · cases set_slot ex ey ez with
    | new hy hz => subst hy; rw [hk] at ky; cases ky
    | old ne ez => obtain ⟨u', e', v'⟩ := q ey ky ez; exact ⟨u', e', mono v'⟩
  · obtain ⟨c, o, e, hc, q⟩ := N.cells ky
    by_cases hcc : c = c₀
    · refine ⟨c₀, some u, hcc ▸ e, hc', fun ey ez => ?_⟩
      cases set_slot ex ey ez with
      | new hy hz => subst hz; exact ⟨u, rfl, hv⟩
      | old ne _ => exact absurd (N.inj (hcc ▸ e) ec) ne
    · refine ⟨c, o, e, hs hc hcc, fun ey ez => ?_⟩
      cases set_slot ex ey ez with
      | new hy hz => subst hy; rw [ec] at e; cases e; exact absurd rfl hcc
      | old ne ez => obtain ⟨u', e', v'⟩ := q ey ez; exact ⟨u', e', mono v'⟩
  · by_cases hcc : c = c₀
    · exact ⟨some u, hcc ▸ hc'⟩
    · obtain ⟨o, hc⟩ := N.cell e
      exact ⟨o, hs hc hcc⟩
theorem St.bind {A : Around} {E : Value → Shared → Prop} {M : Model} (S : St C base b env Γ ρ μ H s) {x : Str} {i : Nat} {v : AV} {u : Value} {Q : Unit → Shared → Prop} (ex : slot Γ x = some i)
    (hk : env.kindOf x = some .local ∨ env.kindOf x = some .cell) (hv : VR C μ s.heap v u)
    (h : ∀ s', St C base b env Γ (ρ.set i (some v)) μ H s' → Ext env μ μ s.heap s'.heap → Q () s') : wpAny M A (storeName env x u) Q E s := by
  rcases hk with hk | hk
  · obtain ⟨m, n, q⟩ := S.er.ns
    refine wpAny_storeName_local hk n (fun h' n' hs => ?_) (by rw [S.er.kind]; rfl)
    have st : ∀ {c : Addr} {o : Obj}, s.heap.get? c = some o → ¬ (c = env.locals) → h'.get? c = some o := fun e n => (hs.2 _ n).trans e
    obtain ⟨S', X⟩ := S.but (s' := { s with heap := h', toks := s.toks + 1 }) (.inr (.inl rfl)) S.lm S.noloc st (ns_lv n' st) rfl rfl fun mono =>
      bind_local S.er ex hk (mono hv) n' (fun a b c => let ⟨u, e, z⟩ := q a b c; ⟨u, e, mono z⟩) (fun hc => hc.sameBut hs (cell_ne hc n)) mono
    exact h _ S' X
  · obtain ⟨c₀, o₀, ec, hc₀, _⟩ := S.er.cells (.inl hk)
    refine wpAny_storeName_cell S.er.kind hk ec hc₀ fun h' hc' hs => ?_
    have st : ∀ {c : Addr} {o : Obj}, s.heap.get? c = some o → ¬ (c = c₀) → h'.get? c = some o := fun e n => (hs.2 _ n).trans e
    obtain ⟨ob', eb', db'⟩ := id hc₀
    have lv : Lv s.heap h' := let ⟨_, eb, _⟩ := hc'; .but eb (fun e d => by rw [eb'] at e; cases e; obtain ⟨_, _, q⟩ := d; rw [db'] at q; cases q) st
    have hm : c₀ ∉ μ := fun q => by
      cases OwnM.of S.hp q eb' with
      | list vs k e => subst e; cases db'
      | dict es ep e => rw [db'] at e; cases e
    obtain ⟨S', X⟩ := S.but (s' := { s with heap := h' }) (.inr (.inr ⟨x, ec⟩)) hm (S.nocell ec) st lv rfl rfl fun mono =>
      bind_cell S.er ex hk ec (mono hv) hc' (fun n => n.sameBut hs (cell_ne hc₀ n).symm) (fun hc hne => hc.sameBut hs hne) mono
    exact h _ S' X

/-- what was there when the law began stands as it stood -/
theorem St.kg (S : St C base b env Γ ρ μ H s) {a : Addr} {o : Obj} (e : base.g.get? a = some o) : s.heap.get? a = some o := by
  cases S.keep a o (base.gb a o e) with
  | same e' => exact e'
  | slot hz _ _ _ => rw [e] at hz; cases hz
theorem St.notZ (S : St C base b env Γ ρ μ H s) {a : Addr} (h : s.heap.get? a = none) : ¬ C.z a := fun z => by
  obtain ⟨o, e⟩ := S.zl z
  rw [h] at e; cases e
end
end Mine

namespace Mine
open PySem PySem.Calls PyProof.Rows

/-! The ledger's rules for a state of ours: every object but the frame's table is on the ledger. -/
noncomputable def allNews (h : Heap) (L : Addr) : List (Addr × Obj) := (List.range h.objs.size).filterMap fun a => if a = L then none else (h.get? a).map fun o => (a, o)
theorem get_empty (a : Addr) : ({} : Heap).get? a = none := by simp [Heap.get?]
theorem fr0 {h : Heap} {L : Addr} {m : Str → Option Value} (n : h.Ns L m) : Fr {} L h m := ⟨n, fun b o e => (by rw [get_empty] at e; cases e), Nat.zero_le _⟩
theorem mem_allNews {h : Heap} {L a : Addr} {o : Obj} (hne : a ≠ L) (e : h.get? a = some o) : (a, o) ∈ allNews h L := by
  unfold allNews
  rw [List.mem_filterMap]
  exact ⟨a, List.mem_range.mpr (Heap.lt_size e), by rw [if_neg hne, e]; rfl⟩
theorem news0 (h : Heap) (L : Addr) : News {} L h (allNews h L) := by
  intro p hp
  unfold allNews at hp
  rw [List.mem_filterMap] at hp
  obtain ⟨a, _, e⟩ := hp
  split at e
  · cases e
  · rename_i hne
    cases eo : h.get? a with
    | none => rw [eo] at e; cases e
    | some o => rw [eo] at e; cases e; exact ⟨eo, hne, get_empty _⟩
theorem news_keep {h h' : Heap} {L : Addr} {l : List (Addr × Obj)} (N : News {} L h' (l ++ allNews h L)) {a : Addr} {o : Obj} (hne : a ≠ L) (e : h.get? a = some o) : h'.get? a = some o :=
  (N (a, o) (List.mem_append_right _ (mem_allNews hne e))).1

structure AOk (base : Bs) (A : Around) (n : Nat) : Prop where
  depth : A.depth + n + 60 < recursionLimit
  units : A.units + 4 * n + 400 < cLine
  handled : base.q = false → A.handled = none
  frames : A.frames = some base.fs
  guards : A.guards = some []

section
variable {C : Cx} {μ : List Addr} {h h' : Heap} {base : Bs} {env : Env} {Γ : List Str} {ρ : AEnv} {H H' : AHeap} {b : Nat} {s s' : Shared} {A : Around} {E : Value → Shared → Prop} {Q : Value → Shared → Prop}

/-- what is wanted behind an expression -/
abbrev After (C : Cx) (base : Bs) (b : Nat) (env : Env) (Γ : List Str) (ρ : AEnv) (μ : List Addr) (s : Shared) (v : AV) (H' : AHeap) (Q : Value → Shared → Prop) : Prop :=
  ∀ (u : Value) (s' : Shared) (μ' : List Addr), Ext env μ μ' s.heap s'.heap → St C base b env Γ ρ μ' H' s' → VR C μ' s'.heap v u → Q u s'

theorem small_bits {i : Int} (h : small i = true) : Builtin.Int.intBits i ≤ 64 := by
  have h' : i.natAbs < 2 ^ 60 := of_decide_eq_true h
  exact intBits_le_64 (by (first | lia | omega)) (by (first | lia | omega))
theorem big_bits {i : Int} (h : i.natAbs < big) : Builtin.Int.intBits i ≤ 2 ^ 20 := by
  unfold Builtin.Int.intBits
  split
  · exact Nat.zero_le _
  · rename_i hn
    have hn' : i.natAbs ≠ 0 := by intro e; apply hn; rw [beq_iff_eq]; (first | lia | omega)
    have : i.natAbs.log2 < 5000 := (Nat.log2_lt hn').mpr h
    have h2 : (5000 : Nat) < 2 ^ 20 := by decide
    (first | lia | omega)
theorem mulOk_ok {a c : Int} (h : mulOk a c = true) : IntMulOk a c := by
  unfold mulOk at h
  simp only [Bool.or_eq_true, Bool.and_eq_true, decide_eq_true_eq] at h
  rcases h with (h | h) | h
  · exact .of_left (small_bits h)
  · exact .of_right (small_bits h)
  · exact .of_bits (big_bits h.1) (big_bits h.2)
theorem big_noPylong {x y : Int} (h : y.natAbs < big) : Builtin.divisionGoesByPylong x y = false := by
  refine PyProof.noPylong_of_log2 ?_
  by_cases h0 : y.natAbs = 0
  · rw [h0]; decide
  · have : y.natAbs.log2 < 5000 := (Nat.log2_lt h0).mpr h
    (first | lia | omega)
theorem lim_line {n : Nat} (h : n ≤ lim) : n ≤ sizeLine := Nat.le_trans h (by decide)

theorem IsList.of_plain {h : Heap} {a : Addr} {items : Array Value} (p : h.PlainList a items) : h.IsList a items := let ⟨n, e⟩ := p; ⟨_, e, rfl, n, rfl⟩

/-- what a rule of the ledger's brings: one new list, all else stays -/
theorem St.ledger (S : St C base b env Γ ρ μ H s) {m : Str → Option Value} {a : Addr} {xs : List AV} {vs : List Value} {h' : Heap} {n : Nat} {l : List (Addr × Obj)} (nm : s.heap.Ns env.locals m)
    (F : Fr {} env.locals h' m) (N : News {} env.locals h' (l ++ allNews s.heap env.locals)) (hl : (a, ({ cls := .type "list", data := .seq vs.toArray n } : Obj)) ∈ l)
    (ha : s.heap.get? a = none) (hv : VRs C μ s.heap xs vs) (hz : xs.length ≤ lim) : St C base b env Γ ρ (μ ++ [a]) (H ++ [.list xs]) { s with heap := h' } ∧ Ext env μ (μ ++ [a]) s.heap h' := by
  have k : ∀ {a : Addr} {o : Obj}, a ≠ env.locals → s.heap.get? a = some o → h'.get? a = some o := fun hne e => news_keep N hne e
  obtain ⟨S', X⟩ := S.growL (s' := { s with heap := h' }) nm F.ns k rfl rfl
  have hv' : VRs C μ h' xs vs := VRs.mono S.hp S.er X hv
  have hp : h'.PlainList a vs.toArray := ⟨n, (N _ (List.mem_append_left _ hl)).1⟩
  exact ⟨S'.track hp hv' (not_mem S ha) (base_none S ha) hz, X.trackX ha⟩

theorem VR.isInt {i : Int} {u : Value} (q : VR C μ h (.int i) u) : ∃ t, u = .int i t := by cases q; exact ⟨_, rfl⟩
theorem VR.isRef {r : Nat} {u : Value} (q : VR C μ h (.ref r) u) : ∃ a, u = .ref a ∧ μ[r]? = some a := by cases q; exact ⟨_, rfl, by assumption⟩

theorem VRs.replicate {xs : List AV} {vs : List Value} (q : VRs C μ h xs vs) : ∀ n : Nat, VRs C μ h (List.replicate n xs).flatten (List.replicate n vs).flatten
  | 0 => .nil
  | n + 1 => by simp only [List.replicate_succ, List.flatten_cons]; exact q.append (VRs.replicate q n)

theorem alloc_ok {xs : List AV} {v : AV} (e : alloc xs H = .ok v H') : xs.length ≤ lim ∧ v = .ref H.length ∧ H' = H ++ [.list xs] := by
  unfold alloc at e
  split at e
  · rename_i h; cases e; exact ⟨h, rfl, rfl⟩
  · cases e

/-- both are whole numbers -/
inductive I2 {α : Type} (x y : AV) (f : Int → Int → α) (v : α) : Prop
  | mk (a b : Int) (hx : x = .int a) (hy : y = .int b) (e : f a b = v) : I2 x y f v
theorem intV_eq {x : AV} {i : Int} (h : intV x = some i) : x = .int i := by
  cases x with
  | int j => cases h; rfl
  | _ => cases h
theorem ints2_ok {α : Type} {no v : α} {x y : AV} {f : Int → Int → α} (e : ints2 no x y f = v) (hn : no ≠ v) : I2 x y f v := by
  unfold ints2 at e
  cases h1 : intV x with
  | none => rw [h1] at e; exact absurd e hn
  | some a =>
    cases h2 : intV y with
    | none => rw [h1, h2] at e; exact absurd e hn
    | some b => rw [h1, h2] at e; exact ⟨a, b, intV_eq h1, intV_eq h2, e⟩
theorem bad_ne {v : AV} : Res.bad ≠ .ok v H' := fun e => by cases e
/-- a list in both worlds -/
inductive LsR (C : Cx) (μ : List Addr) (h : Heap) (xs : List AV) (p : Value) : Prop
  | mk (a : Addr) (vs : List Value) (hp : p = .ref a) (pl : h.PlainList a vs.toArray) (q : VRs C μ h xs vs) : LsR C μ h xs p
theorem listAt_ok {x : AV} {p : Value} {xs : List AV} (R : HeapR C μ H h) (hx : VR C μ h x p) (e : listAt H x = some xs) : LsR C μ h xs p := by
  unfold listAt at e
  cases x with
  | ref r =>
    cases hx with
    | ref ea =>
      have e : (H[r]?).bind objL = some xs := e
      cases e1 : H[r]? with
      | none => rw [e1] at e; cases e
      | some o =>
        cases o with
        | dict => rw [e1] at e; cases e
        | list ys =>
          rw [e1] at e; cases e
          obtain ⟨_, a', vs, ea', p1, q1⟩ := R.list e1
          rw [ea] at ea'; cases ea'
          exact ⟨_, vs, rfl, p1, q1⟩
  | _ => cases e
theorem addL_ok {x y v : AV} {p q : Value} (S : St C base b env Γ ρ μ H s) (hx : VR C μ s.heap x p) (hy : VR C μ s.heap y q) (e : lists2 x y H = .ok v H') (k : After C base b env Γ ρ μ s v H' Q) : wpAny (model C.prog C.w) A (binaryOp .Add p q) Q E s := by
  unfold lists2 at e
  cases h1 : listAt H x with
  | none => rw [h1] at e; cases e
  | some xs =>
    cases h2 : listAt H y with
    | none => rw [h1, h2] at e; cases e
    | some ys =>
      rw [h1, h2] at e
      obtain ⟨hz, rfl, rfl⟩ := alloc_ok e
      obtain ⟨a, vs, rfl, p1, q1⟩ := listAt_ok S.hp hx h1
      obtain ⟨c, us, rfl, p2, q2⟩ := listAt_ok S.hp hy h2
      obtain ⟨m, nm, _⟩ := S.er.ns
      refine add_arrays (fr0 nm) (news0 _ _) (IsList.of_plain p1) (IsList.of_plain p2) (fun h' F N => ?_) ?_
      · obtain ⟨S', X⟩ := S.ledger (l := [_]) nm F N (.head _) (none_size _) (q1.append q2) hz
        exact k _ _ _ X S' (.ref (by rw [← S.hp.len]; simp))
      · rw [List.size_toArray, List.size_toArray, ← q1.length, ← q2.length, ← List.length_append]; exact lim_line hz
theorem if_ok {c : Prop} [Decidable c] {r : Res AV} {v : AV} (e : (if c then r else .bad) = .ok v H') : c ∧ r = .ok v H' := by
  by_cases h : c
  · rw [if_pos h] at e; exact ⟨h, e⟩
  · rw [if_neg h] at e; cases e
theorem ints2_go {α : Type} {no w : α} {K : Value → Value → Sem Value} {x y : AV} {p q : Value} {f : Int → Int → α} (hn : no ≠ w) (hx : VR C μ h x p) (hy : VR C μ h y q) (e : ints2 no x y f = w)
    (g : ∀ a c t u, f a c = w → wpAny (model C.prog C.w) A (K (.int a t) (.int c u)) Q E s) : wpAny (model C.prog C.w) A (K p q) Q E s := by
  obtain ⟨a, c, rfl, rfl, e⟩ := ints2_ok e hn
  cases hx with
  | int _ t => cases hy with
    | int _ u => exact g a c t u e
theorem ok_int {i : Int} {v : AV} (e : Res.ok (AV.int i) H = .ok v H') (S : St C base b env Γ ρ μ H s) (k : After C base b env Γ ρ μ s v H' Q) (n : Nat) (t : Tok) : Q (.int i t) { s with toks := n } := by
  cases e; exact k _ _ μ .refl (S.tok _) (.int _ _)
theorem binop_ok {op : Operator} {x y v : AV} {p q : Value} (S : St C base b env Γ ρ μ H s) (hx : VR C μ s.heap x p) (hy : VR C μ s.heap y q) (e : binop op x y H = .ok v H')
    (k : After C base b env Γ ρ μ s v H' Q) : wpAny (model C.prog C.w) A (binaryOp op p q) Q E s := by
  cases op with
  | Add =>
    have e : (if (intV x).isSome = true then ints2 .bad x y fun a b => .ok (.int (a + b)) H else lists2 x y H) = .ok v H' := e
    by_cases hi : (intV x).isSome = true
    · exact ints2_go (K := binaryOp _) bad_ne hx hy ((if_pos hi).symm.trans e) fun a c t u e => wpAny_add_int (ok_int e S k _ _)
    · exact addL_ok S hx hy ((if_neg hi).symm.trans e) k
  | Sub => exact ints2_go (K := binaryOp _) bad_ne hx hy e fun a c t u e => PyProof.Rows.sub_int (ok_int e S k _ _)
  | Mult =>
    have e : (if (intV x).isSome = true then (ints2 Res.bad x y fun a b => if mulOk a b then Res.ok (.int (a * b)) H else Res.bad) else Res.bad) = .ok v H' := e
    by_cases hi : (intV x).isSome = true
    · exact ints2_go (K := binaryOp _) bad_ne hx hy ((if_pos hi).symm.trans e) fun a c t u e => PyProof.Rows.mul_int (ok_int (if_ok e).2 S k _ _) (mulOk_ok (if_ok e).1)
    · rw [if_neg hi] at e; cases e
  | FloorDiv => exact ints2_go (K := binaryOp _) bad_ne hx hy e fun a c t u e => PyProof.Rows.floordiv_int (if_ok e).1.1 (ok_int (if_ok e).2 S k _ _) (.inl (big_noPylong (if_ok e).1.2))
  | Mod => exact ints2_go (K := binaryOp _) bad_ne hx hy e fun a c t u e => PyProof.Rows.mod_int (if_ok e).1 (ok_int (if_ok e).2 S k _ _)
  | Pow => cases e
  | _ => cases e

end
end Mine

namespace Mine
open PySem PySem.Calls PyProof.Rows PySem.SeqAt

/-! The classes of exceptions. -/
noncomputable def bmVE : List Value := [.type "ValueError", .type "Exception", .type "BaseException", .type "object"]

/-- a class of its own, and what stands behind it in its order -/
inductive ExcC (h : Heap) (C : Addr) (tl : List Value) : Prop
  | mk (N : Addr) (nm q : Str) (bs : List Value) (hdct : Bool) (sn : List Str) (sub : List Value) (ab : Bool) (col : Option Bool) (dd : Option Addr) (k0 k1 k2 k3 k5 : Option Value) (mN : Str → Option Value)
    (hC : h.get? C = some (excClassObj nm q C N bs tl hdct sn sub ab col dd k0 k1 k2 k3 k5 "ValueError.__new__")) (hN : h.Ns N mN) (hq : ∀ n ∈ quietNames, mN n = none) (hcl : mN "__class__" = none) : ExcC h C tl
theorem ExcC.keeps {h h' : Heap} {C : Addr} {tl : List Value} (x : ExcC h C tl) (k : ∀ b o, h.get? b = some o → h'.get? b = some o) : ExcC h' C tl := by
  obtain ⟨N, nm, q, bs, hdct, sn, sub, ab, col, dd, k0, k1, k2, k3, k5, mN, hC, hN, hq, hcl⟩ := x
  exact ⟨N, nm, q, bs, hdct, sn, sub, ab, col, dd, k0, k1, k2, k3, k5, mN, k _ _ hC, hN.keeps k, hq, hcl⟩

/-- the order behind a class: own classes, then the built-in ones -/
inductive TailC (h : Heap) : List Value → Prop
  | base : TailC h bmVE
  | own {C : Addr} {tl : List Value} (x : ExcC h C bmVE) (e : tl = .ref C :: bmVE) : TailC h tl
theorem TailC.keeps {h h' : Heap} {tl : List Value} (x : TailC h tl) (k : ∀ b o, h.get? b = some o → h'.get? b = some o) : TailC h' tl := by
  cases x with
  | base => exact .base
  | own x e => exact .own (x.keeps k) e
theorem TailC.tailQ {h : Heap} {tl : List Value} (x : TailC h tl) : OwnTailQ h bmVE tl := by
  cases x with
  | base => exact .base
  | own x e =>
    obtain ⟨N, nm, q, bs, hdct, sn, sub, ab, col, dd, k0, k1, k2, k3, k5, mN, hC, hN, hq, hcl⟩ := x
    subst e
    exact .own hC hN hq .base


/-- the table of modules stands -/
inductive SmF (g : Heap) : Prop
  | mk (o : Obj) (h : g.get? sysModules = some o) : SmF g
/-- the classes of a row's exceptions: number 0 is the first of them, the others come right behind it -/
structure ExcG (C : Cx) (T : Tab) (g : Heap) : Prop where
  cls : ∀ {k : Nat} {x : Str}, T.excs.lookup k = some x → ∃ Ck tl, C.mg x = some (.ref Ck) ∧ C.ea k = .ref Ck ∧ ExcC g Ck tl ∧ TailC g tl ∧ tl = (if k = 0 then bmVE else C.ea 0 :: bmVE)
  inj : ∀ {k j : Nat} {x y : Str}, T.excs.lookup k = some x → T.excs.lookup j = some y → C.ea k = C.ea j → k = j
  has0 : ∀ {k : Nat} {x : Str}, T.excs.lookup k = some x → ∃ y, T.excs.lookup 0 = some y
  eo : ∀ {k : Nat}, C.eo k ↔ ∃ x, T.excs.lookup k = some x
  sm : SmF g
end Mine

namespace Mine
open PySem PySem.Calls PyProof.Rows PySem.SeqAt

/-! An exception on its way through a frame. -/
section
variable {M : Model} {A : Around} {E : Value → Shared → Prop} {s : Shared}

/-- what a new entry leaves behind -/
inductive Noted (fs : List Env) (e : Addr) (oe : Obj) (h h' : Heap) : Prop
  | mk (T : Addr) (oT : Obj) (ts : Array Value) (oe' : Obj) (vs' : Array Value) (hn : h.get? T = none) (hT : h'.get? T = some oT) (dT : oT.data = .fields ts) (zT : 3 < ts.size) (he : h'.get? e = some oe') (hc : oe'.cls = oe.cls)
    (hd : oe'.data = .fields vs') (h1 : vs'[1]? = some (.ref T)) (hk : ∀ {b : Addr} {o : Obj}, b ≠ e → b ∉ fs.filterMap (·.frame) → h.get? b = some o → h'.get? b = some o)
    (hs : ∀ {b : Addr} {o : Obj}, b ≠ e → h.get? b = some o → ∃ sl, h'.get? b = some { o with slots := sl }) : Noted fs e oe h h'

theorem entry_ok {g : Heap} {env : Env} {outer : List Env} {L e : Addr} {oe : Obj} {vs : Array Value} {head : Value} {hadNext : Bool} {Q : Unit → Shared → Prop}
    (hfr : A.frames = some (env :: outer)) (hl : s.heap.FunFrames g (env :: outer)) (hf : env.frame = some L) (he : s.heap.get? e = some oe) (hd : oe.data = .fields vs) (hsz : 1 < vs.size)
    (k : ∀ h', Noted (env :: outer) e oe s.heap h' → Q () { s with heap := h' }) :
    wpAny M A (do let a ← frameOf env; let pl ← entryPlaceOf L hadNext; let b ← EntryCells.newEntry head a .none (rawInt L) .none pl; setField (.ref e) 1 b) Q E s := by
  have hene : e ∉ (env :: outer).filterMap (·.frame) := fun hm => by
    obtain ⟨_, o, ho, hnf⟩ := hl.mem hm
    rw [he] at ho; injection ho with ho; subst ho; exact hnf vs hd
  refine wpAny_bind (wpAny_frameOf_fun hfr hl hf fun h₁ hs₁ => ?_)
  refine wpAny_bind (wpAny_entryPlaceOf fun pl hpl => ?_)
  unfold EntryCells.newEntry newFields
  refine wpAny_bind (wpAny_newObj_type ?_ (hpl.sizeOk5 _ _ _ _ _))
  have he₁ : h₁.get? e = some oe := (hs₁.2.1 e hene).trans he
  generalize hob : ({ cls := .type "traceback", dict := none, data := .fields ([head, .ref L, .none, rawInt L, .none] ++ (if pl.isEmpty then List.replicate 6 Value.none else pl)).toArray } : Obj) = ob
  have hdb : ob.data = .fields ([head, .ref L, .none, rawInt L, .none] ++ (if pl.isEmpty then List.replicate 6 Value.none else pl)).toArray := by rw [← hob]
  have he₂ := Heap.get?_push_of_some (h := h₁) ob he₁
  refine wpAny_setField he₂ hd hsz (k _ ?_)
  have hTe : h₁.objs.size ≠ e := Nat.ne_of_gt (Heap.lt_size he₁)
  have hd₃ := Obj.data_mapFields hd (·.setIfInBounds 1 (Value.ref h₁.objs.size))
  have hT : ((h₁.push ob).update e (Obj.mapFields (·.setIfInBounds 1 (Value.ref h₁.objs.size)))).get? h₁.objs.size = some ob :=
    (Heap.get?_update_other _ _ (Ne.symm hTe)).trans (Heap.get?_push_size h₁ (by rw [← hob]; rfl))
  have hk : ∀ {b : Addr} {o : Obj}, b ≠ e → h₁.get? b = some o → ((h₁.push ob).update e (Obj.mapFields (·.setIfInBounds 1 (Value.ref h₁.objs.size)))).get? b = some o := fun {b o} hbe hb => by
    rw [Heap.get?_update_other _ _ (Ne.symm hbe)]
    exact Heap.get?_push_of_some _ hb
  refine ⟨h₁.objs.size, ob, _, _, _, none_ge (Nat.le_of_eq hs₁.1.symm), hT, hdb, by simp only [List.size_toArray, List.length_append, List.length_cons, List.length_nil] <;> (first | lia | omega), Heap.get?_update_self _ he₂ (Obj.isFreed_of_fields hd₃), Obj.cls_mapFields _ _, hd₃, by simp [hsz], ?_, ?_⟩
  · intro b o hbe hbf hb
    exact hk hbe ((hs₁.2.1 b hbf).trans hb)
  · intro b o hbe hb
    obtain ⟨sl, e1⟩ := hs₁.2.2 b o hb
    exact ⟨sl, hk hbe e1⟩

/-- an exception's record: its class, its entry -/
inductive XR (cls : Value) (p : Bool) (u : Value) (h0 h : Heap) : Prop
  | new (a : Addr) (o : Obj) (vs : Array Value) (e : u = .ref a) (hp : p = false) (ho : h.get? a = some o) (hn : h0.get? a = none) (hc : o.cls = cls) (hd : o.data = .fields vs) (h1 : vs[1]? = some .none) : XR cls p u h0 h
  | on (a : Addr) (o : Obj) (vs : Array Value) (T : Addr) (oT : Obj) (ts : Array Value) (e : u = .ref a) (ho : h.get? a = some o) (hn : h0.get? a = none) (hc : o.cls = cls) (hd : o.data = .fields vs) (h1 : vs[1]? = some (.ref T))
    (hT : h.get? T = some oT) (nT : h0.get? T = none) (dT : oT.data = .fields ts) (zT : 3 < ts.size) (hne : T ≠ a) : XR cls p u h0 h
theorem XR.back {cls : Value} {p : Bool} {u : Value} {h0 h1 h : Heap} (l : Lv h0 h1) (x : XR cls p u h1 h) : XR cls p u h0 h := by
  have q : ∀ {a : Addr}, h1.get? a = none → h0.get? a = none := fun {a} e => by
    cases e0 : h0.get? a with
    | none => rfl
    | some o => obtain ⟨o', e', _⟩ := l.go e0; rw [e] at e'; cases e'
  cases x with
  | new a o vs e hp ho hn hc hd h1 => exact .new a o vs e hp ho (q hn) hc hd h1
  | on a o vs T oT ts e ho hn hc hd h1 hT nT dT zT hne => exact .on a o vs T oT ts e ho (q hn) hc hd h1 hT (q nT) dT zT hne

/-- the heap of before and that of after: what lay there when the statement began stands, tables of the frames may have got slots -/
inductive XStep (fs : List Env) (h0 h h' : Heap) : Prop
  | mk (keep : ∀ {b : Addr} {o : Obj}, h.get? b = some o → (∀ vs, o.data ≠ .fields vs) → b ∉ fs.filterMap (·.frame) → h'.get? b = some o)
    (old : ∀ {b : Addr} {o o0 : Obj}, h0.get? b = some o0 → h.get? b = some o → b ∉ fs.filterMap (·.frame) → h'.get? b = some o)
    (slot : ∀ {b : Addr} {o : Obj}, h.get? b = some o → (∀ vs, o.data ≠ .fields vs) → ∃ sl, h'.get? b = some { o with slots := sl })
    (rec : ∀ {b : Addr} {o : Obj} {vs : Array Value}, h.get? b = some o → o.data = .fields vs → ∃ o' vs', h'.get? b = some o' ∧ o'.cls = o.cls ∧ o'.data = .fields vs') : XStep fs h0 h h'
theorem XStep.refl {fs : List Env} {h0 h : Heap} : XStep fs h0 h h := ⟨fun e _ _ => e, fun _ e _ => e, fun {_ o} e _ => ⟨o.slots, e⟩, fun e d => ⟨_, _, e, rfl, d⟩⟩
theorem XStep.trans {fs : List Env} {h0 h h1 h2 : Heap} (x : XStep fs h0 h h1) (y : XStep fs h0 h1 h2) : XStep fs h0 h h2 := by
  obtain ⟨x1, x2, x3, x4⟩ := x
  obtain ⟨y1, y2, y3, y4⟩ := y
  refine ⟨fun e n f => y1 (x1 e n f) n f, fun e0 e f => y2 e0 (x2 e0 e f) f, fun e n => ?_, fun e d => ?_⟩
  · obtain ⟨sl, e1⟩ := x3 e n
    obtain ⟨sl', e2⟩ := y3 e1 n
    exact ⟨sl', e2⟩
  · obtain ⟨o', vs', e1, c1, d1⟩ := x4 e d
    obtain ⟨o'', vs'', e2, c2, d2⟩ := y4 e1 d1
    exact ⟨o'', vs'', e2, c2.trans c1, d2⟩
/-- one new record's field turns -/
theorem XStep.field {fs : List Env} {h0 h : Heap} {a : Addr} {o : Obj} {vs : Array Value} {f : Array Value → Array Value} (hn : h0.get? a = none) (ho : h.get? a = some o) (hd : o.data = .fields vs) : XStep fs h0 h (h.update a (Obj.mapFields f)) := by
  have hd₃ := Obj.data_mapFields hd f
  have hs := Heap.get?_update_self (Obj.mapFields f) ho (Obj.isFreed_of_fields hd₃)
  refine ⟨fun {b o'} e n _ => ?_, fun {b o' o0} e0 e _ => ?_, fun {b o'} e n => ⟨o'.slots, ?_⟩, fun {b o' vs'} e d => ?_⟩
  · rw [Heap.get?_update_other _ _ fun q => by subst q; rw [ho] at e; cases e; exact n _ hd]; exact e
  · rw [Heap.get?_update_other _ _ fun q => by subst q; rw [hn] at e0; cases e0]; exact e
  · rw [Heap.get?_update_other _ _ fun q => by subst q; rw [ho] at e; cases e; exact n _ hd]; exact e
  · by_cases q : a = b
    · subst q; rw [ho] at e; cases e; exact ⟨_, _, hs, Obj.cls_mapFields _ _, hd₃⟩
    · exact ⟨o', vs', (Heap.get?_update_other _ _ q).trans e, rfl, d⟩
theorem XStep.noted {fs : List Env} {h0 h h' : Heap} {e : Addr} {oe : Obj} {vs : Array Value} (hn : h0.get? e = none) (he : h.get? e = some oe) (hd : oe.data = .fields vs) (x : Noted fs e oe h h') : XStep fs h0 h h' := by
  obtain ⟨T, oT, ts, oe', vs', nT, hT, dT, zT, he', hc, hd', h1, hk, hs⟩ := x
  refine ⟨fun {b o} eb n f => hk (fun q => by subst q; rw [he] at eb; cases eb; exact n _ hd) f eb, fun {b o o0} e0 eb f => hk (fun q => by subst q; rw [hn] at e0; cases e0) f eb,
    fun {b o} eb n => hs (fun q => by subst q; rw [he] at eb; cases eb; exact n _ hd) eb, fun {b o ws} eb d => ?_⟩
  by_cases q : b = e
  · subst q; rw [he] at eb; cases eb; exact ⟨_, _, he', hc, hd'⟩
  · obtain ⟨sl, e1⟩ := hs q eb
    exact ⟨_, ws, e1, rfl, d⟩

theorem note_ok {g h0 : Heap} {env : Env} {outer : List Env} {L : Addr} {cls u : Value} {p : Bool} {Q : Unit → Shared → Prop} (hfr : A.frames = some (env :: outer)) (hl : s.heap.FunFrames g (env :: outer)) (hf : env.frame = some L)
    (x : XR cls p u h0 s.heap) (l : Lv h0 s.heap) (k : ∀ h', XStep (env :: outer) h0 s.heap h' → XR cls true u h0 h' → Q () { s with heap := h' }) : wpAny M A (noteFrame u env) Q E s := by
  have q : ∀ {a : Addr}, s.heap.get? a = none → h0.get? a = none := fun {a} e => by
    cases e0 : h0.get? a with
    | none => rfl
    | some o => obtain ⟨o', e', _⟩ := l.go e0; rw [e] at e'; cases e'
  have fin : ∀ {a : Addr} {o : Obj} {vs : Array Value} {h1 h' : Heap}, u = .ref a → h0.get? a = none → h1.get? a = some o → o.cls = cls → o.data = .fields vs → XStep (env :: outer) h0 s.heap h1 → (∀ {b : Addr}, h1.get? b = none → h0.get? b = none) →
      Noted (env :: outer) a o h1 h' → Q () { s with heap := h' } := by
    intro a o vs h1 h' eu hn ho hc hd st qn N
    refine k h' (st.trans (.noted hn ho hd N)) ?_
    obtain ⟨T, oT, ts, oe', vs', nT, hT, dT, zT, he', hc', hd', h1', _, _⟩ := N
    exact .on a oe' vs' T oT ts eu he' hn (hc'.trans hc) hd' h1' hT (qn nT) dT zT fun e => by rw [e, ho] at nT; cases nT
  unfold noteFrame
  simp only [hf]
  cases x with
  | new a o vs e hp ho hn hc hd h1 =>
    subst e
    refine wpAny_bind (wpAny_field ho hd h1 ?_)
    rw [if_neg (by decide)]
    exact entry_ok hfr hl hf ho hd (Array.getElem?_eq_some_iff.mp h1).1 fun h' N => fin rfl hn ho hc hd .refl q N
  | on a o vs T oT ts e ho hn hc hd h1 hT nT dT zT hne =>
    subst e
    refine wpAny_bind (wpAny_field ho hd h1 ?_)
    rw [if_pos (show (Value.ref T != Value.none) = true from by simp)]
    refine wpAny_bind (wpAny_field hT dT (x := ts[3]'zT) (Array.getElem?_eq_some_iff.mpr ⟨zT, rfl⟩) ?_)
    by_cases h3 : (ts[3]'zT == rawInt L) = true
    · rw [if_pos h3]
      exact wpAny_pure (k _ .refl (.on a o vs T oT ts rfl ho hn hc hd h1 hT nT dT zT hne))
    · rw [if_neg h3]
      refine wpAny_bind (wpAny_setField hT dT zT ?_)
      have st : XStep (env :: outer) h0 s.heap (s.heap.update T (Obj.mapFields (·.setIfInBounds 3 Value.none))) := .field nT hT dT
      have ho' : (s.heap.update T (Obj.mapFields (·.setIfInBounds 3 Value.none))).get? a = some o := (Heap.get?_update_other _ _ hne).trans ho
      refine entry_ok hfr (hl.of_keeps fun b ob hb hnf => ?_) hf ho' hd (Array.getElem?_eq_some_iff.mp h1).1 fun h' N => fin rfl hn ho' hc hd st ?_ N
      · refine ⟨ob, (Heap.get?_update_other _ _ fun e => ?_).trans hb, rfl⟩
        subst e; rw [hT] at hb; cases hb; exact hnf _ dT
      · intro b e
        by_cases hb : T = b
        · subst hb; exact nT
        · rw [Heap.get?_update_other _ _ hb] at e; exact q e

theorem flight_ok {h0 : Heap} {fs : List Env} {f : Option Addr} {cls u : Value} {Q : Unit → Shared → Prop} (x : XR cls true u h0 s.heap) (k : ∀ h', XStep fs h0 s.heap h' → XR cls true u h0 h' → Q () { s with heap := h' }) : wpAny M A (setFlight u f) Q E s := by
  cases x with
  | new a o vs e hp ho hn hc hd h1 => cases hp
  | on a o vs T oT ts e ho hn hc hd h1 hT nT dT zT hne =>
    subst e
    unfold setFlight
    refine wpAny_bind (wpAny_field ho hd h1 ?_)
    rw [if_pos (show (Value.ref T != Value.none) = true from by simp)]
    refine wpAny_setField hT dT zT (k _ (.field nT hT dT) ?_)
    have hd₃ := Obj.data_mapFields dT (·.setIfInBounds 3 (f.elim .none fun f => rawInt f))
    exact .on a o vs T _ _ rfl ((Heap.get?_update_other _ _ hne).trans ho) hn hc hd h1 (Heap.get?_update_self _ hT (Obj.isFreed_of_fields hd₃)) nT hd₃ (by simpa using zT) hne
end
end Mine

namespace Mine
open PySem PySem.Calls PyProof.Rows PySem.SeqAt

section
variable {C : Cx} {μ μ' : List Addr} {h h' : Heap} {base : Bs} {env : Env} {Γ : List Str} {ρ ρ0 : AEnv} {H H0 : AHeap} {b : Nat} {s s0 : Shared}

/-- a frame's table -/
theorem FF.mem {z : Addr → Prop} {g : Heap} : ∀ {l : List Env} {L : Addr}, FF z h g l → L ∈ l.filterMap (·.frame) → g.get? L = none ∧ ∃ o, h.get? L = some o ∧ DT o
  | [], _, _, q => by simp at q
  | e :: r, L, ⟨_, ⟨L', o, hf, hn, ho, hd, _⟩, hr⟩, q => by
    rw [List.filterMap_cons, hf] at q
    rcases List.mem_cons.mp q with q | q
    · subst q; exact ⟨hn, o, ho, hd⟩
    · exact FF.mem hr q
theorem FF.off {z : Addr → Prop} {g : Heap} {l : List Env} {a : Addr} {o : Obj} (f : FF z h g l) (e : h.get? a = some o) (n : ND o) : a ∉ l.filterMap (·.frame) := fun q => by
  obtain ⟨_, o', e', d⟩ := f.mem q
  rw [e] at e'; cases e'; exact d.no n

theorem FF.fresh {z : Addr → Prop} {g : Heap} {l : List Env} {a : Addr} (f : FF z h g l) (e : h.get? a = none) : a ∉ l.filterMap (·.frame) := fun q => by
  obtain ⟨_, o', e', d⟩ := f.mem q
  rw [e] at e'; cases e'
theorem FF.but {z : Addr → Prop} {g : Heap} {D : Addr} (k : ∀ {a : Addr} {o : Obj}, h.get? a = some o → ¬ (a = D) → h'.get? a = some o) : ∀ {l : List Env}, FF z h g l → D ∉ l.filterMap (·.frame) → FF z h' g l
  | [], _, _ => trivial
  | e :: r, ⟨hk, ⟨L, o, hf, hn, ho, hd, hz⟩, hr⟩, q => by
    rw [List.filterMap_cons, hf] at q
    exact ⟨hk, ⟨L, o, hf, hn, k ho (fun e => q (e ▸ List.mem_cons_self ..)), hd, hz⟩, FF.but k hr fun m => q (List.mem_cons_of_mem _ m)⟩

theorem XStep.lv {fs : List Env} {h0 : Heap} (x : XStep fs h0 h h') : Lv h h' := by
  obtain ⟨x1, x2, x3, x4⟩ := x
  refine ⟨fun {a o} e => ?_⟩
  by_cases q : ∃ vs, o.data = .fields vs
  · obtain ⟨vs, d⟩ := q
    obtain ⟨o', vs', e', _, _⟩ := x4 e d
    exact ⟨o', e', fun dt => by obtain ⟨es, ep, q⟩ := dt; rw [d] at q; cases q⟩
  · obtain ⟨sl, e'⟩ := x3 e fun vs d => q ⟨vs, d⟩
    exact ⟨_, e', fun ⟨es, ep, d⟩ => ⟨es, ep, d⟩⟩
theorem XStep.kp {fs : List Env} {h0 g : Heap} {z : Addr → Prop} (x : XStep fs h0 h h') (f : FF z h g fs) {a : Addr} {o : Obj} (e : h.get? a = some o) (q : (∀ vs, o.data ≠ .fields vs) ∨ ∃ o0, h0.get? a = some o0) : Kp (g.get? a = none) a o h' := by
  obtain ⟨x1, x2, x3, x4⟩ := x
  by_cases m : a ∈ fs.filterMap (·.frame)
  · obtain ⟨hg, o', e', d⟩ := f.mem m
    rw [e] at e'; cases e'
    obtain ⟨sl, e1⟩ := x3 e fun vs d' => by obtain ⟨_, _, d⟩ := d; rw [d] at d'; cases d'
    exact .slot hg d sl e1
  · rcases q with n | ⟨o0, e0⟩
    · exact .same (x1 e n m)
    · exact .same (x2 e0 e m)

theorem St.xstep (S0 : St C base b env Γ ρ0 μ' H0 s0) (S : St C base b env Γ ρ μ H s) (X : Ext env μ' μ s0.heap s.heap) (st : XStep base.fs s0.heap s.heap h') : St C base b env Γ ρ μ H { s with heap := h' } ∧ Ext env μ' μ s0.heap h' := by
  have lv := st.lv
  have kn : ∀ {a : Addr} {o : Obj}, s.heap.get? a = some o → (∀ vs, o.data ≠ .fields vs) → ND o → h'.get? a = some o := fun e n d => (st.kp S.ff e (.inl n)).ex d
  have tu : ∀ {a : Addr} {its : Array Value}, s.heap.IsTuple a its → h'.IsTuple a its := fun t => by
    obtain ⟨o, e, hc, n, hd⟩ := t
    exact ⟨o, kn e (fun _ q => by rw [hd] at q; cases q) (fun _ _ q => by rw [hd] at q; cases q), hc, n, hd⟩
  have sr : ∀ {a : Addr} {o : Obj} {vs : Array Value}, s.heap.get? a = some o → o.data = .fields vs → ∃ o' vs', h'.get? a = some o' ∧ o'.cls = o.cls ∧ o'.data = .fields vs' := fun e d => by
    obtain ⟨_, _, _, x4⟩ := st
    exact x4 e d
  refine ⟨⟨fun a o e => ?_, ⟨S.hp.len, S.hp.nd, fun e => ?_, fun e => ?_⟩, S.er.mono (fun m n => ?_) (fun x c o ec e => ?_) (fun q => q.gmap id tu sr), S.fresh, S.noloc, S.lm, S.nocell, S.gens, S.os, fun z => ?_, lv.ff S.ff⟩, ⟨X.pre, fun {a o} e n => ?_, X.new, X.live.trans lv⟩⟩
  · obtain ⟨o0, e0⟩ := (S0.keep a o e).live
    exact (S.keep a o e).trans fun e' => st.kp S.ff e' (.inr ⟨o0, e0⟩)
  · obtain ⟨l, a, vs, e', ⟨n, p⟩, q⟩ := S.hp.list e
    exact ⟨l, a, vs, e', ⟨n, kn p (fun _ q => by cases q) (fun _ _ q => by cases q)⟩, q.gmap id tu sr⟩
  · obtain ⟨a, n, e', p⟩ := S.hp.dict e
    cases st.kp S.ff p (.inl fun _ q => by cases q) with
    | same e1 => exact ⟨a, n, e', e1⟩
    | slot _ _ sl e1 => exact ⟨a, (n.1, sl), e', e1⟩
  · obtain ⟨o, es, ep, ho, hd, r⟩ := n
    exact Kp.ns ⟨o, es, ep, ho, hd, r⟩ fun e => st.kp S.ff e (.inl (by rw [ho] at e; cases e; intro _ q; rw [hd] at q; cases q))
  · obtain ⟨v, ob, eb, db⟩ := S.er.cell ec
    rw [e] at eb; cases eb
    exact kn e (fun _ q => by rw [db] at q; cases q) (fun _ _ q => by rw [db] at q; cases q)
  · obtain ⟨o, e⟩ := S.zl z
    obtain ⟨o', e', _⟩ := lv.go e
    exact ⟨o', e'⟩
  · exact (X.stay e n).trans fun e' => (st.kp S.ff e' (.inr ⟨o, e⟩)).map (fun _ => trivial) id

/-- what is wanted behind a raise -/
abbrev AfterX (C : Cx) (base : Bs) (b : Nat) (env : Env) (Γ : List Str) (ρ : AEnv) (μ : List Addr) (s : Shared) (c : Nat) (H' : AHeap) (E : Value → Shared → Prop) : Prop :=
  ∀ (u : Value) (s' : Shared) (μ' : List Addr), Ext env μ μ' s.heap s'.heap → St C base b env Γ ρ μ' H' s' → C.eo c → XR (C.ea c) false u s.heap s'.heap → E u s'

/-- the env of the frame that runs -/
inductive Top1 (base : Bs) (env : Env) : Prop
  | mk (outer : List Env) (L : Addr) (hf : env.frame = some L) (e : base.fs = env :: outer) : Top1 base env

theorem XR.weak {cls u : Value} {p : Bool} {h0 : Heap} (x : XR cls p u h0 h) : XR cls false u h0 h := by
  cases x with
  | new a o vs e hp ho hn hc hd h1 => exact .new a o vs e rfl ho hn hc hd h1
  | on a o vs T oT ts e ho hn hc hd h1 hT nT dT zT hne => exact .on a o vs T oT ts e ho hn hc hd h1 hT nT dT zT hne
theorem XR.field {cls u : Value} {h0 : Heap} {M : Model} {A : Around} {E : Value → Shared → Prop} {Q : Value → Shared → Prop} (x : XR cls true u h0 s.heap) (k : ∀ T, Q (.ref T) s) : wpAny M A (field u 1) Q E s := by
  cases x with
  | new a o vs e hp ho hn hc hd h1 => cases hp
  | on a o vs T oT ts e ho hn hc hd h1 hT nT dT zT hne => subst e; exact wpAny_field ho hd h1 (k T)

/-- a raise out of a loop's turn -/
theorem noted_ok {M : Model} {A : Around} {E : Value → Shared → Prop} {n : Nat} {c : Nat} {p : Bool} {u : Value} {Q : Unit → Shared → Prop} (F : Top1 base env) (a : AOk base A n) (S0 : St C base b env Γ ρ0 μ' H0 s0) (S : St C base b env Γ ρ μ H s) (X : Ext env μ' μ s0.heap s.heap)
    (x : XR (C.ea c) p u s0.heap s.heap) (k : ∀ s', St C base b env Γ ρ μ H s' → Ext env μ' μ s0.heap s'.heap → XR (C.ea c) true u s0.heap s'.heap → Q () s') : wpAny M A (noteFrame u env) Q E s := by
  obtain ⟨outer, L, hf, e⟩ := F
  have hfr := a.frames
  rw [e] at hfr
  have ff := S.ff.fun
  rw [e] at ff
  refine note_ok hfr ff hf x X.live fun h' st x' => ?_
  rw [← e] at st
  obtain ⟨S', X'⟩ := S0.xstep S X st
  exact k _ S' X' x'
theorem flown_ok {M : Model} {A : Around} {E : Value → Shared → Prop} {c : Nat} {u : Value} {f : Option Addr} {Q : Unit → Shared → Prop} (S0 : St C base b env Γ ρ0 μ' H0 s0) (S : St C base b env Γ ρ μ H s) (X : Ext env μ' μ s0.heap s.heap)
    (x : XR (C.ea c) true u s0.heap s.heap) (k : ∀ s', St C base b env Γ ρ μ H s' → Ext env μ' μ s0.heap s'.heap → XR (C.ea c) true u s0.heap s'.heap → Q () s') : wpAny M A (setFlight u f) Q E s :=
  flight_ok (fs := base.fs) x fun h' st x' => let ⟨S', X'⟩ := S0.xstep S X st; k _ S' X' x'
theorem back_ok {M : Model} {A : Around} {E : Value → Shared → Prop} {n : Nat} {c : Nat} {p : Bool} {u : Value} (F : Top1 base env) (a : AOk base A n) (S0 : St C base b env Γ ρ0 μ' H0 s0) (S : St C base b env Γ ρ μ H s) (X : Ext env μ' μ s0.heap s.heap)
    (x : XR (C.ea c) p u s0.heap s.heap) (k : ∀ s', St C base b env Γ ρ μ H s' → Ext env μ' μ s0.heap s'.heap → XR (C.ea c) false u s0.heap s'.heap → E u s') : notedBy M A env (fun e s' => cameBackBy M A env E e s') u s := by
  refine noted_ok F a S0 S X x fun s1 S1 X1 x1 => ?_
  show wpAny M A (do
    if (← field u 1) == .none then unsupported "frame.own-activation:exception-without-traceback"
    setFlight u env.frame) (fun _ s'' => E u s'') E s1
  refine wpAny_bind (x1.field fun T => ?_)
  rw [if_neg (by simp)]
  exact flown_ok S0 S1 X1 x1 fun s2 S2 X2 x2 => k s2 S2 X2 x2.weak
end
end Mine

namespace Mine
open PySem PySem.Calls PyProof.Rows PySem.SeqAt

section
variable {C : Cx} {μ : List Addr} {h h' : Heap} {base : Bs} {env : Env} {Γ : List Str} {ρ : AEnv} {H H' : AHeap} {b : Nat} {s s' : Shared} {A : Around} {E : Value → Shared → Prop} {Q : Value → Shared → Prop}

theorem ints_are {xs : List AV} {is : List Int} {vs : List Value} (e : intsOf xs = some is) (q : VRs C μ h xs vs) : IntsAre vs is := by
  induction xs generalizing is vs with
  | nil => cases e; cases q; exact .nil
  | cons x xs ih =>
    have e : ((intV x).bind fun i => (intsOf xs).map (i :: ·)) = some is := e
    cases q with
    | cons a q =>
      cases h1 : intV x with
      | none => rw [h1] at e; cases e
      | some i =>
        cases h2 : intsOf xs with
        | none => rw [h1, h2] at e; cases e
        | some js =>
          rw [h1, h2] at e; cases e
          cases intV_eq h1
          obtain ⟨t, rfl⟩ := a.isInt
          exact .cons i t (ih h2 q)
inductive All2 {α β : Type} (P : α → β → Prop) : List α → List β → Prop
  | nil : All2 P [] []
  | cons {x : α} {y : β} {xs : List α} {ys : List β} : P x y → All2 P xs ys → All2 P (x :: xs) (y :: ys)
theorem mapM_some {f : AV → Option PyData} {xs : List AV} {ds : List PyData} (e : xs.mapM f = some ds) : All2 (fun x d => f x = some d) xs ds := by
  induction xs generalizing ds with
  | nil => cases e; exact .nil
  | cons x xs ih =>
    rw [List.mapM_cons] at e
    cases e1 : f x with
    | none => rw [e1] at e; cases e
    | some d =>
      cases e2 : xs.mapM f with
      | none => rw [e1, e2] at e; cases e
      | some es => rw [e1, e2] at e; cases e; exact .cons e1 (ih e2)

inductive RdsR (h : Heap) (us : List Value) (ds : List PyData) (n : Nat) : Prop
  | mk (as : List Addr) (r : ReadsAll h us ds as) (c : PyData.canLayAll0 ds = true) (dd : PyData.depthAll ds ≤ n) : RdsR h us ds n
/-- what is read of it -/
inductive RdR (h : Heap) (u : Value) (d : PyData) (n : Nat) : Prop
  | mk (as : List Addr) (r : Reads h u d as) (c : d.canLay0 = true) (dd : d.depth ≤ n) : RdR h u d n
theorem rds_reads {n : Nat} (ih : ∀ {v : AV} {u : Value} {d : PyData}, VR C μ h v u → rd H n v = some d → RdR h u d n) {xs : List AV} {ds : List PyData} (es : All2 (fun x d => rd H n x = some d) xs ds) {vs : List Value} (q : VRs C μ h xs vs) : RdsR h vs ds n := by
  induction es generalizing vs with
  | nil => cases q; exact ⟨_, .nil, rfl, Nat.zero_le _⟩
  | cons e _ ihs =>
    cases q with
    | cons q r =>
      obtain ⟨a1, r1, c1, d1⟩ := ih q e
      obtain ⟨a2, r2, c2, d2⟩ := ihs r
      exact ⟨_, .cons r1 r2, by simp only [PyData.canLayAll0, c1, c2]; rfl, by simp only [PyData.depthAll]; (first | lia | omega)⟩
theorem list_map_ok {α β : Type} {o : Option (List α)} {f : List α → β} {d : β} (e : o.map f = some d) : ∃ ds, o = some ds ∧ d = f ds := by
  cases o with
  | none => cases e
  | some ds => cases e; exact ⟨ds, rfl, rfl⟩
theorem leaf_reads {n : Nat} {v : AV} {u : Value} {d : PyData} (q : VR C μ h v u) (e : leafD v = some d) : RdR h u d n := by
  cases q with
  | none => cases e; exact ⟨_, .none, rfl, Nat.zero_le _⟩
  | bool c => cases e; exact ⟨_, .bool c, rfl, Nat.zero_le _⟩
  | int i t => cases e; exact ⟨_, .int i t, rfl, Nat.zero_le _⟩
  | str x t =>
    have e : (if PyData.strOk x then some (PyData.str x) else none) = some d := e
    by_cases hs : PyData.strOk x = true
    · rw [if_pos hs] at e; cases e; exact ⟨_, .str x t, hs, Nat.zero_le _⟩
    · rw [if_neg hs] at e; cases e
  | _ => cases e
theorem rd_reads (R : HeapR C μ H h) : ∀ (n : Nat) {v : AV} {u : Value} {d : PyData}, VR C μ h v u → rd H n v = some d → RdR h u d n := by
  intro n
  induction n with
  | zero => intro v u d q e; exact leaf_reads q e
  | succ n ih =>
    intro v u d q e
    cases v with
    | tup vs =>
      cases q with
      | tup t nz hz q =>
        obtain ⟨ds, e1, rfl⟩ := list_map_ok e
        obtain ⟨as, r, c, dd⟩ := rds_reads ih (mapM_some e1) q
        obtain ⟨o, ho, hc, k, hd⟩ := t
        exact ⟨_, .tuple ho hc hd (by simpa using r), c, Nat.succ_le_succ dd⟩
    | ref r =>
      cases q with
      | ref ea =>
        have e : (match H[r]? with | some (.list xs) => (xs.mapM (rd H n)).map PyData.list | _ => none) = some d := e
        cases e1 : H[r]? with
        | none => rw [e1] at e; cases e
        | some o =>
          cases o with
          | dict => rw [e1] at e; cases e
          | list xs =>
            rw [e1] at e
            obtain ⟨ds, e2, rfl⟩ := list_map_ok e
            obtain ⟨_, a', vs, ea', ⟨k, p⟩, q⟩ := R.list e1
            rw [ea] at ea'; cases ea'
            obtain ⟨as, r, c, dd⟩ := rds_reads ih (mapM_some e2) q
            exact ⟨_, .list p rfl rfl (by simpa using r), c, Nat.succ_le_succ dd⟩
    | _ => exact leaf_reads q e

theorem rd_shaped (R : HeapR C μ H h) {v : AV} {u : Value} {d : PyData} (q : VR C μ h v u) (e : rd H 8 v = some d) : (∃ as, Reads h u d as) ∧ shaped d = true := by
  obtain ⟨as, r, c, l⟩ := rd_reads R 8 q e
  refine ⟨⟨as, r⟩, ?_⟩
  unfold shaped
  rw [c, Bool.true_and, decide_eq_true_eq]; (first | lia | omega)

theorem any_mem {is : List Int} {i : Int} : is.any (· == i) = decide (i ∈ is) := by
  rw [Bool.eq_iff_iff, List.any_eq_true, decide_eq_true_eq]
  exact ⟨fun ⟨x, hx, e⟩ => (eq_of_beq e) ▸ hx, fun hx => ⟨i, hx, beq_self_eq_true i⟩⟩

theorem eq_rd {x y : AV} {p q : Value} {d e : PyData} {n : Nat} (S : St C base b env Γ ρ μ H s) (hx : VR C μ s.heap x p) (hy : VR C μ s.heap y q) (ex : rd H 8 x = some d) (ey : rd H 8 y = some e) (a : AOk base A n)
    (k : Q (.bool (PyData.eqv d e)) s) : wpAny (model C.prog C.w) A (compareOp .Eq p q) Q E s := by
  obtain ⟨⟨as, ra⟩, sa⟩ := rd_shaped S.hp hx ex
  obtain ⟨⟨bs, rb⟩, sb⟩ := rd_shaped S.hp hy ey
  exact compareEq_shaped ra rb sa sb (by have := a.units; (first | lia | omega)) k
theorem ne_rd {x y : AV} {p q : Value} {d e : PyData} {n : Nat} (S : St C base b env Γ ρ μ H s) (hx : VR C μ s.heap x p) (hy : VR C μ s.heap y q) (ex : rd H 8 x = some d) (ey : rd H 8 y = some e) (a : AOk base A n)
    (k : Q (.bool (!PyData.eqv d e)) s) : wpAny (model C.prog C.w) A (compareOp .NotEq p q) Q E s := by
  obtain ⟨⟨as, ra⟩, sa⟩ := rd_shaped S.hp hx ex
  obtain ⟨⟨bs, rb⟩, sb⟩ := rd_shaped S.hp hy ey
  exact compareNe_shaped ra rb sa sb (by have := a.units; (first | lia | omega)) k

theorem eqOf_ok {x y : AV} {r : Bool} {p q : Value} {n : Nat} (S : St C base b env Γ ρ μ H s) (hx : VR C μ s.heap x p) (hy : VR C μ s.heap y q) (e : eqOf x y H = some r) (a : AOk base A n)
    (k : Q (.bool r) s) : wpAny (model C.prog C.w) A (compareOp .Eq p q) Q E s := by
  unfold eqOf at e
  split at e
  · rename_i d f e1 e2; cases e; exact eq_rd S hx hy e1 e2 a k
  · cases e
theorem neOf_ok {x y : AV} {r : Bool} {p q : Value} {n : Nat} (S : St C base b env Γ ρ μ H s) (hx : VR C μ s.heap x p) (hy : VR C μ s.heap y q) (e : (eqOf x y H).map (!·) = some r) (a : AOk base A n)
    (k : Q (.bool r) s) : wpAny (model C.prog C.w) A (compareOp .NotEq p q) Q E s := by
  unfold eqOf at e
  split at e
  · rename_i d f e1 e2; cases e; exact ne_rd S hx hy e1 e2 a k
  · cases e
theorem inOf_spec {x y : AV} {r : Bool} {p q : Value} (S : St C base b env Γ ρ μ H s) (hx : VR C μ s.heap x p) (hy : VR C μ s.heap y q) (e : inOf x y H = some r) :
    ∃ (i : Int) (t : _) (c : Addr) (vs : List Value) (is : List Int), p = .int i t ∧ q = .ref c ∧ s.heap.IsList c vs.toArray ∧ IntsAre vs is ∧ r = decide (i ∈ is) := by
  unfold inOf at e
  split at e
  · obtain ⟨t, rfl⟩ := hx.isInt; obtain ⟨c, rfl, ec⟩ := hy.isRef
    split at e
    · rename_i xs e1
      cases e2 : intsOf xs with
      | none => rw [e2] at e; cases e
      | some is =>
        rw [e2] at e; cases e
        obtain ⟨_, a', vs, ea', p1, q1⟩ := S.hp.list e1
        rw [ec] at ea'; cases ea'
        exact ⟨_, t, c, vs, is, rfl, rfl, IsList.of_plain p1, ints_are e2 q1, rfl⟩
    · cases e
  · cases e
theorem someT {r t : Bool} (e : some t = some r) (k : Q (.bool r) s) : Q (.bool t) s := by cases e; exact k
theorem none_ne {r : Bool} : (none : Option Bool) ≠ some r := fun e => by cases e
theorem eqV_ok {x y : AV} {r : Bool} {p q : Value} {n : Nat} (S : St C base b env Γ ρ μ H s) (hx : VR C μ s.heap x p) (hy : VR C μ s.heap y q) (e : eqV x y H = some r) (a : AOk base A n)
    (k : Q (.bool r) s) : wpAny (model C.prog C.w) A (compareOp .Eq p q) Q E s := by
  unfold eqV at e
  by_cases hi : (intV x).isSome = true ∧ (intV y).isSome = true
  · exact ints2_go (K := compareOp _) none_ne hx hy ((if_pos hi).symm.trans e) fun a c t u e => PyProof.Rows.eq_int (someT e k)
  · exact eqOf_ok S hx hy ((if_neg hi).symm.trans e) a k
theorem cmpop_ok {op : CmpOp} {x y : AV} {r : Bool} {p q : Value} {n : Nat} (S : St C base b env Γ ρ μ H s) (hx : VR C μ s.heap x p) (hy : VR C μ s.heap y q) (e : cmpop op x y H = some r) (a : AOk base A n)
    (k : Q (.bool r) s) : wpAny (model C.prog C.w) A (compareOp op p q) Q E s := by
  cases op with
  | Lt => exact ints2_go (K := compareOp _) none_ne hx hy e fun a c t u e => PyProof.Rows.lt_int (someT e k)
  | LtE => exact ints2_go (K := compareOp _) none_ne hx hy e fun a c t u e => PyProof.Rows.le_int (someT e k)
  | Gt => exact ints2_go (K := compareOp _) none_ne hx hy e fun a c t u e => PyProof.Rows.gt_int (someT e k)
  | GtE => cases e
  | Eq => exact eqV_ok S hx hy e a k
  | NotEq =>
    have e : (if (intV x).isSome = true ∧ (intV y).isSome = true then ints2 none x y fun a b => some (!(a == b)) else (eqOf x y H).map (!·)) = some r := e
    by_cases hi : (intV x).isSome = true ∧ (intV y).isSome = true
    · exact ints2_go (K := compareOp _) none_ne hx hy ((if_pos hi).symm.trans e) fun a c t u e => PyProof.Rows.ne_int (someT e k)
    · exact neOf_ok S hx hy ((if_neg hi).symm.trans e) a k
  | In => cases e
  | NotIn =>
    have e : (inOf x y H).map (!·) = some r := e
    cases e2 : inOf x y H with
    | none => rw [e2] at e; cases e
    | some r' =>
      rw [e2] at e; cases e
      obtain ⟨i, t, c, vs, is, rfl, rfl, p1, q1, rfl⟩ := inOf_spec S hx hy e2
      exact notin_list_ints p1 q1 (by rw [any_mem]; exact k)
  | Is => cases e
  | IsNot => cases e

end
end Mine

namespace Mine
open PySem PySem.Calls PyProof.Rows PySem.SeqAt

section
variable {C : Cx} {μ : List Addr} {h h' : Heap} {base : Bs} {env : Env} {Γ : List Str} {ρ : AEnv} {H H' : AHeap} {b : Nat} {s s' : Shared} {A : Around} {E : Value → Shared → Prop} {Q : Value → Shared → Prop} {n : Nat}
variable {strF : SrtF}

/-- everything stays, ints may be new -/
theorem After.grow {v : AV} {u : Value} (S : St C base b env Γ ρ μ H s) (k : After C base b env Γ ρ μ s v H Q) {h' : Heap} {tk : Nat} (g : ∀ {a : Addr} {o : Obj}, s.heap.get? a = some o → h'.get? a = some o)
    (q : VR C μ h' v u) : Q u { s with heap := h', toks := tk } :=
  k u { s with heap := h', toks := tk } μ (Ext.grow g) (S.grow (s' := { s with heap := h', toks := tk }) g rfl rfl) q
theorem After.led {v : AV} {u : Value} (S : St C base b env Γ ρ μ H s) (k : After C base b env Γ ρ μ s v H Q) {m : Str → Option Value} (nm : s.heap.Ns env.locals m) {h' : Heap} {tk : Nat}
    (F : Fr {} env.locals h' m) (N : News {} env.locals h' (allNews s.heap env.locals)) (q : VR C μ h' v u) : Q u { s with heap := h', toks := tk } := by
  obtain ⟨S', X⟩ := S.growL (s' := { s with heap := h', toks := tk }) nm F.ns (fun hne e => news_keep (l := []) N hne e) rfl rfl
  exact k u _ μ X S' q
/-- a new list at a new place, all else stays -/
theorem After.list {xs : List AV} {vs : List Value} {a : Addr} {n : Nat} (S : St C base b env Γ ρ μ H s) (k : After C base b env Γ ρ μ s (.ref H.length) (H ++ [.list xs]) Q) {h' : Heap} {tk : Nat} (g : ∀ {a : Addr} {o : Obj}, s.heap.get? a = some o → h'.get? a = some o)
    (ha : s.heap.get? a = none) (hl : h'.get? a = some { cls := .type "list", data := .seq vs.toArray n }) (hv : VRs C μ h' xs vs) (hz : xs.length ≤ lim) : Q (.ref a) { s with heap := h', toks := tk } := by
  have S' := (S.grow (s' := { s with heap := h', toks := tk }) g rfl rfl).track (a := a) (vs := vs) ⟨n, hl⟩ hv (not_mem S ha) (base_none S ha) hz
  exact k _ _ _ (Ext.track ha g) S' (.ref (by rw [← S.hp.len]; simp))

theorem VRs.one {x : AV} {us : List Value} (q : VRs C μ h [x] us) : ∃ u, us = [u] ∧ VR C μ h x u := by
  cases q with | cons a r => cases r; exact ⟨_, rfl, a⟩
theorem VRs.two {x y : AV} {us : List Value} (q : VRs C μ h [x, y] us) : ∃ u w, us = [u, w] ∧ VR C μ h x u ∧ VR C μ h y w := by
  cases q with | cons a r => cases r with | cons c r => cases r; exact ⟨_, _, rfl, a, c⟩

theorem dictOr {r : Nat} {a : Addr} (R : HeapR C μ H h) (e : μ[r]? = some a) : ∃ o, h.get? a = some o ∧ ((∃ xs, H[r]? = some (.list xs)) ∧ o.cls = .type "list" ∨ H[r]? = some .dict ∧ o.cls = .type "dict") := by
  obtain ⟨o, eo⟩ := R.get e
  cases o with
  | list xs => obtain ⟨_, a', vs, e', ⟨n, p⟩, _⟩ := R.list eo; rw [e] at e'; cases e'; exact ⟨_, p, .inl ⟨⟨xs, eo⟩, rfl⟩⟩
  | dict => obtain ⟨a', n, e', p⟩ := R.dict eo; rw [e] at e'; cases e'; exact ⟨_, p, .inr ⟨eo, rfl⟩⟩

theorem none_push {h' : Heap} (g : ∀ b o, h.get? b = some o → h'.get? b = some o) : h.get? h'.objs.size = none := by
  cases e : h.get? h'.objs.size with
  | none => rfl
  | some o => exact absurd (Heap.lt_size (g _ _ e)) (Nat.lt_irrefl _)
/-- a list's or a tuple's items -/
inductive SeqR (C : Cx) (μ : List Addr) (h : Heap) (xs : List AV) (u : Value) : Prop
  | mk (l : xs.length ≤ lim) (a : Addr) (o : Obj) (vs : List Value) (k : Nat) (T : String) (e : u = .ref a) (t : T = "list" ∨ T = "tuple") (g : h.get? a = some o) (c : o.cls = .type T) (d : o.data = .seq (List.toArray vs) k) (q : VRs C μ h xs vs) : SeqR C μ h xs u
theorem items_seq (R : HeapR C μ H h) {v : AV} {u : Value} {xs : List AV} (q : VR C μ h v u) (e : items v H = some xs) :
    SeqR C μ h xs u := by
  unfold items at e
  split at e
  · cases e
    cases q with
    | tup t _ l r => obtain ⟨o, ho, hc, k, hd⟩ := t; exact ⟨l, _, o, _, k, "tuple", rfl, .inr rfl, ho, hc, hd, r⟩
  · obtain ⟨a, rfl, ea⟩ := q.isRef
    split at e
    · rename_i ys e1; cases e
      obtain ⟨l, a', vs, ea', ⟨k, p⟩, r⟩ := R.list e1
      rw [ea] at ea'; cases ea'
      exact ⟨l, a, _, vs, k, "list", rfl, .inl rfl, p, rfl, rfl, r⟩
    · cases e
  · cases e

theorem foldl_max_spec : ∀ (is : List Int) (i : Int), is.foldl max i ∈ i :: is ∧ ∀ a ∈ i :: is, a ≤ is.foldl max i
  | [], i => ⟨by simp, by simp⟩
  | j :: is, i => by
    simp only [List.foldl_cons]
    obtain ⟨h1, h2⟩ := foldl_max_spec is (max i j)
    refine ⟨?_, ?_⟩
    · rcases List.mem_cons.mp h1 with e | h1
      · rw [e]
        rcases Int.le_total i j with h | h
        · rw [Int.max_eq_right h]; simp
        · rw [Int.max_eq_left h]; simp
      · simp [h1]
    · intro a ha
      have hm := h2 (max i j) (by simp)
      rcases List.mem_cons.mp ha with rfl | ha
      · (first | lia | omega)
      · rcases List.mem_cons.mp ha with rfl | ha
        · (first | lia | omega)
        · exact h2 a (by simp [ha])

theorem boolV_eq {x : AV} {i : Bool} (h : boolV x = some i) : x = .bool i := by
  cases x with
  | bool j => cases h; rfl
  | _ => cases h
theorem bools_map {xs : List AV} {bs : List Bool} {vs : List Value} (e : boolsOf xs = some bs) (q : VRs C μ h xs vs) : vs = bs.map .bool := by
  induction xs generalizing bs vs with
  | nil => cases e; cases q; rfl
  | cons x xs ih =>
    have e : ((boolV x).bind fun i => (boolsOf xs).map (i :: ·)) = some bs := e
    cases q with
    | cons a q =>
      cases h1 : boolV x with
      | none => rw [h1] at e; cases e
      | some i =>
        cases h2 : boolsOf xs with
        | none => rw [h1, h2] at e; cases e
        | some js =>
          rw [h1, h2] at e; cases e
          cases boolV_eq h1
          cases a
          rw [ih h2 q]; rfl
theorem bools_get {cs : List Bool} {i : Nat} {v : Value} (e : (cs.map Value.bool)[i]? = some v) : v = .bool (cs.getD i false) := by
  rw [List.getElem?_map] at e
  rw [List.getD_eq_getElem?_getD]
  cases h1 : cs[i]? with
  | none => rw [h1] at e; cases e
  | some c => rw [h1] at e; cases e; rfl
theorem all_range (cs : List Bool) : (List.range cs.length).all (fun i => cs.getD i false) = cs.all id := by
  rw [Bool.eq_iff_iff, List.all_eq_true, List.all_eq_true]
  constructor
  · intro q x hx
    obtain ⟨i, hi, rfl⟩ := List.mem_iff_getElem.mp hx
    have := q i (List.mem_range.mpr hi)
    simpa [List.getD_eq_getElem?_getD, hi] using this
  · intro q i hi
    have hi' := List.mem_range.mp hi
    have := q _ (List.getElem_mem hi')
    simpa [List.getD_eq_getElem?_getD, hi'] using this

theorem IntsAre_of {vs : List Value} {is : List Int} (q : IntsAre vs is) : VRs C μ h (is.map .int) vs := by
  induction q with
  | nil => exact .nil
  | cons n t _ ih => exact .cons (.int n t) ih

theorem rangeL_get {a c : Int} {i : Nat} (hi : i < (c - a).toNat) : (rangeL a c)[i]? = some (.int (a + i)) := by
  unfold rangeL
  rw [List.getElem?_map, List.getElem?_range hi]; rfl
theorem rangeL_length {a c : Int} : (rangeL a c).length = (c - a).toNat := by unfold rangeL; simp

theorem bad_ok {α : Type} {v : α} {H' : AHeap} {P : Prop} (e : (Res.bad : Res α) = .ok v H') : P := by cases e

structure Scr (C : Cx) (base : Bs) : Prop where
  scr : ∃ svs : List Value, base.g.IsList C.sa svs.toArray ∧ IntsAre svs C.sc ∧ C.sc.length ≤ lim

theorem isList_keeps {h h' : Heap} {a : Addr} {items : Array Value} (x : h.IsList a items) (k : ∀ o, h.get? a = some o → h'.get? a = some o) : h'.IsList a items := let ⟨o, e, r⟩ := x; ⟨o, k o e, r⟩

theorem len_ok {x v : AV} {u : Value} (G : Scr C base) (S : St C base b env Γ ρ μ H s) (hx : VR C μ s.heap x u) (e : prim strF C.sc .len [x] H = .ok v H')
    (k : After C base b env Γ ρ μ s v H' Q) : wpAny (model C.prog C.w) A (call (.builtin "len") [u]) Q E s := by
  by_cases hs : x = .scr
  · subst hs
    cases hx
    rw [p_lenS] at e
    cases e
    obtain ⟨svs, l, hi, hz⟩ := G.scr
    have l' : s.heap.IsList C.sa svs.toArray := isList_keeps l fun _ => S.kg
    have hlen : svs.length = C.sc.length := hi.length
    refine call_len_list l' ?_ (k _ _ μ .refl (S.tok _) ?_)
    · rw [List.size_toArray, hlen]
      have : C.sc.length < 2 ^ 63 := Nat.lt_of_le_of_lt hz (by decide)
      (first | lia | omega)
    · rw [List.size_toArray, hlen]; exact .int _ _
  · have e : (match items x H with | some xs => Res.ok (AV.int xs.length) H | none => .bad) = .ok v H' := by cases x <;> first | exact e | exact absurd rfl hs
    split at e
    · rename_i xs e1; cases e
      obtain ⟨hz, a, o, vs, j, T, rfl, hT, ho, hc, hd, q⟩ := items_seq S.hp hx e1
      have hsz : ((List.toArray vs).size : Int) < 2 ^ 63 := by
        rw [List.size_toArray, ← q.length]
        have : xs.length < 2 ^ 63 := Nat.lt_of_le_of_lt hz (by decide)
        (first | lia | omega)
      rcases hT with rfl | rfl
      · refine call_len_list ⟨o, ho, hc, j, hd⟩ hsz (k _ _ μ .refl (S.tok _) ?_)
        rw [List.size_toArray, ← q.length]; exact .int _ _
      · refine PyProof.Rows.len_tuple ⟨o, ho, hc, j, hd⟩ hsz (k _ _ μ .refl (S.tok _) ?_)
        rw [List.size_toArray, ← q.length]; exact .int _ _
    · cases e

theorem list_ok {x v : AV} {u : Value} (S : St C base b env Γ ρ μ H s) (hx : VR C μ s.heap x u) (e : prim strF C.sc .list [x] H = .ok v H')
    (k : After C base b env Γ ρ μ s v H' Q) : wpAny (model C.prog C.w) A (call (.type "list") [u]) Q E s := by
  rw [p_list] at e
  split at e
  · rename_i xs e1
    unfold alloc at e
    split at e
    · rename_i hz; cases e
      obtain ⟨_, a, o, vs, j, T, rfl, hT, ho, hc, hd, q⟩ := items_seq S.hp hx e1
      refine call_list_seq a hT ho hc hd (fun h' c' g hl => ?_) ?_
      · exact After.list S k (tk := s.toks) (fun e => g _ _ e) (none_size _) hl (q.keeps fun e => g _ _ e) hz
      · rw [List.size_toArray, ← q.length]; exact lim_line hz
    · cases e
  · cases e

theorem tuple_ok {x v : AV} {u : Value} (S : St C base b env Γ ρ μ H s) (hx : VR C μ s.heap x u) (e : prim strF C.sc .tuple [x] H = .ok v H')
    (k : After C base b env Γ ρ μ s v H' Q) : wpAny (model C.prog C.w) A (call (.type "tuple") [u]) Q E s := by
  rw [p_tuple] at e
  split at e
  · rename_i xs e1; cases e
    obtain ⟨hz, a, o, vs, j, T, rfl, hT, ho, hc, hd, q⟩ := items_seq S.hp hx e1
    rcases hT with rfl | rfl
    · refine call_tuple_list ⟨o, ho, hc, j, hd⟩ (fun h' g => ?_) (by rw [List.size_toArray, ← q.length]; exact lim_line hz)
      have g' : ∀ {a : Addr} {o : Obj}, s.heap.get? a = some o → (h'.push { cls := .type "tuple", data := .seq (List.toArray vs) }).get? a = some o := fun e => Heap.get?_push_of_some _ (g _ _ e)
      exact After.grow S k (tk := s.toks) g' (.tup ⟨_, Heap.get?_push_size _ rfl, rfl, _, rfl⟩ (S.notZ (none_push g)) hz (q.keeps g'))
    · refine call_tuple_same ⟨o, ho, hc, j, hd⟩ (k _ _ μ .refl S (by
        cases x with
        | tup vs' => cases e1; exact hx
        | ref r => cases hx with | ref ea => (exfalso; obtain ⟨o', ho', ⟨_, hc'⟩ | ⟨_, hc'⟩⟩ := dictOr S.hp ea <;> (rw [ho] at ho'; cases ho'; rw [hc] at hc'; simp at hc'))
        | _ => simp [items] at e1))
  · cases e

theorem min2_ok {x y v : AV} {u w : Value} (S : St C base b env Γ ρ μ H s) (a : AOk base A n) (hq : base.q = false) (hx : VR C μ s.heap x u) (hy : VR C μ s.heap y w) (e : prim strF C.sc .min2 [x, y] H = .ok v H')
    (k : After C base b env Γ ρ μ s v H' Q) : wpAny (model C.prog C.w) A (call (.builtin "min") [u, w]) Q E s := by
  obtain ⟨m, nm, _⟩ := S.er.ns
  refine ints2_go (K := fun p q => call (.builtin "min") [p, q]) bad_ne hx hy e fun i j t t' e => ?_
  refine min_two_N (a.handled hq) (fr0 nm) (news0 _ _) fun h' tk F N => ?_
  have hm : (if j < i then j else i) = min i j := by split <;> (first | lia | omega)
  rw [hm]
  cases e
  exact After.led S k nm F N (.int _ _)
theorem max2_ok {x y v : AV} {u w : Value} (S : St C base b env Γ ρ μ H s) (a : AOk base A n) (hq : base.q = false) (hx : VR C μ s.heap x u) (hy : VR C μ s.heap y w) (e : prim strF C.sc .max2 [x, y] H = .ok v H')
    (k : After C base b env Γ ρ μ s v H' Q) : wpAny (model C.prog C.w) A (call (.builtin "max") [u, w]) Q E s := by
  obtain ⟨m, nm, _⟩ := S.er.ns
  refine ints2_go (K := fun p q => call (.builtin "max") [p, q]) bad_ne hx hy e fun i j t t' e => ?_
  refine max_two_N (a.handled hq) (fr0 nm) (news0 _ _) fun h' tk F N => ?_
  have hm : (if j > i then j else i) = max i j := by split <;> (first | lia | omega)
  rw [hm]
  cases e
  exact After.led S k nm F N (.int _ _)
end
end Mine

namespace Mine
open PySem PySem.Calls PyProof.Rows PySem.SeqAt

section
variable {C : Cx} {μ : List Addr} {h h' : Heap} {base : Bs} {env : Env} {Γ : List Str} {ρ : AEnv} {H H' : AHeap} {b : Nat} {s s' : Shared} {A : Around} {E : Value → Shared → Prop} {Q : Value → Shared → Prop} {n : Nat}
variable {strF : SrtF}

theorem IntsAre_get {vs : List Value} {is : List Int} (h : IntsAre vs is) {i : Nat} {v : Value} (e : vs[i]? = some v) : ∃ t, v = .int (is.getD i 0) t := by
  induction h generalizing i with
  | nil => cases e
  | cons c t r ih => cases i with
    | zero => cases e; exact ⟨t, rfl⟩
    | succ i => exact ih e
inductive PairR (C : Cx) (μ : List Addr) (h : Heap) (x y : AV) (u : Value) : Prop
  | mk (a : Addr) (p r : Value) (e : u = .ref a) (t : h.IsTuple a #[p, r]) (v : VR C μ h x p) (w : VR C μ h y r) : PairR C μ h x y u
theorem pairOf {x y : AV} {u : Value} (q : VR C μ h (.tup [x, y]) u) : PairR C μ h x y u := by
  cases q with
  | tup t _ l vs => obtain ⟨p, r, rfl, h1, h2⟩ := vs.two; exact ⟨_, p, r, rfl, t, h1, h2⟩

theorem max_unique {ns : List Int} {M M' : Int} (h1 : M ∈ ns) (h2 : ∀ a ∈ ns, a ≤ M) (h3 : M' ∈ ns) (h4 : ∀ a ∈ ns, a ≤ M') : M = M' := by
  have := h2 _ h3; have := h4 _ h1; (first | lia | omega)
theorem maxL_ok {r : Nat} {xs : List AV} {i : Int} {is : List Int} {u : Value} (S : St C base b env Γ ρ μ H s) (a : AOk base A n) (hq : base.q = false) (hx : VR C μ s.heap (.ref r) u) (e1 : H[r]? = some (.list xs)) (e2 : intsOf xs = some (i :: is))
    (k : After C base b env Γ ρ μ s (.int (is.foldl max i)) H Q) : wpAny (model C.prog C.w) A (call (.builtin "max") [u]) Q E s := by
  obtain ⟨c, rfl, ec⟩ := hx.isRef
  obtain ⟨_, a', vs, ea', p1, q1⟩ := S.hp.list e1
  rw [ec] at ea'; cases ea'
  obtain ⟨m, nm, _⟩ := S.er.ns
  refine max_list_N (a.handled hq) (fr0 nm) (news0 _ _) (IsList.of_plain p1) (ints_are e2 q1) (by simp) fun h' M t tk F N h1 h2 => ?_
  obtain ⟨h3, h4⟩ := foldl_max_spec is i
  rw [max_unique h1 h2 h3 h4]
  exact After.led S k nm F N (.int _ _)

theorem all_ok {r : Nat} {xs : List AV} {cs : List Bool} {u : Value} (S : St C base b env Γ ρ μ H s) (a : AOk base A n) (hq : base.q = false) (hx : VR C μ s.heap (.ref r) u) (e1 : H[r]? = some (.list xs)) (e2 : boolsOf xs = some cs)
    (k : After C base b env Γ ρ μ s (.bool (cs.all id)) H Q) : wpAny (model C.prog C.w) A (call (.builtin "all") [u]) Q E s := by
  obtain ⟨c, rfl, ec⟩ := hx.isRef
  obtain ⟨_, a', vs, ea', p1, q1⟩ := S.hp.list e1
  rw [ec] at ea'; cases ea'
  cases bools_map e2 q1
  have hlt : c < s.heap.objs.size := by obtain ⟨_, ho⟩ := p1; exact Heap.lt_size ho
  refine call_all_walk (wpAny_pyIter_list (IsList.of_plain p1) ?_)
  refine ⟨_, _, _, _, _, _, fun i => cs.getD i false, rfl, Walks.list (A := A.in1) (a.handled hq) _ c (Nat.ne_of_lt hlt) (cs.map Value.bool).toArray, ⟨⟨_, Heap.get?_push_size _ rfl, rfl, rfl⟩, (IsList.of_plain p1).push _⟩, ?_, fun h' tk hk => ?_⟩
  · intro i v s Q E e q
    have := bools_get (by simpa using e)
    subst this
    exact wpAny_truthy_bool q
  · have g : ∀ {a : Addr} {o : Obj}, s.heap.get? a = some o → h'.get? a = some o := fun {a o} e => hk a o (by simp; exact Nat.ne_of_lt (Heap.lt_size e)) (Heap.get?_push_of_some _ e)
    refine After.grow S k g ?_
    rw [List.size_toArray, List.length_map, all_range]
    exact .bool _

theorem insertI_perm (x : Int) : ∀ l : List Int, (insertI x l).Perm (x :: l)
  | [] => List.Perm.refl _
  | y :: r => by
    unfold insertI
    split
    · exact List.Perm.refl _
    · exact ((insertI_perm x r).cons y).trans (List.Perm.swap x y r)
theorem sortI_perm : ∀ l : List Int, (sortI l).Perm l
  | [] => List.Perm.refl _
  | x :: r => (insertI_perm x _).trans ((sortI_perm r).cons x)
theorem insertI_sorted (x : Int) : ∀ {l : List Int}, l.Pairwise (· ≤ ·) → (insertI x l).Pairwise (· ≤ ·)
  | [], _ => by simp [insertI]
  | y :: r, q => by
    unfold insertI
    split
    · rename_i hxy
      rw [List.pairwise_cons] at q ⊢
      refine ⟨fun z hz => ?_, by rw [List.pairwise_cons]; exact q⟩
      rcases List.mem_cons.mp hz with rfl | hz
      · exact hxy
      · exact Int.le_trans hxy (q.1 z hz)
    · rename_i hxy
      rw [List.pairwise_cons] at q ⊢
      refine ⟨fun z hz => ?_, insertI_sorted x q.2⟩
      have := (insertI_perm x r).mem_iff.mp hz
      rcases List.mem_cons.mp this with rfl | hz
      · (first | lia | omega)
      · exact q.1 z hz
theorem sortI_sorted : ∀ l : List Int, (sortI l).Pairwise (· ≤ ·)
  | [] => .nil
  | x :: r => insertI_sorted x (sortI_sorted r)

theorem sorted_same : ∀ {a b : List Int}, a.Perm b → a.Pairwise (· ≤ ·) → b.Pairwise (· ≤ ·) → a = b
  | [], b, p, _, _ => (List.Perm.eq_nil p.symm).symm
  | x :: a, b, p, ha, hb => by
    cases b with
    | nil => exact absurd p.symm.length_eq (by simp)
    | cons y b =>
      have h1 := List.pairwise_cons.mp ha
      have h2 := List.pairwise_cons.mp hb
      have e : x = y := by
        have q1 : x ∈ y :: b := p.subset List.mem_cons_self
        have q2 : y ∈ x :: a := p.symm.subset List.mem_cons_self
        rcases List.mem_cons.mp q1 with q | q
        · exact q
        · rcases List.mem_cons.mp q2 with r | r
          · exact r.symm
          · have := h2.1 x q; have := h1.1 y r; (first | lia | omega)
      subst e
      rw [sorted_same (List.Perm.cons_inv p) h1.2 h2.2]
theorem sorted_ok {r : Nat} {xs : List AV} {is : List Int} {u : Value} (S : St C base b env Γ ρ μ H s) (hx : VR C μ s.heap (.ref r) u) (e1 : H[r]? = some (.list xs)) (e2 : intsOf xs = some is) (h64 : xs.length < 64)
    (k : After C base b env Γ ρ μ s (.ref H.length) (H ++ [.list ((sortI is).map .int)]) Q) : wpAny (model C.prog C.w) A (call (.builtin "sorted") [u]) Q E s := by
  obtain ⟨c, rfl, ec⟩ := hx.isRef
  obtain ⟨hz, a', vs, ea', p1, q1⟩ := S.hp.list e1
  rw [ec] at ea'; cases ea'
  obtain ⟨m, nm, _⟩ := S.er.ns
  have hi := ints_are e2 q1
  refine sorted_N (fr0 nm) (news0 _ _) (IsList.of_plain p1) hi (by rw [← q1.length]; exact h64) fun h' vs' ns' e F N hI' hp hs' => ?_
  have hns : ns' = sortI is := sorted_same (hp.trans (sortI_perm is).symm) hs' (sortI_sorted is)
  subst hns
  have hlen : ((sortI is).map AV.int).length ≤ lim := by
    rw [List.length_map, (sortI_perm is).length_eq, ← hi.length, ← q1.length]; exact hz
  obtain ⟨S', X⟩ := S.ledger (l := [_]) (n := e) nm F N (by exact .head _) (none_ge (Nat.le_succ _)) (IntsAre_of hI') hlen
  exact k _ _ _ X S' (.ref (by rw [← S.hp.len]; simp))

theorem listRange_ok {c : Int} {r : Addr} {t u v : Tok} (S : St C base b env Γ ρ μ H s) (a : AOk base A n) (hq : base.q = false) (hr : IsRange s.heap r 0 c 1 t u v) (hc : inR c = true)
    (k : After C base b env Γ ρ μ s (.ref H.length) (H ++ [.list (rangeL 0 c)]) Q) : wpAny (model C.prog C.w) A (call (.type "list") [.ref r]) Q E s := by
  have hc1 : -1000 ≤ c ∧ c ≤ 1000 := of_decide_eq_true hc
  have hsize : Builtin.Range.rangeSize 0 c 1 = ((c - 0).toNat : Int) := by
    unfold Builtin.Range.rangeSize
    simp
    split
    · (first | lia | omega)
    · (first | lia | omega)
  refine call_list_range (a.handled hq) hr ?_ hsize (by (first | lia | omega)) fun h' tk acc' c' g hl hi => ?_
  · exact small_one (by decide) (by decide) (by (first | lia | omega)) (by (first | lia | omega))
  · have hv : VRs C μ h' (rangeL 0 c) acc'.toList := by
      refine VRs.of_get ?_ fun i x w e1 e2 => ?_
      · rw [rangeL_length, Array.length_toList, hi.1]
      · have hi' : i < (c - 0).toNat := by rw [← rangeL_length]; exact (List.getElem?_eq_some_iff.mp e1).1
        rw [rangeL_get hi'] at e1
        cases e1
        obtain ⟨t', rfl⟩ := hi.2 i w (by simpa using e2)
        simp
        exact .int _ _
    refine After.list (n := c') (vs := acc'.toList) S k (fun e => g _ _ e) (none_size _) (by simpa using hl) hv ?_
    rw [rangeL_length]
    have : (c - 0).toNat ≤ 1000 := by (first | lia | omega)
    exact Nat.le_trans this (by decide)

theorem isInt_ok {x : AV} {r : Bool} {u : Value} (S : St C base b env Γ ρ μ H s) (hx : VR C μ s.heap x u) (e : isIntK x = some r) (k : After C base b env Γ ρ μ s (.bool r) H Q) :
    wpAny (model C.prog C.w) A (call (.builtin "isinstance") [u, .type "int"]) Q E s := by
  have yes : r = true → Q (.bool true) s := fun hr => by subst hr; exact k _ _ μ .refl S (.bool _)
  have no : r = false → Q (.bool false) { s with toks := s.toks + 1 } := fun hr => by subst hr; exact k _ _ μ .refl (S.tok _) (.bool _)
  cases hx with
  | none => exact IsiPair.NoneType_int (no (Option.some.inj e).symm)
  | bool => exact IsiPair.bool_int (yes (Option.some.inj e).symm)
  | int => exact IsiPair.int_int (yes (Option.some.inj e).symm)
  | str => exact IsiPair.str_int (no (Option.some.inj e).symm)
  | tup t => obtain ⟨o, ho, hc, _⟩ := t; exact IsiPair.tuple_int ho hc (no (Option.some.inj e).symm)
  | ref ea =>
    obtain ⟨o, ho, ⟨_, hc⟩ | ⟨_, hc⟩⟩ := dictOr S.hp ea
    · exact IsiPair.list_int ho hc (no (Option.some.inj e).symm)
    · exact IsiPair.dict_int ho hc (no (Option.some.inj e).symm)
  | scr => cases e
  | fn => cases e
  | exc => cases e
theorem isBool_ok {x : AV} {r : Bool} {u : Value} (S : St C base b env Γ ρ μ H s) (hx : VR C μ s.heap x u) (e : isBoolK x = some r) (k : After C base b env Γ ρ μ s (.bool r) H Q) :
    wpAny (model C.prog C.w) A (call (.builtin "isinstance") [u, .type "bool"]) Q E s := by
  have yes : r = true → Q (.bool true) s := fun hr => by subst hr; exact k _ _ μ .refl S (.bool _)
  have no : r = false → Q (.bool false) { s with toks := s.toks + 1 } := fun hr => by subst hr; exact k _ _ μ .refl (S.tok _) (.bool _)
  cases hx with
  | none => exact IsiPair.NoneType_bool (no (Option.some.inj e).symm)
  | bool => exact IsiPair.bool_bool (yes (Option.some.inj e).symm)
  | int => exact IsiPair.int_bool (no (Option.some.inj e).symm)
  | str => exact IsiPair.str_bool (no (Option.some.inj e).symm)
  | tup t => obtain ⟨o, ho, hc, _⟩ := t; exact IsiPair.tuple_bool ho hc (no (Option.some.inj e).symm)
  | ref ea =>
    obtain ⟨o, ho, ⟨_, hc⟩ | ⟨_, hc⟩⟩ := dictOr S.hp ea
    · exact IsiPair.list_bool ho hc (no (Option.some.inj e).symm)
    · exact IsiPair.dict_bool ho hc (no (Option.some.inj e).symm)
  | scr => cases e
  | fn => cases e
  | exc => cases e
theorem isTuple_ok {x : AV} {r : Bool} {u : Value} (S : St C base b env Γ ρ μ H s) (hx : VR C μ s.heap x u) (e : isTupleK x = some r) (k : After C base b env Γ ρ μ s (.bool r) H Q) :
    wpAny (model C.prog C.w) A (call (.builtin "isinstance") [u, .type "tuple"]) Q E s := by
  have yes : r = true → Q (.bool true) s := fun hr => by subst hr; exact k _ _ μ .refl S (.bool _)
  have no : r = false → Q (.bool false) { s with toks := s.toks + 1 } := fun hr => by subst hr; exact k _ _ μ .refl (S.tok _) (.bool _)
  cases hx with
  | none => exact IsiPair.NoneType_tuple (no (Option.some.inj e).symm)
  | bool => exact IsiPair.bool_tuple (no (Option.some.inj e).symm)
  | int => exact IsiPair.int_tuple (no (Option.some.inj e).symm)
  | str => exact IsiPair.str_tuple (no (Option.some.inj e).symm)
  | tup t => obtain ⟨o, ho, hc, _⟩ := t; exact IsiPair.tuple_tuple ho hc (yes (Option.some.inj e).symm)
  | ref ea =>
    obtain ⟨o, ho, ⟨_, hc⟩ | ⟨_, hc⟩⟩ := dictOr S.hp ea
    · exact IsiPair.list_tuple ho hc (no (Option.some.inj e).symm)
    · exact IsiPair.dict_tuple ho hc (no (Option.some.inj e).symm)
  | scr => cases e
  | fn => cases e
  | exc => cases e
theorem isList_ok {x : AV} {r : Bool} {u : Value} (S : St C base b env Γ ρ μ H s) (hx : VR C μ s.heap x u) (e : isListK x H = some r) (k : After C base b env Γ ρ μ s (.bool r) H Q) :
    wpAny (model C.prog C.w) A (call (.builtin "isinstance") [u, .type "list"]) Q E s := by
  have yes : r = true → Q (.bool true) s := fun hr => by subst hr; exact k _ _ μ .refl S (.bool _)
  have no : r = false → Q (.bool false) { s with toks := s.toks + 1 } := fun hr => by subst hr; exact k _ _ μ .refl (S.tok _) (.bool _)
  cases hx with
  | none => exact IsiPair.NoneType_list (no (Option.some.inj e).symm)
  | bool => exact IsiPair.bool_list (no (Option.some.inj e).symm)
  | int => exact IsiPair.int_list (no (Option.some.inj e).symm)
  | str => exact IsiPair.str_list (no (Option.some.inj e).symm)
  | tup t => obtain ⟨o, ho, hc, _⟩ := t; exact IsiPair.tuple_list ho hc (no (Option.some.inj e).symm)
  | ref ea =>
    obtain ⟨o, ho, ⟨⟨xs, e1⟩, hc⟩ | ⟨e1, hc⟩⟩ := dictOr S.hp ea
    · rw [k_list, e1] at e; exact IsiPair.list_list ho hc (yes (Option.some.inj e).symm)
    · rw [k_list, e1] at e; exact IsiPair.dict_list ho hc (no (Option.some.inj e).symm)
  | scr => cases e
  | fn => cases e
  | exc => cases e
end
end Mine

namespace Mine
open PySem PySem.Calls PyProof.Rows PySem.SeqAt

noncomputable def biVals : List (Str × Value) := [("len", .builtin "len"), ("range", .type "range"), ("list", .type "list"), ("tuple", .type "tuple"), ("sorted", .builtin "sorted"), ("set", .type "set"), ("min", .builtin "min"), ("max", .builtin "max"),
  ("sum", .builtin "sum"), ("all", .builtin "all"), ("isinstance", .builtin "isinstance"), ("int", .type "int"), ("bool", .type "bool"), ("str", .type "str"), ("zip", .type "zip"), ("ValueError", .type "ValueError")]

inductive DefR (T : Tab) (base : Heap) (a : Addr) (f : FnI) : Prop
  | mk (o : Obj) (fd : FuncData) (body : List Stmt) (h1 : base.get? a = some o) (h2 : o.data = .func fd) (h3 : fd.body = .stmts body) (h4 : fd.globals = mainGlobals) (h5 : fd.closure = []) (h6 : fd.defaults = .none) (h7 : fd.builtins = builtinsNs)
    (h8 : base.CodeRec fd.code fd.qualname) (h9 : chkFn T f fd.params body fd.scope = true) : DefR T base a f
structure Gnd (C : Cx) (T : Tab) (base : Bs) : Prop where
  q : base.q = T.q
  okc : T.q = false → ∀ k, T.okc k = true
  scr : Scr C base
  g : base.g.Ns mainGlobals C.mg
  b : base.g.Ns builtinsNs C.mb
  bi : ∀ {x : Str} {v : Value}, biVals.lookup x = some v → C.mg x = none ∧ C.mb x = some v
  fn : ∀ {k : Nat} {x : Str}, T.fns.lookup k = some x → C.mg x = some (.ref (C.fa k)) ∧ ∃ o fd, base.g.get? (C.fa k) = some o ∧ o.data = .func fd
  gint : ∀ {k : Nat} {x : Str} {i : Int}, T.gints.lookup k = some (x, i) → ∃ t, C.mg x = some (.int i t)
  exg : ExcG C T base.g
  nolimit : base.g.NoLimit
  defs : ∀ {k : Nat} {f : FnI}, T.defs.lookup k = some f → T.okc k = true → DefR T base.g (C.fa k) f
  qdefs : ∀ {k : Nat} {f : FnI}, T.defs.lookup k = some f → T.qs.contains k = true → DefR T.quiet base.g (C.fa k) f

inductive GetOk {α β : Type} (r : Res α) (f : α → AHeap → Res β) (v : β) (H' : AHeap) : Prop
  | mk (a : α) (H1 : AHeap) (e1 : r = .ok a H1) (e2 : f a H1 = .ok v H') : GetOk r f v H'
theorem Res.get_ok {α β : Type} {r : Res α} {f : α → AHeap → Res β} {v : β} {H' : AHeap} (e : r.get f = .ok v H') : GetOk r f v H' := by
  cases r with
  | ok a H1 => exact ⟨a, H1, rfl, e⟩
  | exc c H1 => cases e
  | bad => cases e
theorem Res.thn_ok {α β : Type} {r : Res α} {f : α → AHeap → Res β} {v : β} {H' : AHeap} (e : r.thn f = .ok v H') : GetOk r f v H' := by
  cases r with
  | ok a H1 => exact ⟨a, H1, rfl, e⟩
  | exc c H1 => cases e
  | bad => cases e

section
variable (C : Cx) (T : Tab) (n b : Nat) (Γ : List Str) (S : Scope)
/-- the tree e does what d says -/
structure EvOk (e : Expr) (d : AEnv → AHeap → Res AV) : Prop where
  ok : ∀ {base : Bs} {env : Env} {ρ : AEnv} {μ : List Addr} {H H' : AHeap} {s : Shared} {A : Around} {E : Value → Shared → Prop} {Q : Value → Shared → Prop} {v : AV},
    Gnd C T base → env.scope = S → St C base b env Γ ρ μ H s → AOk base A n → d ρ H = .ok v H' → After C base b env Γ ρ μ s v H' Q → wpAny (model C.prog C.w) A (eval e env) Q E s
structure TrOk (e : Expr) (d : AEnv → AHeap → Res Bool) : Prop where
  ok : ∀ {base : Bs} {env : Env} {ρ : AEnv} {μ : List Addr} {H H' : AHeap} {s : Shared} {A : Around} {E : Value → Shared → Prop} {Q : Bool → Shared → Prop} {v : Bool},
    Gnd C T base → env.scope = S → St C base b env Γ ρ μ H s → AOk base A n → d ρ H = .ok v H' → (∀ s' μ', Ext env μ μ' s.heap s'.heap → St C base b env Γ ρ μ' H' s' → Q v s') →
    wpAny (model C.prog C.w) A (isTrue e env (eval e env)) Q E s
structure EsOk (es : List Expr) (d : AEnv → AHeap → Res (List AV)) : Prop where
  ok : ∀ {base : Bs} {env : Env} {ρ : AEnv} {μ : List Addr} {H H' : AHeap} {s : Shared} {A : Around} {E : Value → Shared → Prop} {Q : List Value → Shared → Prop} {vs : List AV} {pos : Pos},
    Gnd C T base → env.scope = S → St C base b env Γ ρ μ H s → AOk base A n → d ρ H = .ok vs H' → (∀ us s' μ', Ext env μ μ' s.heap s'.heap → St C base b env Γ ρ μ' H' s' → VRs C μ' s'.heap vs us → Q us s') →
    wpAny (model C.prog C.w) A (spliced (backTo pos (starEach es env))) Q E s
end

theorem starEach_cons {e : Expr} {r : List Expr} {env : Env} (h : notStar e = true) : starEach (e :: r) env = (false, eval e env) :: starEach r env := by
  cases e <;> first | rfl | cases h

section
variable {C : Cx} {T : Tab} {n b : Nat} {Γ : List Str} {S : Scope}

theorem EvOk.const {e : Expr} {d : AEnv → AHeap → Res AV} {v : AV} (hd : ∀ ρ H, d ρ H = .ok v H)
    (he : ∀ {env : Env} {A : Around} {E Q} {s : Shared} {μ : List Addr}, (∀ u tk, VR C μ s.heap v u → Q u { s with toks := tk }) → wpAny (model C.prog C.w) A (eval e env) Q E s) : EvOk C T n b Γ S e d := by
  refine ⟨?_⟩
  intro base env ρ μ H H' s A E Q v' G hS st a ed k
  rw [hd] at ed; cases ed
  exact he (μ := μ) fun u tk q => k u _ μ .refl (st.tok tk) q

theorem EvOk.cNone {k : Nat} {pos : Pos} {d : AEnv → AHeap → Res AV} (hd : ∀ ρ H, d ρ H = .ok .none H) : EvOk C T n b Γ S (.Constant .none k pos) d :=
  .const hd fun {_ _ _ _ s _} k => wpAny_Constant_none (k _ s.toks .none)
theorem EvOk.cBool {c : Bool} {k : Nat} {pos : Pos} {d : AEnv → AHeap → Res AV} (hd : ∀ ρ H, d ρ H = .ok (.bool c) H) : EvOk C T n b Γ S (.Constant (.bool c) k pos) d :=
  .const hd fun {_ _ _ _ s _} k => wpAny_Constant_bool (k _ s.toks (.bool _))
theorem EvOk.cInt {c : Int} {k : Nat} {pos : Pos} {d : AEnv → AHeap → Res AV} (hd : ∀ ρ H, d ρ H = .ok (.int c) H) : EvOk C T n b Γ S (.Constant (.int c) k pos) d :=
  .const hd fun {_ _ _ _ s _} k => wpAny_Constant_int (k _ _ (.int _ _))
theorem EvOk.cStr {c : Str} {k : Nat} {pos : Pos} {d : AEnv → AHeap → Res AV} (hd : ∀ ρ H, d ρ H = .ok (.str c) H) : EvOk C T n b Γ S (.Constant (.str c) k pos) d :=
  .const hd fun {_ _ _ _ s _} k => wpAny_Constant_str (k _ _ (.str _ _))

theorem isVarK_cases {S : Scope} {x : Str} (h : isVarK S x = true) : (kindIn S x = some .local ∨ kindIn S x = some .cell ∨ kindIn S x = some .free) ∧ (x == ("__debug__" : Str)) = false ∧ (x == ("__classdict__" : Str)) = false := by
  unfold isVarK at h
  simp only [Bool.and_eq_true, Bool.or_eq_true, beq_iff_eq, Bool.not_eq_true'] at h
  obtain ⟨⟨(h1 | h1) | h1, h2⟩, h3⟩ := h
  · exact ⟨.inl h1, h2, h3⟩
  · exact ⟨.inr (.inl h1), h2, h3⟩
  · exact ⟨.inr (.inr h1), h2, h3⟩
theorem EvOk.var {x : Str} {pos : Pos} {i : Nat} {d : AEnv → AHeap → Res AV} (hs : slot Γ x = some i) (hk : isVarK S x = true)
    (hd : ∀ ρ H, d ρ H = (match ρ[i]? with | some (some v) => .ok v H | _ => .bad)) : EvOk C T n b Γ S (.Name x pos) d := by
  refine ⟨?_⟩
  intro base env ρ μ H H' s A E Q v G hS st a ed k
  rw [hd] at ed
  split at ed
  · rename_i w ew; cases ed
    obtain ⟨hk, h1, h2⟩ := isVarK_cases hk
    refine wpAny_Name ?_ h1
    rw [← hS] at hk
    rcases hk with hk | hk | hk
    · obtain ⟨m, nm, q⟩ := st.er.ns
      obtain ⟨u, eu, vu⟩ := q hs hk ew
      exact wpAny_loadName_local st.er.kind hk nm eu (k u s μ .refl st vu)
    · obtain ⟨c, o, ec, hc, q⟩ := st.er.cells (.inl hk)
      obtain ⟨u, rfl, vu⟩ := q hs ew
      exact wpAny_loadName_cell st.er.kind hk ec hc (k u s μ .refl st vu)
    · obtain ⟨c, o, ec, hc, q⟩ := st.er.cells (.inr hk)
      obtain ⟨u, rfl, vu⟩ := q hs ew
      exact wpAny_loadName_free st.er.kind hk ec hc (k u s μ .refl st vu) h2
  · cases ed

theorem isGlob_cases {S : Scope} {x : Str} (h : isGlob S x = true) : kindIn S x = some .globalImplicit ∧ (x == ("__debug__" : Str)) = false := by
  unfold isGlob at h
  simp only [Bool.and_eq_true, beq_iff_eq, Bool.not_eq_true'] at h
  exact h

section
variable {base : Bs} {env : Env} {ρ : AEnv} {μ : List Addr} {H H' : AHeap} {s : Shared} {A : Around} {E : Value → Shared → Prop} {Q : Value → Shared → Prop}
theorem glob_ok {x : Str} {pos : Pos} {u : Value} (G : Gnd C T base) (hS : env.scope = S) (st : St C base b env Γ ρ μ H s) (hg : isGlob S x = true) (hx : C.mg x = some u) (k : Q u s) : wpAny (model C.prog C.w) A (eval (.Name x pos) env) Q E s := by
  obtain ⟨h1, h2⟩ := isGlob_cases hg
  rw [← hS] at h1
  refine Name_function_global st.er.kind h1 (loadGlobal_global (mg := C.mg) ?_ hx k) h2
  rw [st.er.globals]; exact G.g.keeps fun _ _ => st.kg
theorem builtin_ok {x : Str} {pos : Pos} {u : Value} (G : Gnd C T base) (hS : env.scope = S) (st : St C base b env Γ ρ μ H s) (hg : isGlob S x = true) (hx : biVals.lookup x = some u) (k : Q u s) : wpAny (model C.prog C.w) A (eval (.Name x pos) env) Q E s := by
  obtain ⟨h1, h2⟩ := isGlob_cases hg
  obtain ⟨h3, h4⟩ := G.bi hx
  rw [← hS] at h1
  refine Name_function_global st.er.kind h1 (loadGlobal_builtin (mg := C.mg) (mb := C.mb) ?_ h3 ?_ h4 k) h2
  · rw [st.er.globals]; exact G.g.keeps fun _ _ => st.kg
  · rw [st.er.builtins]; exact G.b.keeps fun _ _ => st.kg
end

theorem EvOk.gint {x : Str} {pos : Pos} {k : Nat} {i : Int} {d : AEnv → AHeap → Res AV} (hx : T.gints.lookup k = some (x, i)) (hg : isGlob S x = true) (hd : ∀ ρ H, d ρ H = .ok (.int i) H) : EvOk C T n b Γ S (.Name x pos) d := by
  refine ⟨?_⟩
  intro base env ρ μ H H' s A E Q v G hS st a ed q
  rw [hd] at ed; cases ed
  obtain ⟨t, e⟩ := G.gint hx
  exact glob_ok G hS st hg e (q _ _ μ .refl st (.int i t))

/-- two trees, one behind the other -/
theorem two_ok {l r : Expr} {d1 d2 : AEnv → AHeap → Res AV} (h1 : EvOk C T n b Γ S l d1) (h2 : EvOk C T n b Γ S r d2)
    {base : Bs} {env : Env} {ρ : AEnv} {μ : List Addr} {H H1 H2 : AHeap} {s : Shared} {A : Around} {E : Value → Shared → Prop} {Q : Value → Value → Shared → Prop} {v w : AV}
    (G : Gnd C T base) (hS : env.scope = S) (st : St C base b env Γ ρ μ H s) (a : AOk base A n) (e1 : d1 ρ H = .ok v H1) (e2 : d2 ρ H1 = .ok w H2)
    (k : ∀ p q s' μ', Ext env μ μ' s.heap s'.heap → St C base b env Γ ρ μ' H2 s' → VR C μ' s'.heap v p → VR C μ' s'.heap w q → Q p q s') :
    wpAny (model C.prog C.w) A (eval l env) (fun p s₁ => wpAny (model C.prog C.w) A (eval r env) (fun q s₂ => Q p q s₂) E s₁) E s :=
  h1.ok G hS st a e1 fun p s1 μ1 X1 S1 V1 => h2.ok G hS S1 a e2 fun q s2 μ2 X2 S2 V2 => k p q s2 μ2 (X1.trans X2) S2 (V1.mono S1.hp S1.er X2) V2

theorem EvOk.bin {l r : Expr} {op : Operator} {pos : Pos} {d d1 d2 : AEnv → AHeap → Res AV} (h1 : EvOk C T n b Γ S l d1) (h2 : EvOk C T n b Γ S r d2)
    (hd : ∀ ρ H, d ρ H = (d1 ρ H).get fun v H => (d2 ρ H).get fun w H => binop op v w H) : EvOk C T n b Γ S (.BinOp l op r pos) d := by
  refine ⟨?_⟩
  intro base env ρ μ H H' s A E Q v G hS st a ed k
  rw [hd] at ed
  obtain ⟨x, H1, e1, ed⟩ := Res.get_ok ed
  obtain ⟨y, H2, e2, ed⟩ := Res.get_ok ed
  refine wpAny_BinOp (two_ok h1 h2 G hS st a e1 e2 fun p q s' μ' X S' V W => ?_)
  exact binop_ok S' V W ed fun u s'' μ'' X' S'' V' => k u s'' μ'' (X.trans X') S'' V'
theorem EvOk.neg {x : Expr} {pos : Pos} {d d1 : AEnv → AHeap → Res AV} (h1 : EvOk C T n b Γ S x d1) (hd : ∀ ρ H, d ρ H = (d1 ρ H).get fun v H => (match v with | .int i => .ok (.int (-i)) H | _ => .bad)) : EvOk C T n b Γ S (.UnaryOp .USub x pos) d := by
  refine ⟨?_⟩
  intro base env ρ μ H H' s A E Q v G hS st a ed k
  rw [hd] at ed
  obtain ⟨x, H1, e1, ed⟩ := Res.get_ok ed
  split at ed
  · cases ed
    refine wpAny_UnaryOp (h1.ok G hS st a e1 fun u s' μ' X S' V => ?_)
    obtain ⟨t, rfl⟩ := V.isInt
    exact PyProof.Rows.neg_int (k _ _ μ' X (S'.tok _) (.int _ _))
  · cases ed
theorem EvOk.not {x : Expr} {pos : Pos} {d d1 : AEnv → AHeap → Res AV} (h1 : EvOk C T n b Γ S x d1) (hd : ∀ ρ H, d ρ H = (d1 ρ H).get fun v H => (match v with | .bool i => .ok (.bool (!i)) H | _ => .bad)) : EvOk C T n b Γ S (.UnaryOp .Not x pos) d := by
  refine ⟨?_⟩
  intro base env ρ μ H H' s A E Q v G hS st a ed k
  rw [hd] at ed
  obtain ⟨x, H1, e1, ed⟩ := Res.get_ok ed
  split at ed
  · cases ed
    refine wpAny_UnaryOp (h1.ok G hS st a e1 fun u s' μ' X S' V => ?_)
    cases V
    refine wpAny_bind (wpAny_truthy_bool (wpAny_pure ?_))
    exact k _ _ μ' X S' (.bool _)
  · cases ed
theorem EvOk.ite {t x y : Expr} {pos : Pos} {d d1 d2 : AEnv → AHeap → Res AV} {dt : AEnv → AHeap → Res Bool} (ht : TrOk C T n b Γ S t dt) (h1 : EvOk C T n b Γ S x d1) (h2 : EvOk C T n b Γ S y d2)
    (hd : ∀ ρ H, d ρ H = (dt ρ H).get fun t H => if t then d1 ρ H else d2 ρ H) : EvOk C T n b Γ S (.IfExp t x y pos) d := by
  refine ⟨?_⟩
  intro base env ρ μ H H' s A E Q v G hS st a ed k
  rw [hd] at ed
  obtain ⟨c, H1, e1, ed⟩ := Res.get_ok ed
  refine wpAny_IfExp (ht.ok G hS st a e1 fun s' μ' X S' => ?_)
  cases c with
  | true =>
    simp only [if_true] at ed ⊢
    exact h1.ok G hS S' a ed fun u s'' μ'' X' S'' V => k u s'' μ'' (X.trans X') S'' V
  | false =>
    simp only [Bool.false_eq_true, if_false] at ed ⊢
    exact h2.ok G hS S' a ed fun u s'' μ'' X' S'' V => k u s'' μ'' (X.trans X') S'' V

theorem EsOk.nilE {d : AEnv → AHeap → Res (List AV)} (hd : ∀ ρ H, d ρ H = .ok [] H) : EsOk C T n b Γ S [] d := by
  refine ⟨?_⟩
  intro base env ρ μ H H' s A E Q vs pos G hS st a ed k
  rw [hd] at ed; cases ed
  exact wpAny_pure (k _ _ μ .refl st .nil)
theorem EsOk.consE {e : Expr} {es : List Expr} {d1 : AEnv → AHeap → Res AV} {d d2 : AEnv → AHeap → Res (List AV)} (hn : notStar e = true) (h1 : EvOk C T n b Γ S e d1) (h2 : EsOk C T n b Γ S es d2)
    (hd : ∀ ρ H, d ρ H = (d1 ρ H).thn fun v H => (d2 ρ H).thn fun vs H => .ok (v :: vs) H) : EsOk C T n b Γ S (e :: es) d := by
  refine ⟨?_⟩
  intro base env ρ μ H H' s A E Q vs pos G hS st a ed k
  rw [hd] at ed
  obtain ⟨x, H1, e1, ed⟩ := Res.thn_ok ed
  obtain ⟨y, H2, e2, ed⟩ := Res.thn_ok ed
  cases ed
  refine wpAny_items_cons (h1.ok G hS st a e1 fun p s1 μ1 X1 S1 V1 => h2.ok G hS S1 a e2 fun q s2 μ2 X2 S2 V2 => ?_) (starEach_cons hn)
  exact k _ s2 μ2 (X1.trans X2) S2 (.cons (V1.mono S1.hp S1.er X2) V2)

theorem EvOk.mkList {es : List Expr} {pos : Pos} {d : AEnv → AHeap → Res AV} {d1 : AEnv → AHeap → Res (List AV)} (h1 : EsOk C T n b Γ S es d1) (hd : ∀ ρ H, d ρ H = (d1 ρ H).thn fun vs H => alloc vs H) : EvOk C T n b Γ S (.List es pos) d := by
  refine ⟨?_⟩
  intro base env ρ μ H H' s A E Q v G hS st a ed k
  rw [hd] at ed
  obtain ⟨vs, H1, e1, ed⟩ := Res.thn_ok ed
  unfold alloc at ed
  split at ed
  · rename_i hz; cases ed
    refine wpAny_List_spliced (h1.ok G hS st a e1 fun us s' μ' X S' V => ⟨?_, ?_⟩)
    · rw [← V.length]; exact lim_line hz
    · exact k _ _ _ (X.trans .newList) (S'.newList V hz) (.ref (by rw [← S'.hp.len]; simp))
  · cases ed
theorem EvOk.mkTuple {es : List Expr} {j : Nat} {pos : Pos} {d : AEnv → AHeap → Res AV} {d1 : AEnv → AHeap → Res (List AV)} (h1 : EsOk C T n b Γ S es d1) (hd : ∀ ρ H, d ρ H = (d1 ρ H).get fun vs H => tupOf vs H) : EvOk C T n b Γ S (.Tuple es j pos) d := by
  refine ⟨?_⟩
  intro base env ρ μ H H' s A E Q v G hS st a ed k
  rw [hd] at ed
  obtain ⟨vs, H1, e1, ed⟩ := Res.get_ok ed
  unfold tupOf at ed
  split at ed
  · rename_i hz; cases ed
    refine wpAny_Tuple_spliced (h1.ok G hS st a e1 fun us s' μ' X S' V => ⟨?_, ?_⟩)
    · rw [← V.length]; exact lim_line hz
    · have g : ∀ {a : Addr} {o : Obj}, s'.heap.get? a = some o → (s'.heap.push { cls := .type "tuple", data := .seq us.toArray }).get? a = some o := fun e => Heap.get?_push_of_some _ e
      exact k _ _ μ' (X.trans (Ext.grow g)) (S'.push _) (.tup ⟨_, Heap.get?_push_size _ rfl, rfl, _, rfl⟩ (S'.notZ (none_size _)) hz (V.keeps g))
  · cases ed
theorem notSet_marks {op : CmpOp} {e : Expr} (h : notSet e = true) : behindInMarks op e = false := by
  cases e <;> first | rfl | cases h
theorem EvOk.cmp {l r : Expr} {op : CmpOp} {pos : Pos} {d d1 d2 : AEnv → AHeap → Res AV} (hr : notSet r = true) (h1 : EvOk C T n b Γ S l d1) (h2 : EvOk C T n b Γ S r d2)
    (hd : ∀ ρ H, d ρ H = (d1 ρ H).get fun v H => (d2 ρ H).get fun w H => (match cmpop op v w H with | some r => .ok (.bool r) H | none => .bad)) : EvOk C T n b Γ S (.Compare l [op] [r] pos) d := by
  refine ⟨?_⟩
  intro base env ρ μ H H' s A E Q v G hS st a ed k
  rw [hd] at ed
  obtain ⟨x, H1, e1, ed⟩ := Res.get_ok ed
  obtain ⟨y, H2, e2, ed⟩ := Res.get_ok ed
  split at ed
  · rename_i r er; cases ed
    refine wpAny_Compare1 (two_ok h1 h2 G hS st a e1 e2 fun p q s' μ' X S' V W => ?_) (notSet_marks hr)
    exact cmpop_ok S' V W er a (k _ _ μ' X S' (.bool _))
  · cases ed
theorem TrOk.cmp {l r : Expr} {op : CmpOp} {pos : Pos} {d1 d2 : AEnv → AHeap → Res AV} {d : AEnv → AHeap → Res Bool} (hr : notSet r = true) (h1 : EvOk C T n b Γ S l d1) (h2 : EvOk C T n b Γ S r d2)
    (hd : ∀ ρ H, d ρ H = (d1 ρ H).get fun v H => (d2 ρ H).get fun w H => (match cmpop op v w H with | some r => .ok r H | none => .bad)) : TrOk C T n b Γ S (.Compare l [op] [r] pos) d := by
  refine ⟨?_⟩
  intro base env ρ μ H H' s A E Q v G hS st a ed k
  rw [hd] at ed
  obtain ⟨x, H1, e1, ed⟩ := Res.get_ok ed
  obtain ⟨y, H2, e2, ed⟩ := Res.get_ok ed
  split at ed
  · rename_i r er; cases ed
    refine wpAny_isTrue_Compare1 (two_ok h1 h2 G hS st a e1 e2 fun p q s' μ' X S' V W => ?_) (notSet_marks hr)
    exact cmpop_ok S' V W er a (wpAny_truthy_bool (k _ μ' X S'))
  · cases ed
theorem EvOk.cmp2 {l r1 r2 : Expr} {o1 o2 : CmpOp} {pos : Pos} {d d1 d2 d3 : AEnv → AHeap → Res AV} (hr : notSet r2 = true) (h1 : EvOk C T n b Γ S l d1) (h2 : EvOk C T n b Γ S r1 d2) (h3 : EvOk C T n b Γ S r2 d3)
    (hd : ∀ ρ H, d ρ H = (d1 ρ H).get fun v H => (d2 ρ H).get fun w H => (match cmpop o1 v w H with
      | some true => (d3 ρ H).get fun u H => (match cmpop o2 w u H with | some r => .ok (.bool r) H | none => .bad)
      | some false => .ok (.bool false) H
      | none => .bad)) : EvOk C T n b Γ S (.Compare l [o1, o2] [r1, r2] pos) d := by
  refine ⟨?_⟩
  intro base env ρ μ H H' s A E Q v G hS st a ed k
  rw [hd] at ed
  obtain ⟨x, H1, e1, ed⟩ := Res.get_ok ed
  obtain ⟨y, H2, e2, ed⟩ := Res.get_ok ed
  rw [arm_eval_Compare]
  refine wpAny_bind (h1.ok G hS st a e1 fun p s1 μ1 X1 S1 V1 => ?_)
  simp only [evalEach, markedEach, markedBehindIn, notSet_marks hr]
  refine wpAny_bind (m := holding [p] (eval r1 env)) (wpAny_holding (h2.ok G hS S1 a e2 fun q s2 μ2 X2 S2 V2 => wpAny_bind (wpAny_standAt (wpAny_bind (wpAny_holding ?_)))))
  have V1' := V1.mono S1.hp S1.er X2
  split at ed
  · rename_i er
    refine cmpop_ok S2 V1' V2 er a (wpAny_bind (wpAny_release (wpAny_bind (wpAny_holding (wpAny_truthy_bool ?_)))))
    simp only [if_true]
    obtain ⟨z, H3, e3, ed⟩ := Res.get_ok ed
    refine wpAny_bind (m := holding [q] (eval r2 env)) (wpAny_holding (h3.ok G hS S2 a e3 fun u s3 μ3 X3 S3 V3 => wpAny_bind (wpAny_standAt (wpAny_operating ?_))))
    split at ed
    · rename_i r er'; cases ed
      exact cmpop_ok S3 (V2.mono S2.hp S2.er X3) V3 er' a (k _ _ μ3 ((X1.trans X2).trans X3) S3 (.bool _))
    · cases ed
  · rename_i er; cases ed
    refine cmpop_ok S2 V1' V2 er a (wpAny_bind (wpAny_release (wpAny_bind (wpAny_holding (wpAny_truthy_bool ?_)))))
    simp only [Bool.false_eq_true, if_false]
    exact wpAny_pure (k _ _ μ2 (X1.trans X2) S2 (.bool _))
  · cases ed
end
end Mine

namespace Mine
open PySem PySem.Calls PyProof.Rows PySem.SeqAt

section
variable (C : Cx) (T : Tab) (n b : Nat) (Γ : List Str) (S : Scope)
structure BoOk (op : BoolOp) (es : List Expr) (d : AEnv → AHeap → Res AV) : Prop where
  ok : ∀ {base : Bs} {env : Env} {ρ : AEnv} {μ : List Addr} {H H' : AHeap} {s : Shared} {A : Around} {E : Value → Shared → Prop} {Q : Value → Shared → Prop} {v : AV} {pos : Pos},
    Gnd C T base → env.scope = S → St C base b env Γ ρ μ H s → AOk base A n → d ρ H = .ok v H' → After C base b env Γ ρ μ s v H' Q → wpAny (model C.prog C.w) A (boolOp pos op (evalEach es env)) Q E s
structure AtOk (op : BoolOp) (es : List Expr) (d : AEnv → AHeap → Res Bool) : Prop where
  ok : ∀ {base : Bs} {env : Env} {ρ : AEnv} {μ : List Addr} {H H' : AHeap} {s : Shared} {A : Around} {E : Value → Shared → Prop} {Q : Bool → Shared → Prop} {v : Bool},
    Gnd C T base → env.scope = S → St C base b env Γ ρ μ H s → AOk base A n → d ρ H = .ok v H' → (∀ s' μ', Ext env μ μ' s.heap s'.heap → St C base b env Γ ρ μ' H' s' → Q v s') →
    wpAny (model C.prog C.w) A (allTrue op es env) Q E s
end

section
variable {C : Cx} {T : Tab} {n b : Nat} {Γ : List Str} {S : Scope}

theorem TrOk.ofEv {e : Expr} {d : AEnv → AHeap → Res Bool} {d1 : AEnv → AHeap → Res AV} (he : ∀ env whole, isTrue e env whole = (do let v ← whole; standAt e.pos; holding [v] (truthy v))) (h : EvOk C T n b Γ S e d1)
    (hd : ∀ ρ H, d ρ H = (d1 ρ H).get fun v H => (match v with | .bool t => .ok t H | _ => .bad)) : TrOk C T n b Γ S e d := by
  refine ⟨?_⟩
  intro base env ρ μ H H' s A E Q v G hS st a ed k
  rw [hd] at ed
  obtain ⟨x, H1, e1, ed⟩ := Res.get_ok ed
  split at ed
  · cases ed
    refine wpAny_isTrue_value (h.ok G hS st a e1 fun u s' μ' X S' V => ?_) (he _ _)
    cases V
    exact wpAny_truthy_bool (k _ _ X S')
  · cases ed
theorem TrOk.not {x : Expr} {pos : Pos} {d d1 : AEnv → AHeap → Res Bool} (h : TrOk C T n b Γ S x d1) (hd : ∀ ρ H, d ρ H = (d1 ρ H).get fun v H => .ok (!v) H) : TrOk C T n b Γ S (.UnaryOp .Not x pos) d := by
  refine ⟨?_⟩
  intro base env ρ μ H H' s A E Q v G hS st a ed k
  rw [hd] at ed
  obtain ⟨x, H1, e1, ed⟩ := Res.get_ok ed
  cases ed
  exact wpAny_isTrue_Not (h.ok G hS st a e1 fun s' μ' X S' => k _ _ X S')
theorem BoOk.one {op : BoolOp} {e : Expr} {d d1 : AEnv → AHeap → Res AV} (h : EvOk C T n b Γ S e d1) (hd : ∀ ρ H, d ρ H = d1 ρ H) : BoOk C T n b Γ S op [e] d := by
  refine ⟨?_⟩
  intro base env ρ μ H H' s A E Q v pos G hS st a ed k
  rw [hd] at ed
  exact h.ok G hS st a ed k
theorem BoOk.andE {e e' : Expr} {es : List Expr} {d d1 d2 : AEnv → AHeap → Res AV} (h : EvOk C T n b Γ S e d1) (h2 : BoOk C T n b Γ S .And (e' :: es) d2)
    (hd : ∀ ρ H, d ρ H = (d1 ρ H).get fun v H => (match v with
      | .bool false => .ok (.bool false) H
      | .bool true => d2 ρ H
      | _ => .bad)) : BoOk C T n b Γ S .And (e :: e' :: es) d := by
  refine ⟨?_⟩
  intro base env ρ μ H H' s A E Q v pos G hS st a ed k
  rw [hd] at ed
  obtain ⟨x, H1, e1, ed⟩ := Res.get_ok ed
  show wpAny _ _ (boolOp pos .And (eval e env :: eval e' env :: evalEach es env)) Q E s
  · refine wpAny_bind (m := eval e env) (h.ok G hS st a e1 fun u s' μ' X S' V => wpAny_bind (wpAny_standAt (wpAny_bind (wpAny_holding ?_))))
    split at ed
    · cases ed; cases V
      exact wpAny_truthy_bool (wpAny_pure (k _ _ μ' X S' (.bool _)))
    · cases V
      refine wpAny_truthy_bool ?_
      exact h2.ok (pos := pos) G hS S' a ed fun u s'' μ'' X' S'' V => k u s'' μ'' (X.trans X') S'' V
    · cases ed
theorem BoOk.orE {e e' : Expr} {es : List Expr} {d d1 d2 : AEnv → AHeap → Res AV} (h : EvOk C T n b Γ S e d1) (h2 : BoOk C T n b Γ S .Or (e' :: es) d2)
    (hd : ∀ ρ H, d ρ H = (d1 ρ H).get fun v H => (match v with
      | .bool true => .ok (.bool true) H
      | .bool false => d2 ρ H
      | _ => .bad)) : BoOk C T n b Γ S .Or (e :: e' :: es) d := by
  refine ⟨?_⟩
  intro base env ρ μ H H' s A E Q v pos G hS st a ed k
  rw [hd] at ed
  obtain ⟨x, H1, e1, ed⟩ := Res.get_ok ed
  show wpAny _ _ (boolOp pos .Or (eval e env :: eval e' env :: evalEach es env)) Q E s
  · refine wpAny_bind (m := eval e env) (h.ok G hS st a e1 fun u s' μ' X S' V => wpAny_bind (wpAny_standAt (wpAny_bind (wpAny_holding ?_))))
    split at ed
    · cases ed; cases V
      exact wpAny_truthy_bool (wpAny_pure (k _ _ μ' X S' (.bool _)))
    · cases V
      refine wpAny_truthy_bool ?_
      exact h2.ok (pos := pos) G hS S' a ed fun u s'' μ'' X' S'' V => k u s'' μ'' (X.trans X') S'' V
    · cases ed
theorem EvOk.boolOp {op : BoolOp} {es : List Expr} {pos : Pos} {d : AEnv → AHeap → Res AV} (h : BoOk C T n b Γ S op es d) : EvOk C T n b Γ S (.BoolOp op es pos) d := by
  refine ⟨?_⟩
  intro base env ρ μ H H' s A E Q v G hS st a ed k
  rw [arm_eval_BoolOp]
  exact h.ok G hS st a ed k

theorem AtOk.nilA {d : AEnv → AHeap → Res Bool} (hd : ∀ ρ H, d ρ H = .ok true H) : AtOk C T n b Γ S .And [] d := by
  refine ⟨?_⟩
  intro base env ρ μ H H' s A E Q v G hS st a ed k
  rw [hd] at ed; cases ed
  exact wpAny_allTrue_And_nil (k _ μ .refl st)
theorem AtOk.nilO {d : AEnv → AHeap → Res Bool} (hd : ∀ ρ H, d ρ H = .ok false H) : AtOk C T n b Γ S .Or [] d := by
  refine ⟨?_⟩
  intro base env ρ μ H H' s A E Q v G hS st a ed k
  rw [hd] at ed; cases ed
  exact wpAny_allTrue_Or_nil (k _ μ .refl st)
theorem AtOk.andE {e : Expr} {es : List Expr} {d d1 d2 : AEnv → AHeap → Res Bool} (h : TrOk C T n b Γ S e d1) (h2 : AtOk C T n b Γ S .And es d2) (hd : ∀ ρ H, d ρ H = (d1 ρ H).get fun v H => if v then d2 ρ H else .ok false H) :
    AtOk C T n b Γ S .And (e :: es) d := by
  refine ⟨?_⟩
  intro base env ρ μ H H' s A E Q v G hS st a ed k
  rw [hd] at ed
  obtain ⟨c, H1, e1, ed⟩ := Res.get_ok ed
  refine wpAny_allTrue_And_cons (h.ok G hS st a e1 fun s' μ' X S' => ?_)
  cases c with
  | true => simp only [if_true] at ed ⊢; exact h2.ok G hS S' a ed fun s'' μ'' X' S'' => k s'' μ'' (X.trans X') S''
  | false => simp only [Bool.false_eq_true, if_false] at ed ⊢; cases ed; exact k _ _ X S'
theorem AtOk.orE {e : Expr} {es : List Expr} {d d1 d2 : AEnv → AHeap → Res Bool} (h : TrOk C T n b Γ S e d1) (h2 : AtOk C T n b Γ S .Or es d2) (hd : ∀ ρ H, d ρ H = (d1 ρ H).get fun v H => if v then .ok true H else d2 ρ H) :
    AtOk C T n b Γ S .Or (e :: es) d := by
  refine ⟨?_⟩
  intro base env ρ μ H H' s A E Q v G hS st a ed k
  rw [hd] at ed
  obtain ⟨c, H1, e1, ed⟩ := Res.get_ok ed
  refine wpAny_allTrue_Or_cons (h.ok G hS st a e1 fun s' μ' X S' => ?_)
  cases c with
  | true => simp only [if_true] at ed ⊢; cases ed; exact k _ _ X S'
  | false => simp only [Bool.false_eq_true, if_false] at ed ⊢; exact h2.ok G hS S' a ed fun s'' μ'' X' S'' => k s'' μ'' (X.trans X') S''
theorem TrOk.boolOp {op : BoolOp} {es : List Expr} {pos : Pos} {d : AEnv → AHeap → Res Bool} (h : AtOk C T n b Γ S op es d) : TrOk C T n b Γ S (.BoolOp op es pos) d := by
  refine ⟨?_⟩
  intro base env ρ μ H H' s A E Q v G hS st a ed k
  exact wpAny_isTrue_BoolOp (h.ok G hS st a ed k)

/-! items -/
theorem at_spec {n : Nat} {k : Int} {j : Nat} (h : at? n k = some j) : j < n ∧ ((0 ≤ k ∧ k < n ∧ j = k.toNat) ∨ (k < 0 ∧ -(n : Int) ≤ k ∧ j = (k + n).toNat)) := by
  unfold at? at h
  split at h
  · rename_i h1; cases h; exact ⟨by (first | lia | omega), .inl ⟨h1.1, h1.2, rfl⟩⟩
  · split at h
    · rename_i h1; cases h; exact ⟨by (first | lia | omega), .inr ⟨h1.1, h1.2, rfl⟩⟩
    · cases h
theorem subscripted_int {slice : Expr} {a : Addr} {k : Int} {t : Tok} (hn : notSlice slice = true) : subscripted slice false (.ref a) (.int k t) = operate [.ref a, .int k t] (getItem (.ref a) (.int k t)) := by
  cases slice <;> first | rfl | cases hn

theorem seqIndex_at {n j : Nat} {k : Int} (hj : j < n) (h : (0 ≤ k ∧ k < n ∧ j = k.toNat) ∨ (k < 0 ∧ -(n : Int) ≤ k ∧ j = (k + n).toNat)) : seqIndex? k n = some j := by
  unfold seqIndex?
  rcases h with ⟨h1, h2, rfl⟩ | ⟨h1, h2, rfl⟩
  · have : ¬ k < 0 := by (first | lia | omega)
    simp only [this, if_false]
    rw [if_pos (by simp; (first | lia | omega))]
  · simp only [h1, if_true]
    rw [if_pos (by simp; (first | lia | omega))]
theorem EvOk.idx {v i : Expr} {pos : Pos} {d d1 d2 : AEnv → AHeap → Res AV} (hn : notSlice i = true) (h1 : EvOk C T n b Γ S v d1) (h2 : EvOk C T n b Γ S i d2)
    (hd : ∀ ρ H, d ρ H = (d1 ρ H).get fun v H => (d2 ρ H).get fun w H => itemOf C.sc v w H) : EvOk C T n b Γ S (.Subscript v i pos) d := by
  refine ⟨?_⟩
  intro base env ρ μ H H' s A E Q v' G hS st a ed k
  rw [hd] at ed
  obtain ⟨x, H1, e1, ed⟩ := Res.get_ok ed
  obtain ⟨y, H2, e2, ed⟩ := Res.get_ok ed
  refine Subscript_ (two_ok h1 h2 G hS st a e1 e2 fun p q s' μ' X S' V W => ?_)
  unfold itemOf at ed
  split at ed
  · rename_i k'
    obtain ⟨t, rfl⟩ := W.isInt
    split at ed
    · split at ed
      · rename_i hk; cases ed; cases V
        obtain ⟨svs, l, hi, hz⟩ := G.scr.scr
        have l' : s'.heap.IsList C.sa svs.toArray := isList_keeps l fun _ => S'.kg
        have hlen : svs.length = C.sc.length := hi.length
        have hlt : k'.toNat < svs.length := by (first | lia | omega)
        obtain ⟨t', et⟩ := IntsAre_get hi (List.getElem?_eq_getElem hlt)
        have hfit : C.sc.length < 2 ^ 63 := Nat.lt_of_le_of_lt hz (by decide)
        refine tail_any l'.typeIs slot_list_getitem.lookup (wpAny_getItem_list l' hk.1 (by (first | lia | omega)) (x := .int (C.sc.getD k'.toNat 0) t') ?_ (k _ _ μ' X S' (.int _ _))) (subscripted_int hn)
        rw [List.getElem?_toArray, List.getElem?_eq_getElem hlt, et]
      · cases ed
    · split at ed
      · rename_i xs ex
        split at ed
        · rename_i j ej
          split at ed
          · rename_i z ez; cases ed
            obtain ⟨hz, a', o, vs, c, Ty, rfl, hT, ho, hc, hd', q⟩ := items_seq S'.hp V ex
            obtain ⟨u, eu, vu⟩ := q.get ez
            have hlim : xs.length < 2 ^ 63 := Nat.lt_of_le_of_lt hz (by decide)
            have hl := q.length
            obtain ⟨hj, hcase⟩ := at_spec ej
            rcases hT with rfl | rfl
            · have hl' : s'.heap.IsList a' (List.toArray vs) := ⟨o, ho, hc, c, hd'⟩
              refine tail_any hl'.typeIs slot_list_getitem.lookup ?_ (subscripted_int hn)
              rcases hcase with ⟨h3, h4, rfl⟩ | ⟨h3, h4, rfl⟩
              · exact wpAny_getItem_list hl' h3 (by (first | lia | omega)) (by simpa using eu) (k _ _ μ' X S' vu)
              · exact wpAny_getItem_list_neg hl' h3 (by simp; (first | lia | omega)) (by (first | lia | omega)) (by simpa [← hl] using eu) (k _ _ μ' X S' vu)
            · have hl' : IsTup s'.heap a' (List.toArray vs) := ⟨o, ho, hc, c, hd'⟩
              refine item_tupleT hl' (by (first | lia | omega)) (by (first | lia | omega)) (j := j) ?_ eu (k _ _ μ' X S' vu) (subscripted_int hn)
              rw [← hl]
              exact seqIndex_at hj hcase
          · cases ed
        · cases ed
      · cases ed
  · cases ed
end
end Mine

namespace Mine
open PySem PySem.Calls PyProof.Rows PySem.SeqAt

section
variable (C : Cx) (T : Tab) (n b : Nat) (Γ : List Str) (S : Scope)
structure PtOk (o : Option Expr) (d : AEnv → AHeap → Res (Option Int)) : Prop where
  ok : ∀ {base : Bs} {env : Env} {ρ : AEnv} {μ : List Addr} {H H' : AHeap} {s : Shared} {A : Around} {E : Value → Shared → Prop} {Q : Value → Shared → Prop} {v : Option Int},
    Gnd C T base → env.scope = S → St C base b env Γ ρ μ H s → AOk base A n → d ρ H = .ok v H' → (∀ u s' μ', Ext env μ μ' s.heap s'.heap → St C base b env Γ ρ μ' H' s' → IsPart u v → Q u s') → wpAny (model C.prog C.w) A (evalPart o env) Q E s
end
section
variable {C : Cx} {T : Tab} {n b : Nat} {Γ : List Str} {S : Scope}
theorem PtOk.no {d : AEnv → AHeap → Res (Option Int)} (hd : ∀ ρ H, d ρ H = .ok none H) : PtOk C T n b Γ S none d := by
  refine ⟨?_⟩
  intro base env ρ μ H H' s A E Q v G hS st a ed k
  rw [hd] at ed; cases ed
  exact wpAny_evalPart_none (k _ _ μ .refl st .none)
theorem PtOk.yes {e : Expr} {d : AEnv → AHeap → Res (Option Int)} {d1 : AEnv → AHeap → Res AV} (h : EvOk C T n b Γ S e d1) (hd : ∀ ρ H, d ρ H = (d1 ρ H).get fun v H => (match v with | .int i => .ok (some i) H | _ => .bad)) : PtOk C T n b Γ S (some e) d := by
  refine ⟨?_⟩
  intro base env ρ μ H H' s A E Q v G hS st a ed k
  rw [hd] at ed
  obtain ⟨x, H1, e1, ed⟩ := Res.get_ok ed
  split at ed
  · cases ed
    refine wpAny_evalPart_some (h.ok G hS st a e1 fun u s' μ' X S' V => ?_)
    obtain ⟨t, rfl⟩ := V.isInt
    exact k _ _ μ' X S' (.int _ _)
  · cases ed

theorem cutAt_clip (n : Nat) (i : Int) : clipAt n i = cutAt n i := rfl
theorem cut_pick {xs : List AV} {vs : List Value} {μ : List Addr} {h : Heap} (q : VRs C μ h xs vs) (lo hi : Option Int) : VRs C μ h (cut xs lo hi) (slicePick vs.toArray lo hi none).toList := by
  rw [slicePick_plain]
  have hl := q.length
  have e1 : (lo.elim 0 (clipAt vs.toArray.size)) = (match lo with | some i => cutAt xs.length i | none => 0) := by
    cases lo <;> simp [cutAt_clip, hl]
  have e2 : (hi.elim vs.toArray.size (clipAt vs.toArray.size)) = (match hi with | some i => cutAt xs.length i | none => xs.length) := by
    cases hi <;> simp [cutAt_clip, hl]
  rw [e1, e2]
  unfold cut
  simp only [← List.drop_take]
  exact (q.take _).drop _

theorem EvOk.slice {v : Expr} {lo hi : Option Expr} {p pos : Pos} {d d1 : AEnv → AHeap → Res AV} {dl dh : AEnv → AHeap → Res (Option Int)} (h1 : EvOk C T n b Γ S v d1) (hl : PtOk C T n b Γ S lo dl) (hh : PtOk C T n b Γ S hi dh)
    (hd : ∀ ρ H, d ρ H = (d1 ρ H).get fun v H => (dl ρ H).get fun l H => (dh ρ H).get fun h H => (match v with
      | .ref r => (match H[r]? with
        | some (.list xs) => alloc (cut xs l h) H
        | _ => .bad)
      | _ => .bad)) : EvOk C T n b Γ S (.Subscript v (.Slice lo hi none p) pos) d := by
  refine ⟨?_⟩
  intro base env ρ μ H H' s A E Q v' G hS st a ed k
  rw [hd] at ed
  obtain ⟨x, H1, e1, ed⟩ := Res.get_ok ed
  obtain ⟨l, H2, e2, ed⟩ := Res.get_ok ed
  obtain ⟨h, H3, e3, ed⟩ := Res.get_ok ed
  refine Subscript_ (h1.ok G hS st a e1 fun q s1 μ1 X1 S1 V1 => wpAny_Slice (hl.ok G hS S1 a e2 fun vl s2 μ2 X2 S2 P2 => hh.ok G hS S2 a e3 fun vh s3 μ3 X3 S3 P3 => wpAny_evalPart_none ?_))
  split at ed
  · rename_i r
    split at ed
    · rename_i xs ex
      unfold alloc at ed
      split at ed
      · rename_i hz; cases ed
        obtain ⟨c, rfl, ec⟩ := ((V1.mono S1.hp S1.er X2).mono S2.hp S2.er X3).isRef
        obtain ⟨hz', a', vs, ea', p1, q1⟩ := S3.hp.list ex
        rw [ec] at ea'; cases ea'
        have S4 := S3.push { cls := .type "slice", data := .fields #[vl, vh, .none] }
        have X4 : Ext env μ3 μ3 s3.heap (s3.heap.push { cls := .type "slice", data := .fields #[vl, vh, .none] }) := Ext.push _
        have p4 : (s3.heap.push { cls := .type "slice", data := .fields #[vl, vh, .none] }).IsList c vs.toArray := (IsList.of_plain p1).push _
        refine tail_any (ops := [.ref s3.heap.objs.size, .ref c]) p4.typeIs slot_list_getitem.lookup ?_ rfl
        refine wpAny_getItem_list_slice (s := { s3 with heap := _ }) p4 ⟨_, Heap.get?_push_size _ rfl, rfl, rfl⟩ P2 P3 .none (by intro e; cases e) ?_ (by rw [List.size_toArray, ← q1.length]; exact lim_line hz')
        have q4 : VRs C μ3 (s3.heap.push { cls := .type "slice", data := .fields #[vl, vh, .none] }) (cut xs l h) (slicePick vs.toArray l h none).toList := cut_pick (q1.keeps fun e => Heap.get?_push_of_some _ e) l h
        have S5 := S4.newList q4 hz
        simp only [Array.toArray_toList] at S5
        exact k _ _ _ ((((X1.trans X2).trans X3).trans X4).trans .newList) S5 (.ref (by rw [← S3.hp.len]; simp))
      · cases ed
    · cases ed
  · cases ed

theorem isL_spec {v : AV} {H : AHeap} (h : isL v H = true) : ∃ r xs, v = .ref r ∧ H[r]? = some (.list xs) := by
  unfold isL at h
  split at h
  · split at h
    · exact ⟨_, _, rfl, by assumption⟩
    · cases h
  · cases h
theorem push_list (vs : List Value) (x : Value) : vs.toArray.push x = (vs ++ [x]).toArray := by simp
theorem EvOk.append {o y : Expr} {ap pos : Pos} {d d1 d2 : AEnv → AHeap → Res AV} (hb : ∀ env, attributeBase o "append" env (eval o env) = eval o env) (hy : notStar y = true) (hline : (ap.endLine == pos.line) = true)
    (h1 : EvOk C T n b Γ S o d1) (h2 : EvOk C T n b Γ S y d2)
    (hd : ∀ ρ H, d ρ H = (d1 ρ H).get fun v H => if isL v H then (d2 ρ H).get fun w H => appendTo b v w H else .bad) : EvOk C T n b Γ S (.Call (.Attribute o "append" ap) [y] [] pos) d := by
  refine ⟨?_⟩
  intro base env ρ μ H H' s A E Q v' G hS st a ed k
  rw [hd] at ed
  obtain ⟨x, H1, e1, ed⟩ := Res.get_ok ed
  split at ed
  · rename_i hL
    obtain ⟨z, H2, e2, ed⟩ := Res.get_ok ed
    have htrees : backTo pos (starEach [y] env) = [(false, eval y env)] := by rw [starEach_cons hy]; rfl
    refine wpAny_Call_append (hb env) (by rw [htrees]; rfl) hline htrees (h1.ok G hS st a e1 fun p s1 μ1 X1 S1 V1 => ?_)
    obtain ⟨r, ys, rfl, ey⟩ := isL_spec hL
    obtain ⟨c, rfl, ec⟩ := V1.isRef
    obtain ⟨_, a', ws, ea', ⟨j, p1⟩, _⟩ := S1.hp.list ey
    rw [ec] at ea'; cases ea'
    refine ⟨c, _, rfl, ⟨_, _, p1, rfl, rfl, rfl⟩, h2.ok G hS S1 a e2 fun q s2 μ2 X2 S2 V2 => ?_⟩
    unfold appendTo at ed
    simp only at ed
    split at ed
    · rename_i xs ex
      split at ed
      · rename_i hc; cases ed
        have ec2 := get_prefix X2.pre ec
        obtain ⟨hz', a', vs, ea', p1, q1⟩ := S2.hp.list ex
        rw [ec2] at ea'; cases ea'
        refine wpAny_list_append_plain p1 (fun h' pl hs => ?_) (by rw [List.size_toArray, ← q1.length]; exact lim_line hz')
        rw [push_list] at pl
        obtain ⟨S3, X3⟩ := S2.turn ex ec2 hc.1 pl hs (q1.append (.cons V2 .nil)) (by simp; (first | lia | omega))
        exact k _ _ _ ((X1.trans X2).trans X3) S3 .none
      · cases ed
    · cases ed
  · cases ed

noncomputable def isB (t : Bool) (v : Value) : Bool := match v with | .bool b => b == t | _ => false
theorem eq_isB (t : Bool) {bs : List Bool} {v : Value} (hv : v ∈ (bs.map Value.bool).toArray) (A : Around) (s : Shared) : EqAt A s v (.bool t) (isB t v) := by
  rw [List.mem_toArray] at hv
  obtain ⟨b, _, rfl⟩ := List.mem_map.mp hv
  exact EqAt.bool_bool b t
theorem count_bools {prog : Program} {w : World} {l : Addr} {bs : List Bool} {t : Bool} {s : Shared} {A : Around} {E : Value → Shared → Prop} {Q : Value → Shared → Prop} (hl : s.heap.IsList l (bs.map Value.bool).toArray)
    (h : Q (.int (bs.countP (· == t) : Nat) s.toks) { s with toks := s.toks + 1 }) : wpAny (model prog w) A (call (.builtin "list.count") [.ref l, .bool t]) Q E s := by
  obtain ⟨⟨cls, dd, data, sl⟩, ho, hc, n, hd⟩ := id hl
  simp only at hc hd
  subst hc hd
  refine call_meets PySem.F.slot_list_count ⟨_, ho, rfl⟩ PySem.F.entry_list_count (PySem.F.args_list_count_2 _ _) (list_countAt l _ n dd sl (.bool t) (isB t)) ⟨ho, fun y hy => eq_isB t hy _ _, ?_⟩
  have : List.countP (isB t) (bs.map Value.bool).toArray.toList = bs.countP (· == t) := by
    show List.countP (isB t) (bs.map Value.bool) = _
    rw [List.countP_map]; rfl
  rw [this]; exact h
theorem index_bools {prog : Program} {w : World} {l : Addr} {bs : List Bool} {t : Bool} {j : Nat} {s : Shared} {A : Around} {E : Value → Shared → Prop} {Q : Value → Shared → Prop} (hl : s.heap.IsList l (bs.map Value.bool).toArray) (ej : bs.findIdx? (· == t) = some j)
    (hb : bs.length < 2 ^ 62) (h : Q (.int (j : Nat) s.toks) { s with toks := s.toks + 1 }) : wpAny (model prog w) A (call (.builtin "list.index") [.ref l, .bool t]) Q E s := by
  obtain ⟨⟨cls, dd, data, sl⟩, ho, hc, n, hd⟩ := id hl
  simp only at hc hd
  subst hc hd
  obtain ⟨hj, h1, h2⟩ := List.findIdx?_eq_some_iff_getElem.mp ej
  refine call_meets PySem.F.slot_list_index ⟨_, ho, rfl⟩ PySem.F.entry_list_index (PySem.F.args_list_index_2 _ _)
    (list_indexAt l _ n dd sl (.bool t) (isB t) j (by simpa using hj) (by (first | lia | omega)) ?_ ?_) ⟨ho, fun y hy => eq_isB t hy _ _, h⟩
  · simpa [isB] using h1
  · intro m hm hlt
    have := h2 m hlt
    simpa [isB] using this
theorem EvOk.index {o y : Expr} {ap pos : Pos} {d d1 d2 : AEnv → AHeap → Res AV} (hb : ∀ env, attributeBase o "index" env (eval o env) = eval o env) (hy : notStar y = true) (hline : (ap.endLine == pos.line) = true)
    (h1 : EvOk C T n b Γ S o d1) (h2 : EvOk C T n b Γ S y d2)
    (hd : ∀ ρ H, d ρ H = (d1 ρ H).get fun v H => if isL v H then (d2 ρ H).get fun w H => indexOf v w H else .bad) : EvOk C T n b Γ S (.Call (.Attribute o "index" ap) [y] [] pos) d := by
  refine ⟨?_⟩
  intro base env ρ μ H H' s A E Q v' G hS st a ed k
  rw [hd] at ed
  obtain ⟨x, H1, e1, ed⟩ := Res.get_ok ed
  split at ed
  · rename_i hL
    obtain ⟨z, H2, e2, ed⟩ := Res.get_ok ed
    have htrees : backTo pos (starEach [y] env) = [(false, eval y env)] := by rw [starEach_cons hy]; rfl
    refine wpAny_Call_method1_late (hb env) hline htrees (h1.ok G hS st a e1 fun p s1 μ1 X1 S1 V1 => ?_)
    obtain ⟨r, ys, rfl, ey⟩ := isL_spec hL
    obtain ⟨c, rfl, ec⟩ := V1.isRef
    obtain ⟨_, a', ws, ea', ⟨j, p1⟩, _⟩ := S1.hp.list ey
    rw [ec] at ea'; cases ea'
    refine ⟨"list", "list.index", PySem.F.plainAttrs_list, PySem.F.slot_list_index, PySem.F.type_list_index, (IsList.of_plain ⟨j, p1⟩).typeIs, fun a e => by cases e; exact ⟨_, p1, rfl⟩, ?_⟩
    refine Calls.callWith_builtin rfl (Calls.evalArgs_plain (Calls.spliced_cons (h2.ok G hS S1 a e2 fun q s2 μ2 X2 S2 V2 => Calls.spliced_nil ?_)))
    have ec2 := get_prefix X2.pre ec
    cases z with
    | bool tt =>
      cases V2
      have ed : (match H2[r]? with
        | some (.list xs) => (match boolsOf xs with
          | some bs => (match bs.findIdx? (· == tt) with
            | some k => Res.ok (AV.int k) H2
            | none => .bad)
          | none => .bad)
        | _ => .bad) = .ok v' H' := ed
      split at ed
      · rename_i xs ex
        split at ed
        · rename_i bs eb
          split at ed
          · rename_i kk ek
            cases ed
            obtain ⟨hz', a', vs, ea', p2, q2⟩ := S2.hp.list ex
            rw [ec2] at ea'; cases ea'
            have hvs := bools_map eb q2
            subst hvs
            refine index_bools (IsList.of_plain p2) ek (Nat.lt_of_le_of_lt ?_ (show lim < 2 ^ 62 by decide)) ?_
            · have hq := q2.length; rw [List.length_map] at hq; rw [← hq]; exact hz'
            · exact k _ _ μ2 (X1.trans X2) (S2.tok _) (.int _ _)
          · cases ed
        · cases ed
      · cases ed
    | _ => cases ed
  · cases ed

theorem EvOk.count {o y : Expr} {ap pos : Pos} {d d1 d2 : AEnv → AHeap → Res AV} (hb : ∀ env, attributeBase o "count" env (eval o env) = eval o env) (hy : notStar y = true) (hline : (ap.endLine == pos.line) = true)
    (h1 : EvOk C T n b Γ S o d1) (h2 : EvOk C T n b Γ S y d2)
    (hd : ∀ ρ H, d ρ H = (d1 ρ H).get fun v H => if isL v H then (d2 ρ H).get fun w H => countOf v w H else .bad) : EvOk C T n b Γ S (.Call (.Attribute o "count" ap) [y] [] pos) d := by
  refine ⟨?_⟩
  intro base env ρ μ H H' s A E Q v' G hS st a ed k
  rw [hd] at ed
  obtain ⟨x, H1, e1, ed⟩ := Res.get_ok ed
  split at ed
  · rename_i hL
    obtain ⟨z, H2, e2, ed⟩ := Res.get_ok ed
    have htrees : backTo pos (starEach [y] env) = [(false, eval y env)] := by rw [starEach_cons hy]; rfl
    refine wpAny_Call_method1_late (hb env) hline htrees (h1.ok G hS st a e1 fun p s1 μ1 X1 S1 V1 => ?_)
    obtain ⟨r, ys, rfl, ey⟩ := isL_spec hL
    obtain ⟨c, rfl, ec⟩ := V1.isRef
    obtain ⟨_, a', ws, ea', ⟨j, p1⟩, _⟩ := S1.hp.list ey
    rw [ec] at ea'; cases ea'
    refine ⟨"list", "list.count", PySem.F.plainAttrs_list, PySem.F.slot_list_count, PySem.F.type_list_count, (IsList.of_plain ⟨j, p1⟩).typeIs, fun a e => by cases e; exact ⟨_, p1, rfl⟩, ?_⟩
    refine Calls.callWith_builtin rfl (Calls.evalArgs_plain (Calls.spliced_cons (h2.ok G hS S1 a e2 fun q s2 μ2 X2 S2 V2 => Calls.spliced_nil ?_)))
    have ec2 := get_prefix X2.pre ec
    cases z with
    | bool tt =>
      cases V2
      have ed : (match H2[r]? with
        | some (.list xs) => (match boolsOf xs with
          | some bs => Res.ok (AV.int (bs.countP (· == tt) : Nat)) H2
          | none => .bad)
        | _ => .bad) = .ok v' H' := ed
      split at ed
      · rename_i xs ex
        split at ed
        · rename_i bs eb
          cases ed
          obtain ⟨hz', a', vs, ea', p2, q2⟩ := S2.hp.list ex
          rw [ec2] at ea'; cases ea'
          have hvs := bools_map eb q2
          subst hvs
          exact count_bools (IsList.of_plain p2) (k _ _ μ2 (X1.trans X2) (S2.tok _) (.int _ _))
        · cases ed
      · cases ed
    | _ => cases ed
  · cases ed
end
end Mine

namespace Mine
open PySem PySem.Calls PyProof.Rows PySem.SeqAt

/-- a def's call, by what the interpreter says of it -/
structure CallOk (C : Cx) (T : Tab) (n : Nat) (cf : Nat → List AV → AHeap → Res AV) : Prop where
  ok : ∀ {k : Nat} {base : Bs} {b : Nat} {env : Env} {Γ : List Str} {ρ : AEnv} {μ : List Addr} {H H' : AHeap} {s : Shared} {A : Around} {E : Value → Shared → Prop} {Q : Value → Shared → Prop} {vs : List AV} {us : List Value} {v : AV},
    T.okc k = true → Gnd C T base → St C base b env Γ ρ μ H s → AOk base A n → VRs C μ s.heap vs us → cf k vs H = .ok v H' → After C base b env Γ ρ μ s v H' Q → wpAny (model C.prog C.w) A (call (.ref (C.fa k)) us) Q E s
  ex : ∀ {k : Nat} {base : Bs} {b : Nat} {env : Env} {Γ : List Str} {ρ : AEnv} {μ : List Addr} {H H' : AHeap} {s : Shared} {A : Around} {E : Value → Shared → Prop} {Q : Value → Shared → Prop} {vs : List AV} {us : List Value} {c : Nat},
    T.okc k = true → Gnd C T base → St C base b env Γ ρ μ H s → AOk base A n → VRs C μ s.heap vs us → cf k vs H = .exc c H' → AfterX C base b env Γ ρ μ s c H' E → wpAny (model C.prog C.w) A (call (.ref (C.fa k)) us) Q E s

section
variable (C : Cx) (T : Tab) (n b : Nat) (Γ : List Str) (S : Scope)
/-- the tree e raises as d says -/
structure XOk (e : Expr) (d : AEnv → AHeap → Res AV) : Prop where
  ok : ∀ {base : Bs} {env : Env} {ρ : AEnv} {μ : List Addr} {H H' : AHeap} {s : Shared} {A : Around} {E : Value → Shared → Prop} {Q : Value → Shared → Prop} {c : Nat},
    Gnd C T base → env.scope = S → St C base b env Γ ρ μ H s → AOk base A n → d ρ H = .exc c H' → AfterX C base b env Γ ρ μ s c H' E → wpAny (model C.prog C.w) A (eval e env) Q E s
end
theorem Res.get_exc {α β : Type} {r : Res α} {f : α → AHeap → Res β} {c : Nat} {H' : AHeap} (e : r.get f = .exc c H') : ∃ a H1, r = .ok a H1 ∧ f a H1 = .exc c H' := by
  cases r with
  | ok a H1 => exact ⟨a, H1, rfl, e⟩
  | exc c H1 => cases e
  | bad => cases e

section
variable {C : Cx} {T : Tab} {n b : Nat} {Γ : List Str} {S : Scope} {cf : Nat → List AV → AHeap → Res AV} {strF : SrtF}
variable {base : Bs} {env : Env} {ρ : AEnv} {μ : List Addr} {H H' : AHeap} {s : Shared} {A : Around} {E : Value → Shared → Prop} {Q : Value → Shared → Prop}

theorem noStars : ∀ {es : List Expr} {pos : Pos}, es.all notStar = true → (backTo pos (starEach es env)).any (·.1) = false
  | [], _, _ => rfl
  | e :: r, pos, h => by
    simp only [List.all_cons, Bool.and_eq_true] at h
    rw [starEach_cons h.1]
    show (false || (backTo pos (starEach r env)).any (·.1)) = false
    rw [noStars h.2]; rfl

theorem args_ok {e : Expr} {r : List Expr} {f : Value} {pos : Pos} {Q : Args → Shared → Prop} (hn : notStar e = true) (h : wpAny (model C.prog C.w) A (spliced (backTo pos (starEach (e :: r) env))) (fun us s' => Q ⟨us, []⟩ s') E s) :
    wpAny (model C.prog C.w) A (evalArgs f true (backTo pos (starEach (e :: r) env)) []) Q E s := by
  rw [starEach_cons hn] at h ⊢
  exact evalArgs_plain h

theorem EvOk.userCall {x : Str} {e : Expr} {r : List Expr} {k : Nat} {np pos : Pos} {d : AEnv → AHeap → Res AV} {d1 : AEnv → AHeap → Res (List AV)} (hcf : CallOk C T n cf) (ho : T.okc k = true) (hx : T.fns.lookup k = some x) (hg : isGlob S x = true)
    (hn : (e :: r).all notStar = true) (h1 : EsOk C T n b Γ S (e :: r) d1) (hd : ∀ ρ H, d ρ H = (d1 ρ H).get fun vs H => cf k vs H) : EvOk C T n b Γ S (.Call (.Name x np) (e :: r) [] pos) d := by
  refine ⟨?_⟩
  intro base env ρ μ H H' s A E Q v' G hS st a ed q
  rw [hd] at ed
  obtain ⟨vs, H1, e1, ed⟩ := Res.get_ok ed
  obtain ⟨hx1, o, fd, ho', hfd⟩ := G.fn hx
  refine wpAny_Call_ofName (glob_ok G hS st hg hx1 ?_)
  show wpAny _ _ (callWith pos (.ref (C.fa k)) [] (backTo pos (starEach (e :: r) env)) []) _ _ _
  have hne : notStar e = true := by simp only [List.all_cons, Bool.and_eq_true] at hn; exact hn.1
  refine callWith_function (args_ok hne (h1.ok G hS st a e1 fun us s' μ' X S' V => ⟨⟨S'.kg ho', hfd⟩, ?_⟩))
  exact hcf.ok ho G S' a V ed fun u s'' μ'' X' S'' V' => q u s'' μ'' (X.trans X') S'' V'

theorem AfterX.after {c : Nat} {μ1 : List Addr} {s1 : Shared} (X : Ext env μ μ1 s.heap s1.heap) (q : AfterX C base b env Γ ρ μ s c H' E) : AfterX C base b env Γ ρ μ1 s1 c H' E :=
  fun u s' μ' X' S' ek x => q u s' μ' (X.trans X') S' ek (x.back X.live)
theorem XOk.userCall {x : Str} {e : Expr} {r : List Expr} {k : Nat} {np pos : Pos} {d : AEnv → AHeap → Res AV} {d1 : AEnv → AHeap → Res (List AV)} (hcf : CallOk C T n cf) (ho : T.okc k = true) (hx : T.fns.lookup k = some x) (hg : isGlob S x = true)
    (hn : (e :: r).all notStar = true) (h1 : EsOk C T n b Γ S (e :: r) d1) (hd : ∀ ρ H, d ρ H = (d1 ρ H).get fun vs H => cf k vs H) : XOk C T n b Γ S (.Call (.Name x np) (e :: r) [] pos) d := by
  refine ⟨?_⟩
  intro base env ρ μ H H' s A E Q c G hS st a ed q
  rw [hd] at ed
  obtain ⟨vs, H1, e1, ed⟩ := Res.get_exc ed
  obtain ⟨hx1, o, fd, ho', hfd⟩ := G.fn hx
  refine wpAny_Call_ofName (glob_ok G hS st hg hx1 ?_)
  show wpAny _ _ (callWith pos (.ref (C.fa k)) [] (backTo pos (starEach (e :: r) env)) []) _ _ _
  have hne : notStar e = true := by simp only [List.all_cons, Bool.and_eq_true] at hn; exact hn.1
  refine callWith_function (args_ok hne (h1.ok G hS st a e1 fun us s' μ' X S' V => ⟨⟨S'.kg ho', hfd⟩, ?_⟩))
  exact hcf.ex ho G S' a V ed (q.after X)
/-- a built-in's call: the name, the arguments, the call -/
theorem EvOk.callB {x : Str} {id : String} {e : Expr} {r : List Expr} {np pos : Pos} {d : AEnv → AHeap → Res AV} {d1 : AEnv → AHeap → Res (List AV)} {f : List AV → AHeap → Res AV} (hx : biVals.lookup x = some (.builtin id)) (hg : isGlob S x = true)
    (hn : (e :: r).all notStar = true) (h1 : EsOk C T n b Γ S (e :: r) d1) (hd : ∀ ρ H, d ρ H = (d1 ρ H).get f)
    (hc : ∀ {base : Bs} {env : Env} {ρ : AEnv} {μ : List Addr} {H H' : AHeap} {s : Shared} {A : Around} {E : Value → Shared → Prop} {Q : Value → Shared → Prop} {vs : List AV} {us : List Value} {v : AV},
      Gnd C T base → St C base b env Γ ρ μ H s → AOk base A n → VRs C μ s.heap vs us → f vs H = .ok v H' → After C base b env Γ ρ μ s v H' Q → wpAny (model C.prog C.w) A (call (.builtin id) us) Q E s) :
    EvOk C T n b Γ S (.Call (.Name x np) (e :: r) [] pos) d := by
  refine ⟨?_⟩
  intro base env ρ μ H H' s A E Q v' G hS st a ed q
  rw [hd] at ed
  obtain ⟨vs, H1, e1, ed⟩ := Res.get_ok ed
  refine wpAny_Call_ofName (builtin_ok G hS st hg hx ?_)
  have hne : notStar e = true := by simp only [List.all_cons, Bool.and_eq_true] at hn; exact hn.1
  refine callWith_builtin (noStars hn) (args_ok hne (h1.ok G hS st a e1 fun us s' μ' X S' V => ?_))
  exact hc G S' a V ed fun u s'' μ'' X' S'' V' => q u s'' μ'' (X.trans X') S'' V'
theorem EvOk.callT {x : Str} {Ty : String} {e : Expr} {r : List Expr} {np pos : Pos} {d : AEnv → AHeap → Res AV} {d1 : AEnv → AHeap → Res (List AV)} {f : List AV → AHeap → Res AV} (hx : biVals.lookup x = some (.type Ty)) (hg : isGlob S x = true)
    (hn : (e :: r).all notStar = true) (h1 : EsOk C T n b Γ S (e :: r) d1) (hd : ∀ ρ H, d ρ H = (d1 ρ H).get f)
    (hc : ∀ {base : Bs} {env : Env} {ρ : AEnv} {μ : List Addr} {H H' : AHeap} {s : Shared} {A : Around} {E : Value → Shared → Prop} {Q : Value → Shared → Prop} {vs : List AV} {us : List Value} {v : AV},
      Gnd C T base → St C base b env Γ ρ μ H s → AOk base A n → VRs C μ s.heap vs us → f vs H = .ok v H' → After C base b env Γ ρ μ s v H' Q → wpAny (model C.prog C.w) A (call (.type Ty) us) Q E s) :
    EvOk C T n b Γ S (.Call (.Name x np) (e :: r) [] pos) d := by
  refine ⟨?_⟩
  intro base env ρ μ H H' s A E Q v' G hS st a ed q
  rw [hd] at ed
  obtain ⟨vs, H1, e1, ed⟩ := Res.get_ok ed
  refine wpAny_Call_ofName (builtin_ok G hS st hg hx ?_)
  have hne : notStar e = true := by simp only [List.all_cons, Bool.and_eq_true] at hn; exact hn.1
  refine PySem.callWith_type (noStars hn) (args_ok hne (h1.ok G hS st a e1 fun us s' μ' X S' V => ?_))
  exact hc G S' a V ed fun u s'' μ'' X' S'' V' => q u s'' μ'' (X.trans X') S'' V'
/-- isinstance with a built-in class -/
theorem EvOk.callI {f g : Str} {Ty : String} {x : Expr} {np gp pos : Pos} {d d1 : AEnv → AHeap → Res AV} {fv : AV → AHeap → Res AV} (hf : biVals.lookup f = some (.builtin "isinstance")) (hg : isGlob S f = true)
    (hgn : biVals.lookup g = some (.type Ty)) (hgg : isGlob S g = true) (hn : notStar x = true) (h1 : EvOk C T n b Γ S x d1) (hd : ∀ ρ H, d ρ H = (d1 ρ H).get fv)
    (hc : ∀ {base : Bs} {env : Env} {ρ : AEnv} {μ : List Addr} {H H' : AHeap} {s : Shared} {A : Around} {E : Value → Shared → Prop} {Q : Value → Shared → Prop} {w : AV} {u : Value} {v : AV},
      Gnd C T base → St C base b env Γ ρ μ H s → VR C μ s.heap w u → fv w H = .ok v H' → After C base b env Γ ρ μ s v H' Q → wpAny (model C.prog C.w) A (call (.builtin "isinstance") [u, .type Ty]) Q E s) :
    EvOk C T n b Γ S (.Call (.Name f np) [x, .Name g gp] [] pos) d := by
  refine ⟨?_⟩
  intro base env ρ μ H H' s A E Q v' G hS st a ed q
  rw [hd] at ed
  obtain ⟨w, H1, e1, ed⟩ := Res.get_ok ed
  refine wpAny_Call_ofName (builtin_ok G hS st hg hf ?_)
  have hall : ([x, .Name g gp] : List Expr).all notStar = true := by simp only [List.all_cons, hn]; rfl
  refine callWith_builtin (noStars hall) (args_ok hn (wpAny_items_cons (h1.ok G hS st a e1 fun u s' μ' X S' V => ?_) (starEach_cons hn)))
  refine wpAny_items_cons (builtin_ok G hS S' hgg hgn (wpAny_items_nil ?_)) (starEach_cons rfl)
  exact hc G S' V ed fun u s'' μ'' X' S'' V' => q u s'' μ'' (X.trans X') S'' V'
/-- isinstance with a class of the row's own -/
theorem EvOk.callX {f g : Str} {x : Expr} {np gp pos : Pos} {d d1 : AEnv → AHeap → Res AV} {fv : AV → AHeap → Res AV} (hf : biVals.lookup f = some (.builtin "isinstance")) (hg : isGlob S f = true)
    (hgg : isGlob S g = true) (hn : notStar x = true) (h1 : EvOk C T n b Γ S x d1) (hd : ∀ ρ H, d ρ H = (d1 ρ H).get fv)
    (hc : ∀ {base : Bs} {env : Env} {ρ : AEnv} {μ : List Addr} {H H' : AHeap} {s : Shared} {A : Around} {E : Value → Shared → Prop} {Q : Value → Shared → Prop} {w : AV} {u : Value} {v : AV},
      Gnd C T base → St C base b env Γ ρ μ H s → VR C μ s.heap w u → fv w H = .ok v H' → After C base b env Γ ρ μ s v H' Q → ∃ cl, C.mg g = some cl ∧ wpAny (model C.prog C.w) A (call (.builtin "isinstance") [u, cl]) Q E s) :
    EvOk C T n b Γ S (.Call (.Name f np) [x, .Name g gp] [] pos) d := by
  refine ⟨?_⟩
  intro base env ρ μ H H' s A E Q v' G hS st a ed q
  rw [hd] at ed
  obtain ⟨w, H1, e1, ed⟩ := Res.get_ok ed
  refine wpAny_Call_ofName (builtin_ok G hS st hg hf ?_)
  have hall : ([x, .Name g gp] : List Expr).all notStar = true := by simp only [List.all_cons, hn]; rfl
  refine callWith_builtin (noStars hall) (args_ok hn (wpAny_items_cons (h1.ok G hS st a e1 fun u s' μ' X S' V => ?_) (starEach_cons hn)))
  obtain ⟨cl, ecl, hw⟩ := hc (A := A) (E := E) (Q := Q) G S' V ed fun u s'' μ'' X' S'' V' => q u s'' μ'' (X.trans X') S'' V'
  exact wpAny_items_cons (glob_ok G hS S' hgg ecl (wpAny_items_nil hw)) (starEach_cons rfl)
end
end Mine

namespace Mine
open PySem PySem.Calls PyProof.Rows PySem.SeqAt

/-! the places that a loop's own iterator holds -/
abbrev Cx.withZ (C : Cx) (z : Addr → Prop) : Cx := { C with z := z }

section
variable {C : Cx} {μ μ' : List Addr} {h h' : Heap} {base : Bs} {env : Env} {Γ : List Str} {ρ : AEnv} {H H' : AHeap} {b : Nat} {s s' : Shared} {z : Addr → Prop} {P : Addr → Prop}

theorem VR.mapZ (p : μ <+: μ') (st : ∀ {a : Addr} {o : Obj}, h.get? a = some o → ¬ C.z a → (∃ its, h.IsTuple a its) ∨ (∃ vs, o.data = .fields vs) → h'.get? a = some o) (hz : ∀ {a : Addr} {o : Obj}, h.get? a = some o → ¬ C.z a → ¬ z a)
    {x : AV} {v : Value} (q : VR C μ h x v) : VR (C.withZ z) μ' h' x v :=
  @VR.rec C μ h (fun x v _ => VR (C.withZ z) μ' h' x v) (fun xs vs _ => VRs (C.withZ z) μ' h' xs vs) .none .bool .int .str (fun t nz l _ ih => .tup (IsTuple.stays t fun _ e => st e nz (.inl ⟨_, t⟩)) (let ⟨_, e, _⟩ := t; hz e nz) l ih) (fun e => .ref (get_prefix p e)) .scr .fn
    (fun hk e nz hc hd => .exc hk (st e nz (.inr hd)) (hz e nz) hc hd) .nil (fun _ _ a r => .cons a r) x v q
theorem VRs.mapZ (p : μ <+: μ') (st : ∀ {a : Addr} {o : Obj}, h.get? a = some o → ¬ C.z a → (∃ its, h.IsTuple a its) ∨ (∃ vs, o.data = .fields vs) → h'.get? a = some o) (hz : ∀ {a : Addr} {o : Obj}, h.get? a = some o → ¬ C.z a → ¬ z a)
    {xs : List AV} {vs : List Value} (q : VRs C μ h xs vs) : VRs (C.withZ z) μ' h' xs vs := by
  induction xs generalizing vs with
  | nil => cases q; exact .nil
  | cons x xs ih => cases q with
    | cons a r => exact .cons (VR.mapZ p st hz a) (ih r)

theorem EnvR.mapZ (N : EnvR C μ h env Γ ρ) (hL : ∀ m, h.Ns env.locals m → h'.Ns env.locals m)
    (hc : ∀ (x : Str) (c : Addr) (o : Obj), env.cells.lookup x = some c → h.get? c = some o → h'.get? c = some o) (hv : ∀ {x : AV} {v : Value}, VR C μ h x v → VR (C.withZ z) μ' h' x v) : EnvR (C.withZ z) μ' h' env Γ ρ where
  kind := N.kind
  ns := by
    obtain ⟨m, n, q⟩ := N.ns
    exact ⟨m, hL m n, fun e k r => let ⟨u, e', v⟩ := q e k r; ⟨u, e', hv v⟩⟩
  cells := fun k => by
    obtain ⟨c, o, e, ⟨ob, eb, db⟩, q⟩ := N.cells k
    exact ⟨c, o, e, ⟨ob, hc _ c ob e eb, db⟩, fun e r => let ⟨u, e', v⟩ := q e r; ⟨u, e', hv v⟩⟩
  cell := fun e => let ⟨o, ob, eb, db⟩ := N.cell e; ⟨o, ob, hc _ _ ob e eb, db⟩
  inj := N.inj
  globals := N.globals
  builtins := N.builtins

/-- all stays but what lies at J; the places z are shut out from here on -/
theorem St.mapZ (S : St C base b env Γ ρ μ H s) (J : Addr → Prop) (k : ∀ {a : Addr} {o : Obj}, ¬ J a → s.heap.get? a = some o → s'.heap.get? a = some o) (hJo : ∀ {a : Addr}, J a → ¬ Own μ env a) (hJb : ∀ {a : Addr}, J a → base.get? a = none)
    (hJz : ∀ {a : Addr}, J a → C.z a ∨ s.heap.get? a = none) (hz : ∀ {a : Addr} {o : Obj}, s.heap.get? a = some o → ¬ C.z a → ¬ z a) (hl : ∀ {a : Addr}, z a → ∃ o, s'.heap.get? a = some o) (hg : s'.gens = s.gens) (ho : s'.os = s.os) :
    St (C.withZ z) base b env Γ ρ μ H s' := by
  have st : ∀ {a : Addr} {o : Obj}, s.heap.get? a = some o → ¬ C.z a → (∃ its, s.heap.IsTuple a its) ∨ (∃ vs, o.data = .fields vs) → s'.heap.get? a = some o := fun {a o} e nz _ =>
    k (fun j => by rcases hJz j with q | q; exact nz q; rw [q] at e; cases e) e
  have mono : ∀ {x : AV} {v : Value}, VR C μ s.heap x v → VR (C.withZ z) μ s'.heap x v := fun q => VR.mapZ List.prefix_rfl st hz q
  have monos : ∀ {x : List AV} {v : List Value}, VRs C μ s.heap x v → VRs (C.withZ z) μ s'.heap x v := fun q => VRs.mapZ List.prefix_rfl st hz q
  refine ⟨?_, ⟨S.hp.len, S.hp.nd, ?_, ?_⟩, S.er.mapZ ?_ ?_ mono, S.fresh, S.noloc, S.lm, S.nocell, hg.trans S.gens, ho.trans S.os, hl, FF.map (fun {L o} e n nz => ⟨o, k (fun j => by rcases hJz j with q | q; exact nz q; rw [q] at e; cases e) e, n, hz e nz⟩) S.ff⟩
  · intro c o e
    exact (S.keep c o e).map id (k (fun j => by rw [hJb j] at e; cases e))
  · intro i xs e
    obtain ⟨l, c, ws, e', ⟨n, p⟩, q⟩ := S.hp.list e
    exact ⟨l, c, ws, e', ⟨n, k (fun j => hJo j (.inl (get_mem e'))) p⟩, monos q⟩
  · intro i e
    obtain ⟨c, n, e', p⟩ := S.hp.dict e
    exact ⟨c, n, e', k (fun j => hJo j (.inl (get_mem e'))) p⟩
  · intro m n
    exact n.at fun o e => k (fun j => hJo j (.inr (.inl rfl))) e
  · intro x c o e1 e2
    exact k (fun j => hJo j (.inr (.inr ⟨x, e1⟩))) e2

theorem Ext.but {J : Addr → Prop} (X : Ext env μ μ' h h') {h'' : Heap} (hJ : ∀ {a : Addr}, J a → h.get? a = none) (k : ∀ {a : Addr} {o : Obj}, ¬ J a → h'.get? a = some o → h''.get? a = some o) : Ext env μ μ' h h'' where
  pre := X.pre
  stay := fun {a o} e n => (X.stay e n).map id (k (fun j => by rw [hJ j] at e; cases e))
  new := X.new
  live := ⟨fun {a o} e => by
    obtain ⟨o', e', n⟩ := X.live.go e
    exact ⟨o', k (fun j => by rw [hJ j] at e; cases e) e', n⟩⟩

theorem ExcG.toZ {T : Tab} {g : Heap} (G : ExcG C T g) : ExcG (C.withZ z) T g := ⟨G.cls, G.inj, G.has0, G.eo, G.sm⟩
theorem Gnd.toZ {T : Tab} (G : Gnd C T base) : Gnd (C.withZ z) T base := ⟨G.q, G.okc, ⟨G.scr.scr⟩, G.g, G.b, G.bi, G.fn, G.gint, G.exg.toZ, G.nolimit, G.defs, G.qdefs⟩
abbrev Cx.plus (C : Cx) (J : Addr → Prop) : Cx := C.withZ fun a => C.z a ∨ J a

/-- a walk over items: what it holds (J), what it watches (ws); nm: a plain name may be its target -/
structure Walk (C : Cx) (base : Bs) (it : Value) (J : Addr → Prop) (ws : List (Nat × List AV)) (nm : Bool) (R : List AV → List Addr → Heap → Prop) (M : List AV → Value → List Addr → Heap → Prop) : Prop where
  frame : ∀ {μ μ' : List Addr} {h h' : Heap} {l : List AV}, R l μ h → μ <+: μ' → (∀ {a : Addr} {o : Obj}, h.get? a = some o → (∃ its, h.IsTuple a its) ∨ (∃ vs, o.data = .fields vs) → h'.get? a = some o) → R l μ' h'
  off : ∀ {env : Env} {b : Nat} {Γ : List Str} {ρ : AEnv} {μ : List Addr} {H : AHeap} {s : Shared} {l : List AV}, St C base b env Γ ρ μ H s → R l μ s.heap → ∀ {a : Addr}, J a → ¬ Own μ env a
  live : ∀ {μ : List Addr} {h : Heap} {l : List AV}, R l μ h → ∀ {a : Addr}, J a → ∃ o, h.get? a = some o
  self : ∀ {μ : List Addr} {s : Shared} {l : List AV} {A : Around} {E : Value → Shared → Prop} {Q : Value → Shared → Prop}, R l μ s.heap → Q it s → wpAny (model C.prog C.w) A (pyIter it) Q E s
  liveM : ∀ {μ : List Addr} {h : Heap} {l : List AV} {u : Value}, M l u μ h → ∀ {a : Addr}, J a → ∃ o, h.get? a = some o
  item : ∀ {env : Env} {b : Nat} {Γ : List Str} {ρ : AEnv} {μ : List Addr} {H : AHeap} {s : Shared} {A : Around} {E : Value → Shared → Prop} {Q : Option Value → Shared → Prop} {v : AV} {l : List AV} {n : Nat},
    St C base b env Γ ρ μ H s → AOk base A n → (∀ {a : Addr}, J a → C.z a) → (∀ w ∈ ws, H[w.1]? = some (.list w.2)) → R (v :: l) μ s.heap →
    (∀ u h' tk, (∀ {a : Addr} {o : Obj}, ¬ J a → s.heap.get? a = some o → h'.get? a = some o) → VR C μ h' v u → M l u μ h' → Q (some u) { s with heap := h', toks := tk }) →
    wpAny (model C.prog C.w) A (pyNext it) Q E s
  plain : nm = true → ∀ {μ : List Addr} {h : Heap} {l : List AV} {u : Value}, M l u μ h → R l μ h
  own : ∀ {μ : List Addr} {s : Shared} {l : List AV} {a : Addr} {A : Around} {E : Value → Shared → Prop} {Q : Unit → Shared → Prop} {elts : List Expr} {x1 : Nat} {pos : Pos}, M l (.ref a) μ s.heap →
    (∀ h', (∀ {a : Addr} {o : Obj}, ¬ J a → s.heap.get? a = some o → h'.get? a = some o) → R l μ h' → Q () { s with heap := h' }) → wpAny (model C.prog C.w) A (letOwnedTupleGo (.Tuple elts x1 pos) it (.ref a)) Q E s
  done : ∀ {env : Env} {b : Nat} {Γ : List Str} {ρ : AEnv} {μ : List Addr} {H : AHeap} {s : Shared} {A : Around} {E : Value → Shared → Prop} {Q : Option Value → Shared → Prop} {n : Nat},
    St C base b env Γ ρ μ H s → AOk base A n → (∀ {a : Addr}, J a → C.z a) → (∀ w ∈ ws, H[w.1]? = some (.list w.2)) → R [] μ s.heap →
    (∀ h' tk, (∀ {a : Addr} {o : Obj}, ¬ J a → s.heap.get? a = some o → h'.get? a = some o) → Q none { s with heap := h', toks := tk }) → wpAny (model C.prog C.w) A (pyNext it) Q E s

theorem tuple_nd {a : Addr} {its : Array Value} {o : Obj} (t : h.IsTuple a its) (e : h.get? a = some o) : ND o := by
  obtain ⟨o', e', _, n, d⟩ := t
  rw [e] at e'; cases e'
  intro _ _ q; rw [d] at q; cases q
theorem Walk.frameX {it : Value} {J : Addr → Prop} {ws : List (Nat × List AV)} {nm : Bool} {R : List AV → List Addr → Heap → Prop} {M : List AV → Value → List Addr → Heap → Prop} {l : List AV} (W : Walk C base it J ws nm R M)
    {env' : Env} {Γ : List Str} (S : St C base b env' Γ ρ μ H s) (r : R l μ s.heap) (X : Ext env' μ μ' s.heap s'.heap) : R l μ' s'.heap :=
  W.frame r X.pre fun {a o} e k => by
    rcases k with ⟨its, t⟩ | ⟨vs, d⟩
    · exact (X.stay e (notOwn_tuple S.hp S.er t)).ex (tuple_nd t e)
    · exact (X.stay e (notOwn_fields S.hp S.er e d)).ex fun _ _ q => by rw [d] at q; cases q

/-- a walker that owns no tuple -/
theorem own_fields {elts : List Expr} {x1 : Nat} {pos : Pos} {I a : Addr} {Ty : String} {o : Obj} {vs : Array Value} {A : Around} {E : Value → Shared → Prop} {Q : Unit → Shared → Prop} (ho : s.heap.get? I = some o) (hc : o.cls = .type Ty) (hd : o.data = .fields vs)
    (hn : (["enumerate", "zip", "dict_itemiterator", "dict_reverseitemiterator", "odict_iterator", "itertools.zip_longest", "itertools.pairwise"].contains Ty) = false) (hQ : Q () s) :
    wpAny (model C.prog C.w) A (letOwnedTupleGo (.Tuple elts x1 pos) (.ref I) (.ref a)) Q E s := by
  unfold letOwnedTupleGo
  refine wpAny_bind (wpAny_load ho ?_)
  rw [hc, hd]
  simp only [hn, Bool.false_and]
  exact wpAny_pure hQ

theorem VR.butJ {J : Addr → Prop} (hJ : ∀ {a : Addr}, J a → C.z a) (k : ∀ {a : Addr} {o : Obj}, ¬ J a → h.get? a = some o → h'.get? a = some o) {x : AV} {v : Value} (q : VR C μ h x v) : VR C μ h' x v :=
  VR.mapZ (z := C.z) List.prefix_rfl (fun e nz _ => k (fun j => nz (hJ j)) e) (fun _ nz => nz) q
theorem VRs.butJ {J : Addr → Prop} (hJ : ∀ {a : Addr}, J a → C.z a) (k : ∀ {a : Addr} {o : Obj}, ¬ J a → h.get? a = some o → h'.get? a = some o) {x : List AV} {v : List Value} (q : VRs C μ h x v) : VRs C μ h' x v :=
  VRs.mapZ (z := C.z) List.prefix_rfl (fun e nz _ => k (fun j => nz (hJ j)) e) (fun _ nz => nz) q

theorem VRs.dropCons {xs l : List AV} {v : AV} {i : Nat} (e : xs.drop i = v :: l) : xs[i]? = some v ∧ xs.drop (i + 1) = l := by
  have h1 : xs[i]? = some v := by
    have : (xs.drop i)[0]? = some v := by rw [e]; rfl
    simpa using this
  refine ⟨h1, ?_⟩
  have : (xs.drop i).drop 1 = l := by rw [e]; rfl
  simpa [List.drop_drop, Nat.add_comm] using this

/-- over a tracked list -/
theorem Walk.list (hq : base.q = false) {I a : Addr} {r : Nat} {xs : List AV} (hne : a ≠ I) : Walk C base (.ref I) (· = I) [(r, xs)] true
    (fun l μ h => ∃ i, h.IsListIter I a i ∧ μ[r]? = some a ∧ xs.drop i = l ∧ i ≤ xs.length) (fun l _ μ h => ∃ i, h.IsListIter I a i ∧ μ[r]? = some a ∧ xs.drop i = l ∧ i ≤ xs.length) where
  frame := fun {μ μ' h h' l} R p st => by
    obtain ⟨i, ⟨o, ho, hc, hd⟩, ea, e, hi⟩ := R
    exact ⟨i, ⟨o, st ho (.inr ⟨_, hd⟩), hc, hd⟩, get_prefix p ea, e, hi⟩
  off := fun {env b Γ ρ μ H s l} S R {a'} j => by
    subst j
    obtain ⟨i, ⟨o, ho, hc, hd⟩, _⟩ := R
    exact notOwn_fields S.hp S.er ho hd
  live := fun {μ h l} R {a'} j => by subst j; obtain ⟨i, ⟨o, ho, _⟩, _⟩ := R; exact ⟨o, ho⟩
  self := fun {μ s l A E Q} R k => by obtain ⟨i, hit, _⟩ := R; exact wpAny_pyIter_listiter hit k
  liveM := fun {μ h l u} R {a'} j => by subst j; obtain ⟨i, ⟨o, ho, _⟩, _⟩ := R; exact ⟨o, ho⟩
  item := fun {env b Γ ρ μ H s A E Q v l n} S a' hJ hw R k => by
    obtain ⟨i, hit, ea, e, hi⟩ := R
    have eH := hw _ (List.mem_singleton.mpr rfl)
    obtain ⟨_, a2, vs, ea2, p, q⟩ := S.hp.list eH
    rw [ea] at ea2; cases ea2
    obtain ⟨ex, el⟩ := VRs.dropCons e
    obtain ⟨u, eu, vu⟩ := q.get ex
    refine wpAny_pyNext_list_item hit (IsList.of_plain p) (by simpa using eu) fun h' hit' hs => ?_
    have kk : ∀ {a : Addr} {o : Obj}, ¬ (a = I) → s.heap.get? a = some o → h'.get? a = some o := fun n e => (hs.2 _ n).trans e
    exact k u h' s.toks kk (vu.butJ hJ kk) ⟨i + 1, hit', ea, el, (List.getElem?_eq_some_iff.mp ex).1⟩
  plain := fun _ {μ h l u} R => R
  own := fun {μ s l a' A E Q elts x1 pos} R k => by
    obtain ⟨i, ⟨o, ho, hc, hd⟩, r⟩ := R
    exact own_fields ho hc hd (by decide) (k s.heap (fun _ e => e) ⟨i, ⟨o, ho, hc, hd⟩, r⟩)
  done := fun {env b Γ ρ μ H s A E Q n} S a' hJ hw R k => by
    obtain ⟨i, hit, ea, e, hi⟩ := R
    have eH := hw _ (List.mem_singleton.mpr rfl)
    obtain ⟨_, a2, vs, ea2, p, q⟩ := S.hp.list eH
    rw [ea] at ea2; cases ea2
    have hlen : i = xs.length := by
      have := congrArg List.length e
      simp at this; (first | lia | omega)
    refine wpAny_pyNext_list_end (a'.handled hq) hit (IsList.of_plain p) (by simp [← q.length, hlen]) fun h' he => ?_
    exact k h' s.toks fun n e => he _ _ n e

/-- over a tuple -/
theorem rangeL_nil {a c : Int} (h : c ≤ a) : rangeL a c = [] := by unfold rangeL; rw [show (c - a).toNat = 0 by (first | lia | omega)]; rfl
/-- over a range -/
theorem Walk.range (hq : base.q = false) {I : Addr} : Walk C base (.ref I) (· = I) [] true
    (fun l μ h => ∃ x left, IsRangeIter h I x left 1 ∧ rangeL x (x + left) = l) (fun l _ μ h => ∃ x left, IsRangeIter h I x left 1 ∧ rangeL x (x + left) = l) where
  frame := fun {μ μ' h h' l} R p st => by
    obtain ⟨x, left, ho, e⟩ := R
    exact ⟨x, left, st ho (.inr ⟨_, rfl⟩), e⟩
  off := fun {env b Γ ρ μ H s l} S R {a'} j => by
    subst j
    obtain ⟨x, left, ho, e⟩ := R
    exact notOwn_fields S.hp S.er ho rfl
  live := fun {μ h l} R {a'} j => by subst j; obtain ⟨x, left, ho, _⟩ := R; exact ⟨_, ho⟩
  self := fun {μ s l A E Q} R k => by obtain ⟨x, left, hit, _⟩ := R; exact wpAny_pyIter_rangeiter hit k
  liveM := fun {μ h l u} R {a'} j => by subst j; obtain ⟨x, left, ho, _⟩ := R; exact ⟨_, ho⟩
  item := fun {env b Γ ρ μ H s A E Q v l n} S a' hJ hw R k => by
    obtain ⟨x, left, ho, e⟩ := R
    have hlt : 0 < left := by
      rcases Int.lt_or_le 0 left with h | h
      · exact h
      · rw [rangeL_nil (by (first | lia | omega))] at e; cases e
    rw [rangeL_cons (by (first | lia | omega))] at e
    cases e
    refine wpAny_pyNext_range_item ho hlt fun h' hit' hs => ?_
    have kk : ∀ {a : Addr} {o : Obj}, ¬ (a = I) → s.heap.get? a = some o → h'.get? a = some o := fun n e => (hs.2 _ n).trans e
    refine k _ h' _ kk (.int _ _) ⟨x + 1, left - 1, hit', ?_⟩
    rw [show x + 1 + (left - 1) = x + left by (first | lia | omega)]
  plain := fun _ {μ h l u} R => R
  own := fun {μ s l a' A E Q elts x1 pos} R k => by
    obtain ⟨x, left, ho, e⟩ := R
    exact own_fields ho rfl rfl (by decide) (k s.heap (fun _ e => e) ⟨x, left, ho, e⟩)
  done := fun {env b Γ ρ μ H s A E Q n} S a' hJ hw R k => by
    obtain ⟨x, left, ho, e⟩ := R
    have hge : left ≤ 0 := by
      rcases Int.lt_or_le 0 left with h | h
      · rw [rangeL_cons (by (first | lia | omega))] at e; cases e
      · exact h
    refine wpAny_pyNext_range_end (a'.handled hq) ho hge fun h' he => ?_
    exact k h' s.toks fun n e => he _ _ n e
end
end Mine

namespace Mine
open PySem PySem.Calls PyProof.Rows PySem.SeqAt

section
variable (C : Cx) (T : Tab) (n b : Nat) (Γ : List Str) (S : Scope)
/-- what is walked over -/
structure ItOk (nm : Bool) (e : Expr) (d : AEnv → AHeap → Res (List AV × List (Nat × List AV))) : Prop where
  ok : ∀ {base : Bs} {env : Env} {ρ : AEnv} {μ : List Addr} {H H' : AHeap} {s : Shared} {A : Around} {E : Value → Shared → Prop} {Q : Value → Shared → Prop} {p : List AV × List (Nat × List AV)},
    Gnd C T base → env.scope = S → St C base b env Γ ρ μ H s → AOk base A n → d ρ H = .ok p H' →
    (∀ (it : Value) (s' : Shared) (μ' : List Addr) (J : Addr → Prop) (R : List AV → List Addr → Heap → Prop) (M : List AV → Value → List Addr → Heap → Prop), Ext env μ μ' s.heap s'.heap → (∀ {a : Addr}, J a → s.heap.get? a = none) →
      (∀ {a : Addr}, J a → base.get? a = none) → St (C.plus J) base b env Γ ρ μ' H' s' → Walk (C.plus J) base it J p.2 nm R M → R p.1 μ' s'.heap → (∀ w ∈ p.2, H'[w.1]? = some (.list w.2)) → Q it s') →
    wpAny (model C.prog C.w) A (eval e env) (fun x s₁ => wpAny (model C.prog C.w) A (pyIter x) Q E s₁) E s
end

section
variable {C : Cx} {T : Tab} {n b : Nat} {Γ : List Str} {S : Scope} {nm : Bool}
variable {base : Bs} {env : Env} {ρ : AEnv} {μ : List Addr} {H H' : AHeap} {s : Shared} {A : Around} {E : Value → Shared → Prop} {Q : Value → Shared → Prop}

theorem notOwn_none (S : St C base b env Γ ρ μ H s) {a : Addr} (h : s.heap.get? a = none) : ¬ Own μ env a := by
  rintro (q | q | ⟨x, q⟩)
  · obtain ⟨o, e⟩ := S.hp.live q; rw [h] at e; cases e
  · subst q; obtain ⟨m, ⟨o, _, _, ho, _⟩, _⟩ := S.er.ns; rw [h] at ho; cases ho
  · obtain ⟨_, o, ho, _⟩ := S.er.cell q; rw [h] at ho; cases ho

/-- a new object is shut out -/
theorem St.shut (S : St C base b env Γ ρ μ H s) (o : Obj) (hf : o.isFreed = false) : St (C.plus (· = s.heap.objs.size)) base b env Γ ρ μ H { s with heap := s.heap.push o } := by
  refine S.mapZ (· = s.heap.objs.size) (s' := { s with heap := s.heap.push o }) (fun _ e => Heap.get?_push_of_some _ e) (fun j => ?_) (fun j => ?_) (fun j => .inr ?_) (fun {a o'} e nz => ?_) (fun {a} z => ?_) rfl rfl
  · subst j; exact notOwn_none S (none_size _)
  · subst j; exact base_none S (none_size _)
  · subst j; exact none_size _
  · rintro (q | q)
    · exact nz q
    · subst q; rw [none_size] at e; cases e
  · rcases z with q | q
    · obtain ⟨o', e⟩ := S.zl q; exact ⟨o', Heap.get?_push_of_some _ e⟩
    · subst q; exact ⟨o, Heap.get?_push_size _ hf⟩

theorem ItOk.of (hq : T.q = false) {e : Expr} {d : AEnv → AHeap → Res (List AV × List (Nat × List AV))} {d1 : AEnv → AHeap → Res AV} (h : EvOk C T n b Γ S e d1)
    (hd : ∀ ρ H, d ρ H = (d1 ρ H).get fun v H => (match v with
      | .ref r => (match H[r]? with | some (.list xs) => .ok (xs, [(r, xs)]) H | _ => .bad)
      | _ => .bad)) : ItOk C T n b Γ S true e d := by
  refine ⟨?_⟩
  intro base env ρ μ H H' s A E Q p G hS st a ed k
  rw [hd] at ed
  obtain ⟨x, H1, e1, ed⟩ := Res.get_ok ed
  refine h.ok G hS st a e1 fun u s' μ' X S' V => ?_
  split at ed
  · split at ed
    · rename_i r _ xs ex; cases ed
      obtain ⟨c, rfl, ec⟩ := V.isRef
      obtain ⟨_, a', vs, ea', p1, q1⟩ := S'.hp.list ex
      rw [ec] at ea'; cases ea'
      have hlt : c ≠ s'.heap.objs.size := fun e => by obtain ⟨_, ho⟩ := p1; rw [e, none_size] at ho; cases ho
      refine wpAny_pyIter_list (IsList.of_plain p1) ?_
      refine k _ _ μ' (· = s'.heap.objs.size) _ _ (X.trans (Ext.push _)) (fun j => ?_) (fun j => ?_) (S'.shut _ rfl) (Walk.list (G.q.trans hq) (r := r) (xs := xs) hlt) ⟨0, ⟨_, Heap.get?_push_size _ rfl, rfl, rfl⟩, ec, rfl, Nat.zero_le _⟩ ?_
      · subst j
        cases e : s.heap.get? s'.heap.objs.size with
        | none => rfl
        | some o => obtain ⟨o', e', _⟩ := X.live.go e; rw [none_size] at e'; cases e'
      · subst j; exact base_none S' (none_size _)
      · intro w hw; simp at hw; subst hw; exact ex
    · cases ed
  · cases ed

theorem inR_spec {i : Int} (h : inR i = true) : -1000 ≤ i ∧ i ≤ 1000 := of_decide_eq_true h
/-- the walk over a range that was made -/
theorem range_ok (hq : base.q = false) {r : Addr} {x y : Int} {t u v : Tok} {ws : List (Nat × List AV)} {s0 : Shared} {μ0 : List Addr} (st : St C base b env Γ ρ μ H s) (hr : IsRange s.heap r x y 1 t u v) (hx : inR x = true) (hy : inR y = true) (X : Ext env μ0 μ s0.heap s.heap)
    (k : ∀ (it : Value) (s' : Shared) (μ' : List Addr) (J : Addr → Prop) (R : List AV → List Addr → Heap → Prop) (M : List AV → Value → List Addr → Heap → Prop), Ext env μ0 μ' s0.heap s'.heap → (∀ {a : Addr}, J a → s0.heap.get? a = none) →
      (∀ {a : Addr}, J a → base.get? a = none) → St (C.plus J) base b env Γ ρ μ' H s' → Walk (C.plus J) base it J [] true R M → R (rangeL x y) μ' s'.heap → (∀ w ∈ ([] : List (Nat × List AV)), H[w.1]? = some (.list w.2)) → Q it s') :
    wpAny (model C.prog C.w) A (pyIter (.ref r)) Q E s := by
  have hx' := inR_spec hx
  have hy' := inR_spec hy
  refine wpAny_pyIter_range hr (small_one (by (first | lia | omega)) (by (first | lia | omega)) (by (first | lia | omega)) (by (first | lia | omega))) ?_
  refine k _ _ μ (· = s.heap.objs.size) _ _ (X.trans (Ext.push _)) (fun j => ?_) (fun j => ?_) (st.shut _ rfl) (Walk.range hq) ⟨x, Builtin.Range.rangeSize x y 1, Heap.get?_push_size _ rfl, ?_⟩ (by simp)
  · subst j
    cases e : s0.heap.get? s.heap.objs.size with
    | none => rfl
    | some o => obtain ⟨o', e', _⟩ := X.live.go e; rw [none_size] at e'; cases e'
  · subst j; exact base_none st (none_size _)
  · rw [rangeSize_one]
    split
    · rw [show x + (y - x) = y by (first | lia | omega)]
    · rw [rangeL_nil (by (first | lia | omega)), rangeL_nil (by (first | lia | omega))]

theorem ItOk.range1 (hq : T.q = false) {f : Str} {e : Expr} {np pos : Pos} {d : AEnv → AHeap → Res (List AV × List (Nat × List AV))} {d1 : AEnv → AHeap → Res AV} (hf : biVals.lookup f = some (.type "range")) (hg : isGlob S f = true) (hn : notStar e = true) (h : EvOk C T n b Γ S e d1)
    (hd : ∀ ρ H, d ρ H = (d1 ρ H).get fun v H => (match v with | .int k => if inR k then .ok (rangeL 0 k, []) H else .bad | _ => .bad)) : ItOk C T n b Γ S true (.Call (.Name f np) [e] [] pos) d := by
  refine ⟨?_⟩
  intro base env ρ μ H H' s A E Q p G hS st a ed k
  rw [hd] at ed
  obtain ⟨x, H1, e1, ed⟩ := Res.get_ok ed
  split at ed
  · rename_i j _
    split at ed
    · rename_i hr; cases ed
      refine wpAny_Call_ofName (builtin_ok G hS st hg hf ?_)
      refine PySem.callWith_type (noStars (by simp only [List.all_cons, hn]; rfl)) (args_ok hn (wpAny_items_cons (h.ok G hS st a e1 fun u s' μ' X S' V => wpAny_items_nil ?_) (starEach_cons hn)))
      obtain ⟨t, rfl⟩ := V.isInt
      refine call_range_1 ?_
      exact range_ok (G.q.trans hq) (ws := []) ((S'.tok (s'.toks + 1 + 1)).push _) (IsRange.new _ _ _ _ _ _ _) (by decide) hr (X.trans (Ext.push _)) fun it s'' μ'' J R M X2 h1 h2 h3 h4 h5 h6 => k it s'' μ'' J R M X2 h1 h2 h3 h4 h5 h6
    · cases ed
  · cases ed
end
end Mine

namespace Mine
open PySem PySem.Calls PyProof.Rows PySem.SeqAt

theorem zipL_get : ∀ {xs ys : List AV} {k : Nat} {v : AV}, (zipL xs ys)[k]? = some v → ∃ x y, v = .tup [x, y] ∧ xs[k]? = some x ∧ ys[k]? = some y
  | [], _, k, v, e => by simp [zipL] at e
  | _ :: _, [], k, v, e => by simp [zipL] at e
  | x :: xs, y :: ys, 0, v, e => by simp [zipL] at e; exact ⟨x, y, e.symm, rfl, rfl⟩
  | x :: xs, y :: ys, k + 1, v, e => by simp [zipL] at e; obtain ⟨a, b, h1, h2, h3⟩ := zipL_get e; exact ⟨a, b, h1, by simpa using h2, by simpa using h3⟩
theorem zipL_len : ∀ {xs ys : List AV}, (zipL xs ys).length = min xs.length ys.length
  | [], ys => by simp [zipL]
  | _ :: _, [] => by simp [zipL]
  | x :: xs, y :: ys => by simp only [zipL, List.length_cons, zipL_len]; (first | lia | omega)

section
variable {C : Cx} {μ μ' : List Addr} {h h' : Heap} {base : Bs} {env : Env} {Γ : List Str} {ρ : AEnv} {H H' : AHeap} {b : Nat} {s s' : Shared}

theorem pair_tuple {T : Addr} {a b : Value} (p : IsPair h T a b) : h.IsTuple T #[a, b] := ⟨_, p, rfl, 0, rfl⟩

/-- where a zip stands -/
inductive ZR (z TI TO i1 i2 l1 l2 : Addr) (r q : Nat) (xs ys : List AV) (f : Value) (l : List AV) (μ : List Addr) (h : Heap) : Prop
  | mk (k : Nat) (a b : Value) (hz : IsZip h z TI TO f) (hTI : IsPair h TI (.ref i1) (.ref i2)) (hTO : IsPair h TO a b) (h1 : h.IsListIter i1 l1 k) (h2 : h.IsListIter i2 l2 k) (e1 : μ[r]? = some l1) (e2 : μ[q]? = some l2)
    (el : (zipL xs ys).drop k = l) (hk : k ≤ (zipL xs ys).length) : ZR z TI TO i1 i2 l1 l2 r q xs ys f l μ h
inductive ZM (z TI TO i1 i2 l1 l2 : Addr) (r q : Nat) (xs ys : List AV) (l : List AV) (u : Value) (μ : List Addr) (h : Heap) : Prop
  | mk (T : Addr) (eu : u = .ref T) (R : ZR z TI TO i1 i2 l1 l2 r q xs ys (rawInt T) l μ h) : ZM z TI TO i1 i2 l1 l2 r q xs ys l u μ h
noncomputable def ZJ (z TO i1 i2 : Addr) (a : Addr) : Prop := a = z ∨ a = TO ∨ a = i1 ∨ a = i2
theorem ZR.live {z TI TO i1 i2 l1 l2 : Addr} {r q : Nat} {xs ys l : List AV} {f : Value} (R : ZR z TI TO i1 i2 l1 l2 r q xs ys f l μ h) {a : Addr} (j : ZJ z TO i1 i2 a) : ∃ o, h.get? a = some o := by
  obtain ⟨k, x, y, hz, hTI, hTO, ⟨o1, h1, _⟩, ⟨o2, h2, _⟩, _⟩ := R
  rcases j with rfl | rfl | rfl | rfl
  · exact ⟨_, hz⟩
  · exact ⟨_, hTO⟩
  · exact ⟨_, h1⟩
  · exact ⟨_, h2⟩

theorem Walk.zip (hq : base.q = false) {z TI TO i1 i2 l1 l2 : Addr} {r q : Nat} {xs ys : List AV} (D : ZipApart z TI TO i1 i2 l1 l2) : Walk C base (.ref z) (ZJ z TO i1 i2) [(r, xs), (q, ys)] false
    (ZR z TI TO i1 i2 l1 l2 r q xs ys .none) (ZM z TI TO i1 i2 l1 l2 r q xs ys) where
  frame := fun {μ μ' h h' l} R p st => by
    obtain ⟨k, x, y, hz, hTI, hTO, ⟨o1, h1, c1, d1⟩, ⟨o2, h2, c2, d2⟩, e1, e2, el, hk⟩ := R
    exact ⟨k, x, y, st hz (.inr ⟨_, rfl⟩), st hTI (.inl ⟨_, pair_tuple hTI⟩), st hTO (.inl ⟨_, pair_tuple hTO⟩), ⟨o1, st h1 (.inr ⟨_, d1⟩), c1, d1⟩, ⟨o2, st h2 (.inr ⟨_, d2⟩), c2, d2⟩, get_prefix p e1, get_prefix p e2, el, hk⟩
  off := fun {env b Γ ρ μ H s l} S R {a'} j => by
    obtain ⟨k, x, y, hz, hTI, hTO, ⟨o1, h1, c1, d1⟩, ⟨o2, h2, c2, d2⟩, _⟩ := R
    rcases j with rfl | rfl | rfl | rfl
    · exact notOwn_fields S.hp S.er hz rfl
    · exact notOwn_tuple S.hp S.er (pair_tuple hTO)
    · exact notOwn_fields S.hp S.er h1 d1
    · exact notOwn_fields S.hp S.er h2 d2
  live := fun {μ h l} R {a'} j => R.live j
  self := fun {μ s l A E Q} R k => by obtain ⟨_, _, _, hz, _⟩ := R; exact wpAny_pyIter_zip hz k
  liveM := fun {μ h l u} R {a'} j => by obtain ⟨T, _, R⟩ := R; exact R.live j
  item := fun {env b Γ ρ μ H s A E Q v l n} S a' hJ hw R k => by
    obtain ⟨i, x, y, hz, hTI, hTO, h1, h2, e1, e2, el, hi⟩ := R
    have eH1 := hw (r, xs) (by simp)
    have eH2 := hw (q, ys) (by simp)
    obtain ⟨_, a1, vs1, ea1, p1, q1⟩ := S.hp.list eH1
    obtain ⟨_, a2, vs2, ea2, p2, q2⟩ := S.hp.list eH2
    have ea1 : μ[r]? = some a1 := ea1
    have ea2 : μ[q]? = some a2 := ea2
    rw [e1] at ea1; cases ea1
    rw [e2] at ea2; cases ea2
    obtain ⟨ex, el'⟩ := VRs.dropCons el
    obtain ⟨xa, ya, rfl, g1, g2⟩ := zipL_get ex
    obtain ⟨u1, eu1, vu1⟩ := q1.get g1
    obtain ⟨u2, eu2, vu2⟩ := q2.get g2
    refine wpAny_pyNext_zip_item D hz hTI hTO h1 h2 (IsList.of_plain p1) (IsList.of_plain p2) (by simpa using eu1) (by simpa using eu2) fun h' hz' hTO' h1' h2' hT hsz hk => ?_
    have kk : ∀ {a : Addr} {o : Obj}, ¬ ZJ z TO i1 i2 a → s.heap.get? a = some o → h'.get? a = some o := fun {a o} n e => hk a o (fun q => n (.inl q)) (fun q => n (.inr (.inl q))) (fun q => n (.inr (.inr (.inl q)))) (fun q => n (.inr (.inr (.inr q)))) e
    have nTI : ¬ ZJ z TO i1 i2 TI := by rintro (e | e | e | e); exact D.TIz e; exact D.TITO e; exact D.TIi1 e; exact D.TIi2 e
    exact k _ h' s.toks kk (.tup (items := [u1, u2]) (pair_tuple hT) (S.notZ (none_size _)) (by show 2 ≤ lim; decide) (.cons (vu1.butJ hJ kk) (.cons (vu2.butJ hJ kk) .nil)))
      ⟨_, rfl, i + 1, u1, u2, hz', kk nTI hTI, hTO', h1', h2', e1, e2, el', (List.getElem?_eq_some_iff.mp ex).1⟩
  plain := fun e => by cases e
  own := fun {μ s l a' A E Q elts x1 pos} R k => by
    obtain ⟨T, eu, i, x, y, hz, hTI, hTO, ⟨o1, h1, c1, d1⟩, ⟨o2, h2, c2, d2⟩, e1, e2, el, hi⟩ := R
    cases eu
    refine wpAny_letOwnedTupleGo_zip hz fun h' hz' hs' => k h' (fun nj e => (hs'.2 _ fun e' => nj (.inl e')).trans e) ?_
    exact ⟨i, x, y, hz', (hs'.2 _ D.TIz).trans hTI, (hs'.2 _ D.TOz).trans hTO, ⟨o1, (hs'.2 _ D.i1z).trans h1, c1, d1⟩, ⟨o2, (hs'.2 _ D.i2z).trans h2, c2, d2⟩, e1, e2, el, hi⟩
  done := fun {env b Γ ρ μ H s A E Q n} S a' hJ hw R k => by
    obtain ⟨i, x, y, hz, hTI, hTO, h1, h2, e1, e2, el, hi⟩ := R
    have eH1 := hw (r, xs) (by simp)
    have eH2 := hw (q, ys) (by simp)
    obtain ⟨_, a1, vs1, ea1, p1, q1⟩ := S.hp.list eH1
    obtain ⟨_, a2, vs2, ea2, p2, q2⟩ := S.hp.list eH2
    have ea1 : μ[r]? = some a1 := ea1
    have ea2 : μ[q]? = some a2 := ea2
    rw [e1] at ea1; cases ea1
    rw [e2] at ea2; cases ea2
    have hlen : i = min xs.length ys.length := by
      have := congrArg List.length el
      rw [List.length_drop, List.length_nil, zipL_len] at this
      rw [zipL_len] at hi
      (first | lia | omega)
    refine wpAny_pyNext_zip_end (a'.handled hq) D hz hTI hTO h1 h2 (IsList.of_plain p1) (IsList.of_plain p2) ?_ fun h' hk => ?_
    · by_cases hm : xs.length ≤ ys.length
      · left; simp [← q1.length]; (first | lia | omega)
      · right; simp [← q2.length]; (first | lia | omega)
    · exact k h' s.toks fun {a o} n e => hk a o (fun q => n (.inl q)) (fun q => n (.inr (.inl q))) (fun q => n (.inr (.inr (.inl q)))) (fun q => n (.inr (.inr (.inr q)))) e
end
end Mine

namespace Mine
open PySem PySem.Calls PyProof.Rows PySem.SeqAt

theorem zip_apart {n c1 c2 : Nat} (h1 : c1 < n) (h2 : c2 < n) : ZipApart (n + 4) (n + 2) (n + 3) n (n + 1) c1 c2 := by
  have k : ∀ {a b : Nat}, (a < b ∨ b < a) → a ≠ b := fun h e => by (first | lia | omega)
  constructor <;> exact k (by (first | lia | omega))

section
variable {C : Cx} {T : Tab} {n b : Nat} {Γ : List Str} {S : Scope} {nm : Bool}

theorem ItOk.zip (hq : T.q = false) {f : Str} {e1 e2 : Expr} {np pos : Pos} {d : AEnv → AHeap → Res (List AV × List (Nat × List AV))} {d1 d2 : AEnv → AHeap → Res AV} (hf : biVals.lookup f = some (.type "zip")) (hg : isGlob S f = true) (hn1 : notStar e1 = true) (hn2 : notStar e2 = true)
    (h1 : EvOk C T n b Γ S e1 d1) (h2 : EvOk C T n b Γ S e2 d2)
    (hd : ∀ ρ H, d ρ H = (d1 ρ H).get fun v H => (d2 ρ H).get fun w H => (match v, w with
      | .ref r, .ref q => (match H[r]?, H[q]? with
        | some (.list xs), some (.list ys) => .ok (zipL xs ys, [(r, xs), (q, ys)]) H
        | _, _ => .bad)
      | _, _ => .bad)) : ItOk C T n b Γ S false (.Call (.Name f np) [e1, e2] [] pos) d := by
  refine ⟨?_⟩
  intro base env ρ μ H H' s A E Q p G hS st a ed k
  rw [hd] at ed
  obtain ⟨x, H1, ex, ed⟩ := Res.get_ok ed
  obtain ⟨y, H2, ey, ed⟩ := Res.get_ok ed
  cases x with
  | ref r =>
    cases y with
    | ref q =>
      have ed : (match H2[r]?, H2[q]? with | some (.list xs), some (.list ys) => Res.ok (zipL xs ys, [(r, xs), (q, ys)]) H2 | _, _ => .bad) = .ok p H' := ed
      split at ed
      · rename_i xs ys er eq
        cases ed
        refine wpAny_Call_ofName (builtin_ok G hS st hg hf ?_)
        refine PySem.callWith_type (noStars (by simp only [List.all_cons, hn1, hn2]; rfl)) (args_ok hn1 (wpAny_items_cons (h1.ok G hS st a ex fun u s1 μ1 X1 S1 V1 =>
          wpAny_items_cons (h2.ok G hS S1 a ey fun w s' μ' X S' V => wpAny_items_nil ?_) (starEach_cons hn2)) (starEach_cons hn1)))
        have V1' := V1.mono S1.hp S1.er X
        obtain ⟨c1, rfl, ec1⟩ := V1'.isRef
        obtain ⟨c2, rfl, ec2⟩ := V.isRef
        obtain ⟨_, a1, vs1, ea1, p1, q1⟩ := S'.hp.list er
        obtain ⟨_, a2, vs2, ea2, p2, q2⟩ := S'.hp.list eq
        rw [ec1] at ea1; cases ea1
        rw [ec2] at ea2; cases ea2
        have lt1 : c1 < s'.heap.objs.size := by obtain ⟨_, e⟩ := p1; exact Heap.lt_size e
        have lt2 : c2 < s'.heap.objs.size := by obtain ⟨_, e⟩ := p2; exact Heap.lt_size e
        refine call_zip_2 (IsList.of_plain p1) (IsList.of_plain p2) fun h' hz hTI hTO hi1 hi2 hsz hk => ?_
        have kk : ∀ {a : Addr} {o : Obj}, s'.heap.get? a = some o → h'.get? a = some o := fun {a o} e => hk a o e
        have D : ZipApart (s'.heap.objs.size + 4) (s'.heap.objs.size + 2) (s'.heap.objs.size + 3) s'.heap.objs.size (s'.heap.objs.size + 1) c1 c2 := zip_apart lt1 lt2
        have Rz : ZR (s'.heap.objs.size + 4) (s'.heap.objs.size + 2) (s'.heap.objs.size + 3) s'.heap.objs.size (s'.heap.objs.size + 1) c1 c2 r q xs ys .none (zipL xs ys) μ' h' := ⟨0, _, _, hz, hTI, hTO, hi1, hi2, ec1, ec2, rfl, Nat.zero_le _⟩
        have hge : ∀ {c : Addr}, ZJ (s'.heap.objs.size + 4) (s'.heap.objs.size + 3) s'.heap.objs.size (s'.heap.objs.size + 1) c → s'.heap.get? c = none := fun {c} j => none_ge (by
          rcases j with e | e | e | e <;> (subst e; (first | lia | omega)))
        have SZ : St (C.plus (ZJ (s'.heap.objs.size + 4) (s'.heap.objs.size + 3) s'.heap.objs.size (s'.heap.objs.size + 1))) base b env Γ ρ μ' H' { s' with heap := h' } := by
          refine S'.mapZ (fun _ => False) (s' := { s' with heap := h' }) (fun _ e => kk e) (fun j => j.elim) (fun j => j.elim) (fun j => j.elim) (fun {a o} e nz => ?_) (fun {a} z => ?_) rfl rfl
          · rintro (q | q)
            · exact nz q
            · rw [hge q] at e; cases e
          · rcases z with q | q
            · obtain ⟨o, e⟩ := S'.zl q; exact ⟨o, kk e⟩
            · exact Rz.live q
        refine wpAny_pyIter_zip hz ?_
        refine k _ _ μ' _ _ _ ((X1.trans X).trans (Ext.grow kk)) (fun j => ?_) (fun j => base_none S' (hge j)) SZ (Walk.zip (G.q.trans hq) D) Rz ?_
        · rename_i a'
          cases e : s.heap.get? a' with
          | none => rfl
          | some o => obtain ⟨o', e', _⟩ := (X1.trans X).live.go e; rw [hge j] at e'; cases e'
        · intro w hw
          rcases List.mem_cons.mp hw with e | e
          · subst e; exact er
          · rw [List.mem_singleton.mp e]; exact eq
      · cases ed
    | _ => exact bad_ok ed
  | _ => exact bad_ok ed
end
end Mine

namespace Mine
open PySem PySem.Calls PyProof.Rows PySem.SeqAt

/-- what is wanted behind a statement -/
noncomputable def FlowP (C : Cx) (base : Bs) (b : Nat) (env : Env) (Γ : List Str) (μ : List Addr) (s : Shared) (r : SR) (Q : Flow → Shared → Prop) (E : Value → Shared → Prop) : Prop := match r with
  | .next ρ' H' => ∀ s' μ', Ext env μ μ' s.heap s'.heap → St C base b env Γ ρ' μ' H' s' → Q .next s'
  | .ret v H' => ∀ u s' μ', Ext env μ μ' s.heap s'.heap → St C base b env Γ [] μ' H' s' → VR C μ' s'.heap v u → Q (.ret u) s'
  | .exc c H' => AfterX C base b env Γ [] μ s c H' E
  | .bad => False

section
variable (C : Cx) (T : Tab) (n b : Nat) (Γ : List Str) (S : Scope)
/-- the frame of a def -/
structure Fn (base : Bs) (env : Env) (S : Scope) : Prop where
  sc : env.scope = S
  top : Top1 base env
structure SOk (st : Stmt) (d : AEnv → AHeap → SR) : Prop where
  ok : ∀ {base : Bs} {env : Env} {ρ : AEnv} {μ : List Addr} {H : AHeap} {s : Shared} {A : Around} {E : Value → Shared → Prop} {Q : Flow → Shared → Prop},
    Gnd C T base → Fn base env S → St C base b env Γ ρ μ H s → AOk base A n → FlowP C base b env Γ μ s (d ρ H) Q E → wpAny (model C.prog C.w) A (exec st env) Q E s
structure SsOk (ss : List Stmt) (d : AEnv → AHeap → SR) : Prop where
  ok : ∀ {base : Bs} {env : Env} {ρ : AEnv} {μ : List Addr} {H : AHeap} {s : Shared} {A : Around} {E : Value → Shared → Prop} {Q : Flow → Shared → Prop},
    Gnd C T base → Fn base env S → St C base b env Γ ρ μ H s → AOk base A n → FlowP C base b env Γ μ s (d ρ H) Q E → wpAny (model C.prog C.w) A (execs ss env) Q E s
end

section
variable {C : Cx} {T : Tab} {n b : Nat} {Γ : List Str} {S : Scope} {nm : Bool}
variable {base : Bs} {env : Env} {ρ : AEnv} {μ μ' : List Addr} {H H' : AHeap} {s s' : Shared} {A : Around} {E : Value → Shared → Prop} {Q : Flow → Shared → Prop}

theorem EnvR.forget {h : Heap} (N : EnvR C μ h env Γ ρ) : EnvR C μ h env Γ [] where
  kind := N.kind
  ns := let ⟨m, nm, _⟩ := N.ns; ⟨m, nm, fun _ _ e => by simp at e⟩
  cells := fun k => let ⟨c, o, e, hc, _⟩ := N.cells k; ⟨c, o, e, hc, fun _ e => by simp at e⟩
  cell := N.cell
  inj := N.inj
  globals := N.globals
  builtins := N.builtins
theorem St.forget (S : St C base b env Γ ρ μ H s) : St C base b env Γ [] μ H s := ⟨S.keep, S.hp, S.er.forget, S.fresh, S.noloc, S.lm, S.nocell, S.gens, S.os, S.zl, S.ff⟩

theorem FlowP.trans {r : SR} (X : Ext env μ μ' s.heap s'.heap) (k : FlowP C base b env Γ μ s r Q E) : FlowP C base b env Γ μ' s' r Q E := by
  cases r with
  | next ρ' H' => exact fun s'' μ'' X' S' => k s'' μ'' (X.trans X') S'
  | ret v H' => exact fun u s'' μ'' X' S' V => k u s'' μ'' (X.trans X') S' V
  | exc c H' => exact AfterX.after X k
  | bad => exact k

theorem SsOk.nilS {d : AEnv → AHeap → SR} (hd : ∀ ρ H, d ρ H = .next ρ H) : SsOk C T n b Γ S [] d := by
  refine ⟨?_⟩
  intro base env ρ μ H s A E Q G hS st a k
  rw [hd] at k
  exact wpAny_execs_nil (k _ _ .refl st)
theorem SsOk.badS {ss : List Stmt} {d : AEnv → AHeap → SR} (hd : ∀ ρ H, d ρ H = .bad) : SsOk C T n b Γ S ss d := by
  refine ⟨?_⟩
  intro base env ρ μ H s A E Q G hS st a k
  rw [hd] at k
  exact k.elim
theorem SsOk.consS {st : Stmt} {ss : List Stmt} {d d1 d2 : AEnv → AHeap → SR} (h1 : SOk C T n b Γ S st d1) (h2 : SsOk C T n b Γ S ss d2)
    (hd : ∀ ρ H, d ρ H = (match d1 ρ H with | .next ρ H => d2 ρ H | r => r)) : SsOk C T n b Γ S (st :: ss) d := by
  refine ⟨?_⟩
  intro base env ρ μ H s A E Q G hS st a k
  rw [hd] at k
  refine wpAny_execs_cons (h1.ok G hS st a ?_)
  cases e : d1 ρ H with
  | next ρ' H' => rw [e] at k; exact fun s' μ' X S' => h2.ok G hS S' a (k.trans X)
  | ret v H' => rw [e] at k; exact fun u s' μ' X S' V => k u s' μ' X S' V
  | exc c H' => rw [e] at k; exact k
  | bad => rw [e] at k; exact k

theorem notComp_swaps {v t : Expr} {l : Nat} (h : notComp v = true) : swapsWith v (some t) l env = pure false := by
  cases v <;> first | rfl | cases h
theorem SOk.assignN {x : Str} {i : Nat} {v : Expr} {px pos : Pos} {d : AEnv → AHeap → SR} {d1 : AEnv → AHeap → Res AV} (hx : slot Γ x = some i) (hk : isStoreK S x = true) (hv : notComp v = true) (h : EvOk C T n b Γ S v d1)
    (hd : ∀ ρ H, d ρ H = (match d1 ρ H with | .ok v H => .next (ρ.set i (some v)) H | _ => .bad)) : SOk C T n b Γ S (.Assign [.Name x px] v pos) d := by
  refine ⟨?_⟩
  intro base env ρ μ H s A E Q G hS st a k
  rw [hd] at k
  cases e : d1 ρ H with
  | ok w H1 =>
    rw [e] at k
    refine wpAny_Assign_Name (h.ok G hS.sc st a e fun u s' μ' X S' V => ?_) (notComp_swaps hv)
    have hk' : env.kindOf x = some .local ∨ env.kindOf x = some .cell := by
      unfold isStoreK at hk; rw [← hS.sc] at hk
      simpa [kindIn, Env.kindOf] using hk
    exact S'.bind hx hk' V fun s'' S'' X' => k s'' μ' (X.trans X') S''
  | exc c H1 => rw [e] at k; exact k.elim
  | bad => rw [e] at k; exact k.elim

theorem SOk.ite {t : Expr} {body els : List Stmt} {pos : Pos} {d d1 d2 : AEnv → AHeap → SR} {dt : AEnv → AHeap → Res Bool} (ht : TrOk C T n b Γ S t dt) (h1 : SsOk C T n b Γ S body d1) (h2 : SsOk C T n b Γ S els d2)
    (hd : ∀ ρ H, d ρ H = (match dt ρ H with | .ok true H => d1 ρ H | .ok false H => d2 ρ H | _ => .bad)) : SOk C T n b Γ S (.If t body els pos) d := by
  refine ⟨?_⟩
  intro base env ρ μ H s A E Q G hS st a k
  rw [hd] at k
  cases e : dt ρ H with
  | ok c H1 =>
    rw [e] at k
    refine wpAny_If (ht.ok G hS.sc st a e fun s' μ' X S' => ?_)
    cases c with
    | true => simp only [if_true]; exact h1.ok G hS S' a (FlowP.trans X k)
    | false => simp only [Bool.false_eq_true, if_false]; exact h2.ok G hS S' a (FlowP.trans X k)
  | exc c H1 => rw [e] at k; exact k.elim
  | bad => rw [e] at k; exact k.elim

theorem SOk.ret {v : Expr} {pos : Pos} {d : AEnv → AHeap → SR} {d1 : AEnv → AHeap → Res AV} {r : Bool} (h : EvOk C T n b Γ S v d1) (hx : r = true → XOk C T n b Γ S v d1) (hd : ∀ ρ H, d ρ H = (match d1 ρ H with | .ok v H => .ret v H | .exc c H => excS r c H | .bad => .bad)) : SOk C T n b Γ S (.Return (some v) pos) d := by
  refine ⟨?_⟩
  intro base env ρ μ H s A E Q G hS st a k
  rw [hd] at k
  cases e : d1 ρ H with
  | ok w H1 => rw [e] at k; exact wpAny_Return_some (h.ok G hS.sc st a e fun u s' μ' X S' V => k u s' μ' X S'.forget V)
  | exc c H1 =>
    rw [e] at k
    cases r with
    | true => exact wpAny_Return_some ((hx rfl).ok G hS.sc st a e fun u s' μ' X S' ek x => k u s' μ' X S'.forget ek x)
    | false => exact k.elim
  | bad => rw [e] at k; exact k.elim
theorem SOk.expr {v : Expr} {pos : Pos} {d : AEnv → AHeap → SR} {d1 : AEnv → AHeap → Res AV} {r : Bool} (hv : notComp v = true) (h : EvOk C T n b Γ S v d1) (hx : r = true → XOk C T n b Γ S v d1) (hd : ∀ ρ H, d ρ H = (match d1 ρ H with | .ok _ H => .next ρ H | .exc c H => excS r c H | .bad => .bad)) : SOk C T n b Γ S (.Expr v pos) d := by
  refine ⟨?_⟩
  intro base env ρ μ H s A E Q G hS st a k
  rw [hd] at k
  cases e : d1 ρ H with
  | ok w H1 =>
    rw [e] at k
    refine wpAny_Expr_any (h.ok G hS.sc st a e fun u s' μ' X S' V => k s' μ' X S') ?_ ?_
    · unfold interactive; rw [st.er.kind]; rfl
    · cases v <;> first | rfl | cases hv
  | exc c H1 =>
    rw [e] at k
    cases r with
    | true =>
      refine wpAny_Expr_any ((hx rfl).ok G hS.sc st a e fun u s' μ' X S' ek x => k u s' μ' X S'.forget ek x) ?_ ?_
      · unfold interactive; rw [st.er.kind]; rfl
      · cases v <;> first | rfl | cases hv
    | false => exact k.elim
  | bad => rw [e] at k; exact k.elim

theorem SOk.whl {t : Expr} {body : List Stmt} {pos : Pos} {m : Nat} {d db : AEnv → AHeap → SR} {dt : AEnv → AHeap → Res Bool} (ht : TrOk C T n b Γ S t dt) (hb : SsOk C T n b Γ S body db)
    (hd : ∀ ρ H, d ρ H = whileL dt db m ρ H) : SOk C T n b Γ S (.While t body [] pos) d := by
  refine ⟨?_⟩
  intro base env ρ μ H s A E Q G hS st a k
  rw [hd] at k
  refine wpAny_While (codeAny_whileLoop (fun j s' => ∃ ρ' μ' H', St C base b env Γ ρ' μ' H' s' ∧ Ext env μ μ' s.heap s'.heap ∧ FlowP C base b env Γ μ s (whileL dt db j ρ' H') Q E) ?_ m ⟨ρ, μ, H, st, .refl, k⟩)
  rintro j s1 ⟨ρ1, μ1, H1, S1, X1, k1⟩
  cases j with
  | zero => exact k1.elim
  | succ j =>
    unfold whileL at k1
    cases e : dt ρ1 H1 with
    | ok c H2 =>
      rw [e] at k1
      refine ht.ok G hS.sc S1 a e fun s2 μ2 X2 S2 => ?_
      cases c with
      | false =>
        simp only [Bool.false_eq_true, if_false]
        exact wpAny_execs_nil (k1 s2 μ2 (X1.trans X2) S2)
      | true =>
        simp only [if_true]
        refine hb.ok G hS S2 a ?_
        cases e' : db ρ1 H2 with
        | next ρ3 H3 => simp only [e'] at k1; exact fun s3 μ3 X3 S3 => ⟨j, Nat.lt_succ_self _, ρ3, μ3, H3, S3, (X1.trans X2).trans X3, k1⟩
        | ret v H3 => simp only [e'] at k1; exact fun u s3 μ3 X3 S3 V => k1 u s3 μ3 ((X1.trans X2).trans X3) S3 V
        | exc c H3 => simp only [e'] at k1; exact fun u s3 μ3 X3 S3 ek x => back_ok hS.top a st S3 ((X1.trans X2).trans X3) (x.back (X1.trans X2).live) fun s4 S4 X4 x4 => k1 u s4 μ3 X4 S4 ek x4
        | bad => simp only [e'] at k1; exact k1.elim
    | exc c H2 => rw [e] at k1; exact k1.elim
    | bad => rw [e] at k1; exact k1.elim
end
end Mine

namespace Mine
open PySem PySem.Calls PyProof.Rows PySem.SeqAt

section
variable {prog : Program} {w : World} {A : Around} {E : Value → Shared → Prop} {h : Heap} {g : Array GenState} {d : Drawn} {t : Nat} {os : OsState} {a : Addr} {o : Obj}
variable {nm q : Str} {C N : Addr} {bs bm : List Value} {hdct : Bool} {sn : List Str} {sub : List Value} {ab : Bool} {col : Option Bool} {dd : Option Addr} {k0 k1 k2 k3 k5 : Option Value} {newId : String} {mN : Str → Option Value}

theorem ve_mro : mroOf (.type "ValueError") = pure bmVE := F.attrBase_ValueError.mro
theorem ve_class : typeLookup (.type "ValueError") "__class__" = pure (some (.builtin "object.__class__")) := by rw [typeLookup_type, builtinLookup_eq_fast]; kernel_rfl

theorem lookup_class {tl : List Value} {Q : Option Value → Shared → Prop} {M : Model} (T : TailC h tl) (hC : h.get? C = some (excClassObj nm q C N bs tl hdct sn sub ab col dd k0 k1 k2 k3 k5 newId)) (hN : h.Ns N mN) (hcl : mN "__class__" = none)
    (hq : Q (some (.builtin "object.__class__")) ⟨h, g, d, t, os⟩) : wpAny M A (typeLookup (.ref C) "__class__") Q E ⟨h, g, d, t, os⟩ := by
  have hrest : lookupAlong bmVE "__class__" = pure (some (.builtin "object.__class__")) := by
    have := ve_class
    rw [typeLookup_eq, ve_mro] at this; exact this
  rw [typeLookup_eq]
  refine wpAny_bind (wpAny_mroOf_exc hC ?_)
  rw [lookupAlong_cons]
  refine wpAny_bind (wpAny_classOwn_exc hC hN ?_)
  rw [hcl]
  cases T with
  | base => show wpAny M A (lookupAlong bmVE "__class__") Q E _; rw [hrest]; exact wpAny_pure hq
  | own x e =>
    obtain ⟨N', nm', q', bs', hdct', sn', sub', ab', col', dd', k0', k1', k2', k3', k5', mN', hC', hN', hq', hcl'⟩ := x
    subst e
    show wpAny M A (lookupAlong (_ :: bmVE) "__class__") Q E _
    rw [lookupAlong_cons]
    refine wpAny_bind (wpAny_classOwn_exc hC' hN' ?_)
    rw [hcl']
    show wpAny M A (lookupAlong bmVE "__class__") Q E _
    rw [hrest]; exact wpAny_pure hq

theorem class_get_exc {tl : List Value} {R : Result → Shared → Prop} (T : TailC h tl) (hC : h.get? C = some (excClassObj nm q C N bs tl hdct sn sub ab col dd k0 k1 k2 k3 k5 newId)) (hx : h.get? a = some o) (hc : o.cls = .ref C) (hq : R (.ok (.ret (.ref C))) ⟨h, g, d, t, os⟩) :
    codeAny (model prog w) A (.call (.builtin "getset_descriptor.__get__") ⟨[.builtin "object.__class__", .ref a, .ref C], []⟩) R ⟨h, g, d, t, os⟩ := by
  have hT5 : (⟨h, g, d, t, os⟩ : Shared).TypeIs (.builtin "object.__class__") "getset_descriptor" := F.typeOf_object_class
  have hob : bmVE.contains (.type "object") = true := by unfold bmVE; decide +kernel
  have hcB : (Value.ref C :: tl).contains (.type (".".intercalate ("object.__class__".cutAt '.').dropLast)) = true := by
    rw [F.owner_object_class, List.contains_cons, T.tailQ.tail.hasType hob]; rfl
  refine codeAny_call_builtin F.slot_gs_get.plain F.entry_gs_get (F.slot_gs_get.check _ _ _ _ _ _ _ _ hT5 (F.args_gs_get _ _ _) ?_)
  repeat (any_goals (first | assumption | (with_reducible refine wpAny_loadPart_at hx ?_; rw [hc]) | (with_reducible refine wpAny_isSubtype_exc hC ?_; rw [hcB]) | wp_step))
  refine ⟨Code.quiet_builtin _ (by decide +kernel), codeAny_builtin F.entry_object_class ?_⟩
  repeat (any_goals (first | assumption | (with_reducible refine wpAny_loadPart_at hx ?_; rw [hc]) | wp_step))

theorem class_entry_exc {tl : List Value} {tk : Tok} {Q : Fin → Shared → Prop} (T : TailC h tl) (hC : h.get? C = some (excClassObj nm q C N bs tl hdct sn sub ab col dd k0 k1 k2 k3 k5 newId)) (hN : h.Ns N mN) (hcl : mN "__class__" = none)
    (hx : h.get? a = some o) (hc : o.cls = .ref C) (hq : Q (.done (.ret (.ref C))) ⟨h, g, d, t, os⟩) :
    wpAny (model prog w) A (Builtin.«object.__getattribute__» ⟨[.ref a, .str "__class__" tk], []⟩) Q E ⟨h, g, d, t, os⟩ := by
  have hT5 : (⟨h, g, d, t, os⟩ : Shared).TypeIs (.builtin "object.__class__") "getset_descriptor" := F.typeOf_object_class
  have f5 := F.typeOf_object_class
  have f6 := F.slot_gs_get.lookup
  have f7 := F.slot_gs_set.lookup
  repeat (any_goals (first | assumption | (with_reducible refine wpAny_loadPart_at hx ?_; rw [hc]) | with_reducible refine lookup_class T hC hN hcl ?_ | wp_step))
  refine class_get_exc T hC hx hc ?_
  repeat (any_goals (first | assumption | wp_step))

theorem class_by_exc {tl : List Value} {tk : Tok} {Q : Value → Shared → Prop} (T : TailC h tl) (hC : h.get? C = some (excClassObj nm q C N bs tl hdct sn sub ab col dd k0 k1 k2 k3 k5 newId)) (hN : h.Ns N mN) (hmN : ∀ n ∈ quietNames, mN n = none) (hcl : mN "__class__" = none)
    (hx : h.get? a = some o) (hc : o.cls = .ref C) (hq : Q (.ref C) ⟨h, g, d, t, os⟩) : wpAny (model prog w) A (getAttrBy (.ref a) (.str "__class__" tk) false) Q E ⟨h, g, d, t, os⟩ := by
  have FB := F.attrBase_ValueError
  have f3 := FB.ga.bind (.ref a)
  have hx2 : (Value.builtin "BaseException.__getattribute__" == Value.builtin "object.__getattribute__") = false := by decide +kernel
  have hx1 : (onTheHeap (Value.ref C) && Value.builtin "BaseException.__getattribute__" == Value.builtin "object.__getattribute__") = false := by rw [hx2]; rfl
  have hm1 : ("__getattribute__" : Str) ∈ quietNames := .tail _ (.head _)
  have hm2 : ("__getattr__" : Str) ∈ quietNames := .tail _ (.tail _ (.head _))
  repeat (any_goals (first | assumption | (with_reducible refine wpAny_loadPart_at hx ?_; rw [hc]) | with_reducible refine wpAny_typeLookup_tailQ hm1 hC hN hmN T.tailQ FB.mro FB.ga.lookup ?_ | with_reducible refine wpAny_typeLookup_tailQ hm2 hC hN hmN T.tailQ FB.mro FB.noGetattr ?_ | wp_step))
  refine codeAny_call_builtin FB.ga.plain F.entry_bexc_ga (wpAny_check_ga_own FB hC T.tailQ hx hc (class_entry_exc T hC hN hcl hx hc ?_))
  repeat (any_goals (first | assumption | wp_step))

theorem class_attr_exc {tl : List Value} {Q : Option Value → Shared → Prop} (T : TailC h tl) (hC : h.get? C = some (excClassObj nm q C N bs tl hdct sn sub ab col dd k0 k1 k2 k3 k5 newId)) (hN : h.Ns N mN) (hmN : ∀ n ∈ quietNames, mN n = none) (hcl : mN "__class__" = none)
    (hx : h.get? a = some o) (hc : o.cls = .ref C) (hq : Q (some (.ref C)) ⟨h, g, d, t + 1, os⟩) : wpAny (model prog w) A (getAttr? (.ref a) "__class__") Q E ⟨h, g, d, t, os⟩ := by
  unfold getAttr? getAttrBy?
  repeat (any_goals (first | assumption | with_reducible apply class_by_exc T hC hN hmN hcl hx hc | wp_step))
end
end Mine

namespace Mine
open PySem PySem.Calls PyProof.Rows PySem.SeqAt

section
variable {prog : Program} {w : World} {A : Around} {E : Value → Shared → Prop} {h : Heap} {g : Array GenState} {d : Drawn} {t : Nat} {os : OsState} {a : Addr} {o : Obj}
variable {nm q : Str} {C N : Addr} {bs bm : List Value} {hdct : Bool} {sn : List Str} {sub : List Value} {ab : Bool} {col : Option Bool} {dd : Option Addr} {k0 k1 k2 k3 k5 : Option Value} {newId : String} {mN : Str → Option Value}
variable {nm' q' : Str} {C' N' : Addr} {bs' bm' : List Value} {hdct' : Bool} {sn' : List Str} {sub' : List Value} {ab' : Bool} {col' : Option Bool} {dd' : Option Addr} {k0' k1' k2' k3' k5' : Option Value} {newId' : String}

theorem isi_same {dep : Int} {tk : Tok} {Q : Fin → Shared → Prop} (hx : h.get? a = some o) (hc : o.cls = .ref C) (hq : Q (.done (.ret (.bool true))) ⟨h, g, d, t, os⟩) :
    wpAny (model prog w) A (Builtin.«isinstance.nested» ⟨[.ref a, .ref C, .int dep tk], []⟩) Q E ⟨h, g, d, t, os⟩ := by
  have hs : (Value.ref C == Value.ref C) = true := beq_self_eq_true _
  repeat (any_goals (first | assumption | (with_reducible refine wpAny_loadPart_at hx ?_; rw [hc]) | wp_step))
theorem isi_sub {tl : List Value} {dep : Int} {tk : Tok} {Q : Fin → Shared → Prop} (hC : h.get? C = some (excClassObj nm q C N bs tl hdct sn sub ab col dd k0 k1 k2 k3 k5 newId)) (hX : h.get? C' = some (excClassObj nm' q' C' N' bs' bm' hdct' sn' sub' ab' col' dd' k0' k1' k2' k3' k5' newId'))
    (hx : h.get? a = some o) (hc : o.cls = .ref C) (hne : (Value.ref C == Value.ref C') = false) (hin : (Value.ref C :: tl).contains (.ref C') = true) (hq : Q (.done (.ret (.bool true))) ⟨h, g, d, t, os⟩) :
    wpAny (model prog w) A (Builtin.«isinstance.nested» ⟨[.ref a, .ref C', .int dep tk], []⟩) Q E ⟨h, g, d, t, os⟩ := by
  repeat (any_goals (first | assumption | (with_reducible refine wpAny_loadPart_at hx ?_; rw [hc]) | with_reducible refine wpAny_loadPart_at hX ?_ | (with_reducible refine wpAny_isSubtype_exc hC ?_; rw [hin]) | wp_step))
theorem isi_not {tl : List Value} {dep : Int} {tk : Tok} {Q : Fin → Shared → Prop} (T : TailC h tl) (hC : h.get? C = some (excClassObj nm q C N bs tl hdct sn sub ab col dd k0 k1 k2 k3 k5 newId)) (hN : h.Ns N mN) (hmN : ∀ n ∈ quietNames, mN n = none) (hcl : mN "__class__" = none)
    (hX : h.get? C' = some (excClassObj nm' q' C' N' bs' bm' hdct' sn' sub' ab' col' dd' k0' k1' k2' k3' k5' newId'))
    (hx : h.get? a = some o) (hc : o.cls = .ref C) (hne : (Value.ref C == Value.ref C') = false) (hin : (Value.ref C :: tl).contains (.ref C') = false) (hq : Q (.done (.ret (.bool false))) ⟨h, g, d, t + 1, os⟩) :
    wpAny (model prog w) A (Builtin.«isinstance.nested» ⟨[.ref a, .ref C', .int dep tk], []⟩) Q E ⟨h, g, d, t, os⟩ := by
  repeat (any_goals (first | assumption | (with_reducible refine wpAny_loadPart_at hx ?_; rw [hc]) | with_reducible refine wpAny_loadPart_at hX ?_ | with_reducible refine wpAny_loadPart_at hC ?_ | (with_reducible refine wpAny_isSubtype_exc hC ?_; rw [hin]) | with_reducible apply class_attr_exc T hC hN hmN hcl hx hc | wp_step))
theorem isi_ve {tl : List Value} {dep : Int} {tk : Tok} {Q : Fin → Shared → Prop} (T : TailC h tl) (hC : h.get? C = some (excClassObj nm q C N bs tl hdct sn sub ab col dd k0 k1 k2 k3 k5 newId))
    (hx : h.get? a = some o) (hc : o.cls = .ref C) (hq : Q (.done (.ret (.bool true))) ⟨h, g, d, t, os⟩) :
    wpAny (model prog w) A (Builtin.«isinstance.nested» ⟨[.ref a, .type "ValueError", .int dep tk], []⟩) Q E ⟨h, g, d, t, os⟩ := by
  have hne : (Value.ref C == Value.type "ValueError") = false := by rfl
  have hob : bmVE.contains (.type "ValueError") = true := by unfold bmVE; decide +kernel
  have hin : (Value.ref C :: tl).contains (.type "ValueError") = true := by rw [List.contains_cons, T.tailQ.tail.hasType hob]; rfl
  have hty : typeOf (.type "ValueError") = pure (.type "type") := by first | rfl | kernel_rfl
  repeat (any_goals (first | assumption | (with_reducible refine wpAny_loadPart_at hx ?_; rw [hc]) | (with_reducible refine wpAny_isSubtype_exc hC ?_; rw [hin]) | wp_step))
end
end Mine

namespace Mine
open PySem PySem.Calls PyProof.Rows PySem.SeqAt

section
variable {C : Cx} {T : Tab} {n b : Nat} {Γ : List Str} {S : Scope} {strF : SrtF}
variable {base : Bs} {env : Env} {ρ : AEnv} {μ : List Addr} {H H' : AHeap} {s : Shared} {A : Around} {E : Value → Shared → Prop} {Q : Value → Shared → Prop}

/-- does the order of class d hold class c? -/
theorem mro_has {d c : Nat} {x y : Str} {Cd Cc : Addr} {tl : List Value} {g : Heap} (G : ExcG C T g) (hd : T.excs.lookup d = some x) (hc : T.excs.lookup c = some y) (ed : C.ea d = .ref Cd) (ec : C.ea c = .ref Cc) (et : tl = (if d = 0 then bmVE else C.ea 0 :: bmVE)) :
    (Value.ref Cd :: tl).contains (.ref Cc) = (decide (d = c) || decide (c = 0)) := by
  have h0 : bmVE.contains (.ref Cc) = false := rfl
  obtain ⟨z, hz⟩ := G.has0 hd
  have ne : ∀ {k : Nat} {v : Str} {Ck : Addr}, T.excs.lookup k = some v → C.ea k = .ref Ck → ((Value.ref Cc == Value.ref Ck) = decide (k = c)) := fun {k v Ck} hk ek => by
    by_cases q : k = c
    · subst q; rw [ec] at ek; cases ek; simp
    · rw [decide_eq_false q]
      refine Bool.eq_false_iff.mpr fun e => q ?_
      have := beq_iff_eq.mp e
      exact G.inj hk hc (by rw [ek, ec, this])
  rw [List.contains_cons, ne hd ed, et]
  by_cases q : d = 0
  · rw [if_pos q, h0, Bool.or_false]
    subst q
    by_cases q : 0 = c
    · simp [q]
    · rw [decide_eq_false q, decide_eq_false fun e => q e.symm]; rfl
  · rw [if_neg q]
    obtain ⟨C0, _, _, e0, _⟩ := G.cls hz
    rw [e0, List.contains_cons, ne hz e0, h0, Bool.or_false]
    congr 1
    by_cases q : c = 0
    · subst q; rfl
    · rw [decide_eq_false q, decide_eq_false fun e => q e.symm]

/-- isinstance of an exception -/
theorem isExc_ok {c d : Nat} {y : Str} {u v : Value} (G : Gnd C T base) (st : St C base b env Γ ρ μ H s) (V : VR C μ s.heap (.exc d) u) (hc : T.excs.lookup c = some y) (ev : C.mg y = some v) (k : After C base b env Γ ρ μ s (.bool (decide (d = c) || decide (c = 0))) H Q) :
    wpAny (model C.prog C.w) A (call (.builtin "isinstance") [u, v]) Q E s := by
  cases V with
  | exc ek ho nz hcls hd =>
    rename_i a o
    obtain ⟨x, hx⟩ := G.exg.eo.mp ek
    obtain ⟨Cd, tl, _, ed, XD, TD, et⟩ := G.exg.cls hx
    obtain ⟨Cc, tlc, ec', ec, XC, _, _⟩ := G.exg.cls hc
    rw [ev] at ec'; cases ec'
    have hm := mro_has G.exg hx hc ed ec et
    have kg : ∀ b o, base.g.get? b = some o → s.heap.get? b = some o := fun _ _ => st.kg
    have fin : ∀ tk, Q (.bool (decide (d = c) || decide (c = 0))) { s with toks := tk } := fun tk => k _ _ μ .refl (st.tok tk) (.bool _)
    rw [ed] at hcls
    refine call_isinstance (S := fun _ R s' => s' = s ∧ ∀ tk, R (.ok (.ret (.bool (decide (d = c) || decide (c = 0))))) { s with toks := tk }) (fun _ _ _ _ s' hs => ?_) ⟨rfl, fin⟩
    obtain ⟨rfl, hs⟩ := hs
    refine isinstance_outer ?_ (by intro q; cases q)
    obtain ⟨N, nm, q, bs, hdct, sn, sub, ab, col, dd, k0, k1, k2, k3, k5, mN, hC, hN, hq, hcl⟩ := XD.keeps kg
    obtain ⟨N', nm', q', bs', hdct', sn', sub', ab', col', dd', k0', k1', k2', k3', k5', mN', hC', hN', hq', hcl'⟩ := XC.keeps kg
    have TK := TD.keeps kg
    obtain ⟨h, g, dr, t, os⟩ := s'
    by_cases e : d = c
    · subst e
      rw [ed] at ec; cases ec
      refine isi_same ho hcls ?_
      have := hs t
      simpa using this
    · have hne : (Value.ref Cd == Value.ref Cc) = false := Bool.eq_false_iff.mpr fun q => e (G.exg.inj hx hc (by rw [ed, ec, beq_iff_eq.mp q]))
      cases hb : (decide (d = c) || decide (c = 0)) with
      | true =>
        rw [hb] at hm hs
        exact isi_sub hC hC' ho hcls hne hm (hs t)
      | false =>
        rw [hb] at hm hs
        exact isi_not TK hC hN hq hcl hC' ho hcls hne hm (hs (t + 1))
theorem isVE_ok {d : Nat} {u : Value} (G : Gnd C T base) (st : St C base b env Γ ρ μ H s) (V : VR C μ s.heap (.exc d) u) (k : After C base b env Γ ρ μ s (.bool true) H Q) :
    wpAny (model C.prog C.w) A (call (.builtin "isinstance") [u, .type "ValueError"]) Q E s := by
  cases V with
  | exc ek ho nz hcls hd =>
    rename_i a o
    obtain ⟨x, hx⟩ := G.exg.eo.mp ek
    obtain ⟨Cd, tl, _, ed, XD, TD, et⟩ := G.exg.cls hx
    have kg : ∀ b o, base.g.get? b = some o → s.heap.get? b = some o := fun _ _ => st.kg
    rw [ed] at hcls
    refine call_isinstance (S := fun _ R s' => s' = s ∧ R (.ok (.ret (.bool true))) s) (fun _ _ _ _ s' hs => ?_) ⟨rfl, k _ _ μ .refl st (.bool _)⟩
    obtain ⟨rfl, hs⟩ := hs
    refine isinstance_outer ?_ (by intro q; cases q)
    obtain ⟨N, nm, q, bs, hdct, sn, sub, ab, col, dd, k0, k1, k2, k3, k5, mN, hC, hN, hq, hcl⟩ := XD.keeps kg
    obtain ⟨h, g, dr, t, os⟩ := s'
    exact isi_ve (TD.keeps kg) hC ho hcls hs
end
end Mine

namespace Mine
open PySem PySem.Calls PyProof.Rows PySem.SeqAt

section
variable {C : Cx} {T : Tab} {n b : Nat} {Γ : List Str} {S : Scope} {strF : SrtF}
variable {base : Bs} {env : Env} {ρ : AEnv} {μ : List Addr} {H H' : AHeap} {s : Shared} {A : Around} {E : Value → Shared → Prop} {Q : Flow → Shared → Prop}

theorem SOk.raise (hq : T.q = false) {c : Nat} {x : Str} {m : Str} {kk : Nat} {np p1 cpos pos : Pos} {d : AEnv → AHeap → SR} (hx : T.excs.lookup c = some x) (hg : isGlob S x = true) (hd : ∀ ρ H, d ρ H = .exc c H) :
    SOk C T n b Γ S (.Raise (some (.Call (.Name x np) [.Constant (.str m) kk p1] [] cpos)) none pos) d := by
  refine ⟨?_⟩
  intro base env ρ μ H s A E Q G hS st a k
  rw [hd] at k
  obtain ⟨Ck, tl, em, ek, X, TD, _⟩ := G.exg.cls hx
  obtain ⟨N, nm, q, bs, hdct, sn, sub, ab, col, dd, k0, k1, k2, k3, k5, mN, hC, hN, hni, hcl⟩ := X
  have kg : ∀ b o, base.g.get? b = some o → s.heap.get? b = some o := fun _ _ => st.kg
  have hbase : tl.contains (.type "BaseException") = true := TD.tailQ.tail.hasType (F.excBase_ValueError.hasBase)
  refine wpAny_Raise_call_subT (C := Ck) (nm := nm) (q := q) (N := N) (bs := bs) (bm := tl) (hdct := hdct) (sn := sn) (sub := sub) (ab := ab) (col := col) (dd := dd) (k0 := k0) (k1 := k1) (k2 := k2) (k3 := k3) (k5 := k5)
    F.excBase_ValueError (mN := mN) hbase (a.handled (G.q.trans hq)) rfl (hni _ (.head _)) (glob_ok G hS.sc st hg em ⟨rfl, args_ok rfl ?_⟩)
  refine wpAny_items_cons (wpAny_Constant_str (wpAny_items_nil ?_)) (starEach_cons rfl)
  refine ⟨rfl, by show 1 ≤ sizeLine; decide, kg _ _ hC, hN.keeps kg, (TD.keeps kg).tailQ.tail, fun h' e M => ?_⟩
  have kk : ∀ {a : Addr} {o : Obj}, s.heap.get? a = some o → h'.get? a = some o := fun {a o} e => M.keeps a o e
  obtain ⟨t, ho, _, _⟩ := M.there
  exact k _ _ μ (Ext.grow kk) (st.forget.grow kk rfl rfl) (G.exg.eo.mpr ⟨x, hx⟩) (.new e _ _ rfl rfl ho M.new ek.symm rfl rfl)
end
end Mine

namespace Mine
open PySem PySem.Calls PyProof.Rows PySem.SeqAt

section
variable {M : Model} {A : Around} {E : Value → Shared → Prop} {h : Heap} {g : Array GenState} {d : Drawn} {t : Nat} {os : OsState} {e : Addr} {oe : Obj}
variable {nm q : Str} {C N : Addr} {bs bm : List Value} {hdct : Bool} {sn : List Str} {sub : List Value} {ab : Bool} {col : Option Bool} {dd : Option Addr} {k0 k1 k2 k3 k5 : Option Value} {newId : String} {mN : Str → Option Value}
variable {nm' q' : Str} {C' N' : Addr} {bs' bm' : List Value} {hdct' : Bool} {sn' : List Str} {sub' : List Value} {ab' : Bool} {col' : Option Bool} {dd' : Option Addr} {k0' k1' k2' k3' k5' : Option Value} {newId' : String}
theorem match_ok {Q : Bool → Shared → Prop} (hC : h.get? C = some (excClassObj nm q C N bs bm hdct sn sub ab col dd k0 k1 k2 k3 k5 newId)) (hC' : h.get? C' = some (excClassObj nm' q' C' N' bs' bm' hdct' sn' sub' ab' col' dd' k0' k1' k2' k3' k5' newId'))
    (he : h.get? e = some oe) (hcls : oe.cls = .ref C) (hbase : bm'.contains (.type "BaseException") = true) (hin : (Value.ref C :: bm).contains (.ref C') = true)
    (hq : Q true ⟨h, g, d, t, os⟩) : wpAny M A (excMatches (.ref e) (.ref C')) Q E ⟨h, g, d, t, os⟩ := by
  have hcB : (Value.ref C' :: bm').contains (.type "BaseException") = true := by rw [List.contains_cons, hbase, Bool.or_true]
  have f := tc_notTuple
  unfold excMatches
  repeat (first | (with_reducible refine wpAny_loadPart_at he ?_; rw [hcls]) | with_reducible refine wpAny_loadPart_at hC' ?_ | (with_reducible refine wpAny_isSubtype_exc hC' ?_; rw [hcB]) | (with_reducible refine wpAny_isSubtype_exc hC ?_; rw [hin]) | wp_step)
  exact hq
end

section
variable {C : Cx} {T : Tab} {n b : Nat} {Γ : List Str} {S : Scope} {strF : SrtF}
variable {base : Bs} {env : Env} {ρ : AEnv} {μ μ1 : List Addr} {H H' H1 : AHeap} {s s' s1 : Shared} {A : Around} {E : Value → Shared → Prop} {Q : Flow → Shared → Prop}

theorem St.re {B' : Bs} (S : St C base b env Γ ρ μ H s) (h1 : B'.h = base.h) (h2 : B'.g = base.g) (h3 : B'.fs = base.fs) : St C B' b env Γ ρ μ H s := by
  obtain ⟨h, g, fs, q, gb⟩ := base
  obtain ⟨h', g', fs', q', gb'⟩ := B'
  cases h1; cases h2; cases h3
  exact ⟨S.keep, S.hp, S.er, S.fresh, S.noloc, S.lm, S.nocell, S.gens, S.os, S.zl, S.ff⟩
/-- the same ground for a handler -/
noncomputable abbrev Bs.hush (B : Bs) : Bs := ⟨B.h, B.g, B.fs, true, B.gb⟩
theorem Gnd.hush (G : Gnd C T base) : Gnd C T.quiet base.hush :=
  ⟨rfl, (fun e => by cases e), ⟨G.scr.scr⟩, G.g, G.b, G.bi, G.fn, G.gint, ⟨G.exg.cls, G.exg.inj, G.exg.has0, G.exg.eo, G.exg.sm⟩, G.nolimit, G.qdefs, G.qdefs⟩
theorem AOk.hush (a : AOk base A n) {v : Value} : AOk base.hush (A.mark (some v)) n := ⟨a.depth, a.units, (fun e => by cases e), a.frames, a.guards⟩
theorem Fn.hush (F : Fn base env S) : Fn base.hush env S := ⟨F.sc, let ⟨o, L, hf, e⟩ := F.top; ⟨o, L, hf, e⟩⟩

/-- a name of the frame goes -/
theorem St.gone (S : St C base b env Γ ρ μ H s) {m' : Str → Option Value} (n' : s'.heap.Ns env.locals m') (hs : Heap.SameBut env.locals s.heap s'.heap) (hg : s'.gens = s.gens) (ho : s'.os = s.os) :
    St C base b env Γ [] μ H s' ∧ Ext env μ μ s.heap s'.heap := by
  have k : ∀ {a : Addr} {o : Obj}, s.heap.get? a = some o → ¬ (a = env.locals) → s'.heap.get? a = some o := fun e q => (hs.2 _ q).trans e
  exact S.but (.inr (.inl rfl)) S.lm S.noloc k (ns_lv n' k) hg ho fun _ => ⟨S.er.kind, ⟨m', n', fun _ _ e => by simp at e⟩, fun kx => let ⟨c, o, e, ⟨ob, eb, db⟩, _⟩ := S.er.cells kx; ⟨c, o, e, ⟨ob, k eb (S.er.cellne e), db⟩, fun _ e => by simp at e⟩,
    fun e => let ⟨o, ob, eb, db⟩ := S.er.cell e; ⟨o, ob, k eb (S.er.cellne e), db⟩, S.er.inj, S.er.globals, S.er.builtins⟩

theorem handle_as {c k i : Nat} {x nm : Str} {xp hpos : Pos} {b₀ : Stmt} {suite : List Stmt} {dh : AEnv → AHeap → SR} {u : Value} (hx : T.excs.lookup c = some x) (hg : isGlob S x = true) (hi : slot Γ nm = some i) (hl : kindIn S nm = some .local) (hh : SsOk C T.quiet n b Γ S (b₀ :: suite) dh)
    (G : Gnd C T base) (hS : Fn base env S) (st : St C base b env Γ ρ μ H s) (a : AOk base A n) (S1 : St C base b env Γ ρ μ1 H1 s1) (X1 : Ext env μ μ1 s.heap s1.heap) (ek : C.eo k) (x1 : XR (C.ea k) false u s.heap s1.heap) (hm : k = c ∨ c = 0)
    (q : FlowP C base b env Γ μ s (onlyRet (dh (ρ.set i (some (.exc k))) H1)) Q E) :
    wpAny (model C.prog C.w) A (noteFrame u env) (fun _ s₂ => wpAny (model C.prog C.w) A (setFlight u none) (fun _ s₃ => wpAny (model C.prog C.w) A (handleBy u env [.ExceptHandler (some (.Name x xp)) (some nm) (b₀ :: suite) hpos]) Q E s₃) E s₂) E s1 := by
  refine noted_ok hS.top a st S1 X1 x1 fun s2 S2 X2 x2 => flown_ok st S2 X2 x2 fun s3 S3 X3 x3 => ?_
  obtain ⟨y, hy⟩ := G.exg.eo.mp ek
  obtain ⟨Cd, tl, _, ed, XD, TD, et⟩ := G.exg.cls hy
  obtain ⟨Cc, tlc, em, ec, XC, TC, _⟩ := G.exg.cls hx
  have hin := mro_has G.exg hy hx ed ec et
  have ht : (decide (k = c) || decide (c = 0)) = true := by rcases hm with q | q <;> simp [q]
  rw [ht] at hin
  have kg : ∀ b o, base.g.get? b = some o → s3.heap.get? b = some o := fun _ _ => S3.kg
  have hk : env.kindOf nm = some .local := by rw [← hS.sc] at hl; exact hl
  obtain ⟨e, eu⟩ : ∃ e, u = .ref e := by cases x3 with
    | new a o vs e hp ho hn hc hd h1 => exact ⟨a, e⟩
    | on a o vs T' oT ts e => exact ⟨a, e⟩
  subst eu
  refine wpAny_handleBy_cons (codeAny_handlers_test (glob_ok G hS.sc S3 hg em ?_)) (by intro q; cases q)
  have go : ∀ {s : Shared} {Q : Bool → Shared → Prop} {E : Value → Shared → Prop} {h0 : Heap} {p : Bool}, (∀ b o, base.g.get? b = some o → s.heap.get? b = some o) → XR (C.ea k) p (.ref e) h0 s.heap → Q true s → wpAny (model C.prog C.w) (A.mark (some (.ref e))) (excMatches (.ref e) (.ref Cc)) Q E s := by
    intro s Q E h0 p kg x hQ
    obtain ⟨N, nm, q, bs, hdct, sn, sub, ab, col, dd, k0, k1, k2, k3, k5, mN, hC, hN, hq, hcl⟩ := XD.keeps kg
    obtain ⟨N', nm', q', bs', hdct', sn', sub', ab', col', dd', k0', k1', k2', k3', k5', mN', hC', hN', hq', hcl'⟩ := XC.keeps kg
    obtain ⟨h, g, dr, t, os⟩ := s
    have hbase : tlc.contains (.type "BaseException") = true := TC.tailQ.tail.hasType (F.excBase_ValueError.hasBase)
    cases x with
    | new a o vs e hp ho hn hc hd h1 => cases e; exact match_ok hC hC' ho (hc.trans ed) hbase hin hQ
    | on a o vs T' oT ts e ho hn hc => cases e; exact match_ok hC hC' ho (hc.trans ed) hbase hin hQ
  refine go kg x3 ?_
  refine codeAny_handlers_suite_as (flown_ok st S3 X3 x3 fun s4 S4 X4 x4 => ?_)
  have V : VR C μ1 s4.heap (.exc k) (.ref e) := by
    cases x4 with
    | new a o vs e hp => cases hp
    | on a o vs T' oT ts e ho hn hc hd => cases e; exact .exc ek ho (st.notZ hn) hc ⟨_, hd⟩
  refine S4.bind hi (.inl hk) V fun s5 S5 X5 => ?_
  refine hh.ok G.hush hS.hush (S5.re rfl rfl rfl) a.hush ?_
  cases ed : dh (ρ.set i (some (.exc k))) H1 with
  | ret v H2 =>
    rw [ed] at q
    intro w s6 μ6 X6 S6 V6
    obtain ⟨m, nn, _⟩ := S6.er.ns
    refine wpAny_nameGoes hk nn (by rw [S6.er.kind]; rfl) fun h' m' n' hs => ?_
    obtain ⟨S7, X7⟩ := (S6.re (B' := base) rfl rfl rfl).gone (s' := { s6 with heap := h', toks := s6.toks + 1 }) n' hs rfl rfl
    exact q w _ μ6 (((X4.trans X5).trans X6).trans X7) S7 (V6.mono S6.hp S6.er X7)
  | next ρ2 H2 => rw [ed] at q; exact q.elim
  | exc c2 H2 => rw [ed] at q; exact q.elim
  | bad => rw [ed] at q; exact q.elim

/-- what a handler makes of a raise -/
noncomputable def caught (c : Nat) (i : Option Nat) (dh : AEnv → AHeap → SR) (r : Bool) (ρ : AEnv) (d : Nat) (H : AHeap) : SR := if r = true ∧ (d = c ∨ c = 0) then (match i with | some j => onlyRet (dh (ρ.set j (some (.exc d))) H) | none => onlyRet (dh ρ H)) else .bad

theorem caught_no {c k : Nat} {i : Option Nat} {dh : AEnv → AHeap → SR} {ρ : AEnv} {H : AHeap} : caught c i dh false ρ k H = .bad := if_neg fun q => by cases q.1

/-- a handler's head -/
inductive HdR (T : Tab) (Γ : List Str) (S : Scope) (c : Nat) (i : Option Nat) (body : List Stmt) (h : ExceptHandler) : Prop
  | as (x nm : Str) (xp pos : Pos) (b₀ : Stmt) (ss : List Stmt) (j : Nat) (hx : T.excs.lookup c = some x) (hg : isGlob S x = true) (e : i = some j) (hj : slot Γ nm = some j) (hl : kindIn S nm = some .local) (eb : body = b₀ :: ss) (eh : h = .ExceptHandler (some (.Name x xp)) (some nm) body pos) : HdR T Γ S c i body h
theorem handle_ok {c k : Nat} {i : Option Nat} {body : List Stmt} {hd : ExceptHandler} {dh : AEnv → AHeap → SR} {u : Value} {r : Bool} (R : HdR T Γ S c i body hd) (hh : SsOk C T.quiet n b Γ S body dh)
    (G : Gnd C T base) (hS : Fn base env S) (st : St C base b env Γ ρ μ H s) (a : AOk base A n) (S1 : St C base b env Γ ρ μ1 H1 s1) (X1 : Ext env μ μ1 s.heap s1.heap) (ek : C.eo k) (x1 : XR (C.ea k) false u s.heap s1.heap)
    (q : FlowP C base b env Γ μ s (caught c i dh r ρ k H1) Q E) :
    wpAny (model C.prog C.w) A (noteFrame u env) (fun _ s₂ => wpAny (model C.prog C.w) A (setFlight u none) (fun _ s₃ => wpAny (model C.prog C.w) A (handleBy u env [hd]) Q E s₃) E s₂) E s1 := by
  unfold caught at q
  by_cases hm : r = true ∧ (k = c ∨ c = 0)
  · rw [if_pos hm] at q
    cases R with
    | as x nm xp pos b₀ ss j hx hg e hj hl eb eh =>
      subst e; subst eb; subst eh
      exact handle_as hx hg hj hl hh G hS st a S1 X1 ek x1 hm.2 q
  · rw [if_neg hm] at q; exact q.elim

theorem SOk.tryRet {v : Expr} {p1 pos : Pos} {c : Nat} {i : Option Nat} {body : List Stmt} {hd : ExceptHandler} {r : Bool} {d dh : AEnv → AHeap → SR} {d1 : AEnv → AHeap → Res AV} (R : HdR T Γ S c i body hd) (h : EvOk C T n b Γ S v d1) (hx : r = true → XOk C T n b Γ S v d1) (hh : SsOk C T.quiet n b Γ S body dh)
    (hd' : ∀ ρ H, d ρ H = (match d1 ρ H with | .ok v H => .ret v H | .exc k H => caught c i dh r ρ k H | .bad => .bad)) : SOk C T n b Γ S (.Try [.Return (some v) p1] [hd] [] [] pos) d := by
  refine ⟨?_⟩
  intro base env ρ μ H s A E Q G hS st a k
  rw [hd'] at k
  refine wpAny_Try_except (wpAny_execs_cons ?_)
  cases e : d1 ρ H with
  | ok w H1 =>
    rw [e] at k
    exact wpAny_Return_some (h.ok G hS.sc st a e fun u s' μ' X S' V => k u s' μ' X S'.forget V)
  | exc c1 H1 =>
    rw [e] at k
    cases r with
    | true => exact wpAny_Return_some ((hx rfl).ok G hS.sc st a e fun u s' μ' X S' ek x => handle_ok R hh G hS st a S' X ek x k)
    | false =>
      have k : FlowP C base b env Γ μ s (caught c i dh false ρ c1 H1) Q E := k
      rw [caught_no] at k; exact k.elim
  | bad => rw [e] at k; exact k.elim
end
end Mine

namespace Mine
open PySem PySem.Calls PyProof.Rows PySem.SeqAt

section
variable {C : Cx} {T : Tab} {n b : Nat} {Γ : List Str} {S : Scope} {nm : Bool} {J : Addr → Prop}
variable {base : Bs} {env : Env} {ρ : AEnv} {μ μ' : List Addr} {H H' : AHeap} {s s' : Shared} {A : Around} {E : Value → Shared → Prop} {Q : Flow → Shared → Prop}

theorem still_spec {r : Nat} {xs : List AV} (h : still H r xs = true) : H[r]? = some (.list xs) := by
  unfold still at h
  split at h
  · rename_i ys e
    rw [e]
    have : ys = xs := @of_decide_eq_true _ (Classical.propDecidable _) h
    rw [this]
  · cases h
theorem stills {ws : List (Nat × List AV)} (h : ws.all (fun w => still H w.1 w.2) = true) : ∀ w ∈ ws, H[w.1]? = some (.list w.2) := fun w hw => still_spec (List.all_eq_true.mp h w hw)

theorem St.stepJ (S1 : St (C.plus J) base b env Γ ρ μ H s) {h' : Heap} {tk : Nat} (kk : ∀ {a : Addr} {o : Obj}, ¬ J a → s.heap.get? a = some o → h'.get? a = some o) (off : ∀ {a : Addr}, J a → ¬ Own μ env a) (hJb : ∀ {a : Addr}, J a → base.get? a = none)
    (live : ∀ {a : Addr}, J a → ∃ o, h'.get? a = some o) : St (C.plus J) base b env Γ ρ μ H { s with heap := h', toks := tk } :=
  S1.mapZ J (z := (C.plus J).z) (s' := { s with heap := h', toks := tk }) kk off hJb (fun j => .inl (.inr j)) (fun _ nz => nz) (fun {a} z => by
    by_cases hj : J a
    · exact live hj
    · obtain ⟨o, e⟩ := S1.zl z; exact ⟨o, kk hj e⟩) rfl rfl

/-- out of the loop, its places are open again -/
theorem St.leaveJ (S1 : St (C.plus J) base b env Γ ρ μ H s) {h' : Heap} {tk : Nat} (kk : ∀ {a : Addr} {o : Obj}, ¬ J a → s.heap.get? a = some o → h'.get? a = some o) (off : ∀ {a : Addr}, J a → ¬ Own μ env a) (hJb : ∀ {a : Addr}, J a → base.get? a = none)
    (hzJ : ∀ {a : Addr}, C.z a → ¬ J a) : St C base b env Γ ρ μ H { s with heap := h', toks := tk } :=
  S1.mapZ J (z := C.z) (s' := { s with heap := h', toks := tk }) kk off hJb (fun j => .inl (.inr j)) (fun _ nz z => nz (.inl z)) (fun {a} z => by
    obtain ⟨o, e⟩ := S1.zl (a := a) (.inl z); exact ⟨o, kk (hzJ z) e⟩) rfl rfl
theorem St.openJ (S1 : St (C.plus J) base b env Γ ρ μ H s) : St C base b env Γ ρ μ H s :=
  S1.mapZ (fun _ => False) (z := C.z) (fun _ e => e) (fun j => j.elim) (fun j => j.elim) (fun j => j.elim) (fun _ nz z => nz (.inl z)) (fun {a} z => S1.zl (a := a) (.inl z)) rfl rfl
theorem VR.openJ {h : Heap} {v : AV} {u : Value} (q : VR (C.plus J) μ h v u) : VR C μ h v u := VR.mapZ (C := C.plus J) (z := C.z) List.prefix_rfl (fun e _ _ => e) (fun _ nz z => nz (.inl z)) q

theorem zJ {h : Heap} (S0 : St C base b env Γ ρ μ H s) (hJ0 : ∀ {a : Addr}, J a → s.heap.get? a = none) : ∀ {a : Addr}, C.z a → ¬ J a := fun z j => by
  obtain ⟨o, e⟩ := S0.zl z
  rw [hJ0 j] at e; cases e

theorem notSet_folded {e : Expr} (h : notSet e = true) : ∀ x, foldedSetIterable e env x = pure x := by
  intro x; cases e <;> first | rfl | cases h

theorem storeK {x : Str} (hS : env.scope = S) (hk : isStoreK S x = true) : env.kindOf x = some .local ∨ env.kindOf x = some .cell := by
  unfold isStoreK at hk; rw [← hS] at hk
  simpa [kindIn, Env.kindOf] using hk

/-- the turns' answers, one by one -/
theorem forL_step {ws : List (Nat × List AV)} {step : AV → AEnv → AHeap → SR} {v : AV} {l : List AV} : forL ws step (v :: l) ρ H = (match step v ρ H with
    | .next ρ' H' => if ws.all (fun w => still H' w.1 w.2) then forL ws step l ρ' H' else .bad
    | r => r) := rfl

/-- a turn's body -/
theorem turn_ok {body : List Stmt} {db : AEnv → AHeap → SR} (hb : ∀ z, SsOk (C.withZ z) T n b Γ S body db) {ws : List (Nat × List AV)} {step : AV → AEnv → AHeap → SR} {v : AV} {l : List AV} {ρ1 ρ2 : AEnv} {H1 : AHeap} {it : Value} {R : List AV → List Addr → Heap → Prop} {M : List AV → Value → List Addr → Heap → Prop}
    {μ1 : List Addr} {s2 : Shared} {Q' : Flow → Shared → Prop}
    (G : Gnd C T base) (hS : Fn base env S) (a : AOk base A n) {ρ0 : AEnv} {H0 : AHeap} (st0 : St C base b env Γ ρ0 μ H0 s) (W : Walk (C.plus J) base it J ws nm R M) (S2 : St (C.plus J) base b env Γ ρ2 μ1 H1 s2) (r2 : R l μ1 s2.heap) (X2 : Ext env μ μ1 s.heap s2.heap)
    (hstep : step v ρ1 H1 = db ρ2 H1) (k : FlowP C base b env Γ μ s (forL ws step (v :: l) ρ1 H1) Q E)
    (kn : ∀ s3 ρ3 μ3 H3, St (C.plus J) base b env Γ ρ3 μ3 H3 s3 → R l μ3 s3.heap → (∀ w ∈ ws, H3[w.1]? = some (.list w.2)) → Ext env μ μ3 s.heap s3.heap → FlowP C base b env Γ μ s (forL ws step l ρ3 H3) Q E → Q' .next s3)
    (kr : ∀ u s3, Q (.ret u) s3 → Q' (.ret u) s3) : wpAny (model C.prog C.w) A (execs body env) Q' (notedBy (model C.prog C.w) A env fun e s' => cameBackBy (model C.prog C.w) A env E e s') s2 := by
  rw [forL_step, hstep] at k
  refine (hb _).ok (C := C.plus J) G.toZ hS S2 a ?_
  cases e : db ρ2 H1 with
  | next ρ3 H3 =>
    rw [e] at k
    simp only at k
    split at k
    · rename_i hst
      exact fun s3 μ3 X3 S3 => kn s3 ρ3 μ3 H3 S3 (W.frameX S2 r2 X3) (stills hst) (X2.trans X3) k
    · exact k.elim
  | ret w H3 => rw [e] at k; exact fun u s3 μ3 X3 S3 V => kr u s3 (k u s3 μ3 (X2.trans X3) S3.openJ V.openJ)
  | exc c H3 => rw [e] at k; exact fun u s3 μ3 X3 S3 ek x => back_ok hS.top a st0 S3.openJ (X2.trans X3) (XR.back X2.live x) fun s4 S4 X4 x4 => k u s4 μ3 X4 S4 ek x4
  | bad => rw [e] at k; exact k.elim

/-- where a for stands -/
inductive FI (C C' : Cx) (base : Bs) (b : Nat) (env : Env) (Γ : List Str) (μ : List Addr) (s : Shared) (ws : List (Nat × List AV)) (R : List AV → List Addr → Heap → Prop) (step : AV → AEnv → AHeap → SR) (Q : Flow → Shared → Prop) (E : Value → Shared → Prop) (m : Nat) (s1 : Shared) : Prop
  | mk (l : List AV) (ρ1 : AEnv) (μ1 : List Addr) (H1 : AHeap) (hl : l.length = m) (S1 : St C' base b env Γ ρ1 μ1 H1 s1) (r1 : R l μ1 s1.heap) (hw : ∀ w ∈ ws, H1[w.1]? = some (.list w.2)) (X1 : Ext env μ μ1 s.heap s1.heap) (k1 : FlowP C base b env Γ μ s (forL ws step l ρ1 H1) Q E) : FI C C' base b env Γ μ s ws R step Q E m s1

theorem SOk.for1 {x : Str} {i : Nat} {iter : Expr} {body : List Stmt} {px pos : Pos} {d db : AEnv → AHeap → SR} {di : AEnv → AHeap → Res (List AV × List (Nat × List AV))} (hx : slot Γ x = some i) (hk : isStoreK S x = true) (hset : notSet iter = true)
    (hi : ItOk C T n b Γ S true iter di) (hb : ∀ z, SsOk (C.withZ z) T n b Γ S body db)
    (hd : ∀ ρ H, d ρ H = (match di ρ H with | .ok p H => forL p.2 (fun v ρ H => db (ρ.set i (some v)) H) p.1 ρ H | _ => .bad)) : SOk C T n b Γ S (.For (.Name x px) iter body [] pos) d := by
  refine ⟨?_⟩
  intro base env ρ μ H s A E Q G hS st a k
  rw [hd] at k
  cases e : di ρ H with
  | ok p H0 =>
    rw [e] at k
    refine wpAny_For (hi.ok G hS.sc st a e fun it s' μ' J R M X hJ0 hJb S' W r0 hw => ?_) (notSet_folded hset)
    refine codeAny_forLoop_any (FI C (C.plus J) base b env Γ μ s p.2 R (fun v ρ H => db (ρ.set i (some v)) H) Q E) ?_ p.1.length ⟨p.1, ρ, μ', H0, rfl, S', r0, hw, X, k⟩
    rintro m s1 ⟨l, ρ1, μ1, H1, rfl, S1, r1, hw1, X1, k1⟩
    cases l with
    | nil =>
      refine W.done S1 a (fun j => .inr j) hw1 r1 fun h' tk kk => ?_
      exact wpAny_execs_nil (k1 _ μ1 (X1.but hJ0 kk) (S1.leaveJ kk (W.off S1 r1) hJb (zJ (h := s.heap) st hJ0)))
    | cons v l =>
      refine W.item S1 a (fun j => .inr j) hw1 r1 fun u h' tk kk V m => ?_
      refine wpAny_pure ?_
      have S2 := S1.stepJ (tk := tk) kk (W.off S1 r1) hJb (W.liveM m)
      have X2 : Ext env μ μ1 s.heap h' := X1.but hJ0 kk
      refine wpAny_assign_Name (S2.bind hx (storeK hS.sc hk) V fun s3 S3 X3 => ?_)
      refine turn_ok hb G hS a st W S3 (W.frameX S2 (W.plain rfl m) X3) (X2.trans X3) rfl k1 (fun s4 ρ4 μ4 H4 S4 r4 hw4 X4 k4 => ?_) (fun u s3 q => q)
      exact ⟨l.length, Nat.lt_succ_self _, ⟨l, ρ4, μ4, H4, rfl, S4, r4, hw4, X4, k4⟩⟩
  | exc c H0 => rw [e] at k; exact k.elim
  | bad => rw [e] at k; exact k.elim

/-- two names at once -/
theorem assign2_ok {M : Model} {x y : Str} {i j : Nat} {px py tp : Pos} {x1 : Nat} {t : Addr} {p q : Value} {v w : AV} {Q : Unit → Shared → Prop} (hq : base.q = false) (hS : env.scope = S) (a : AOk base A n) (st : St C base b env Γ ρ μ H s) (hx : slot Γ x = some i) (hkx : isStoreK S x = true) (hy : slot Γ y = some j) (hky : isStoreK S y = true)
    (ht : s.heap.IsTuple t #[p, q]) (V : VR C μ s.heap v p) (W : VR C μ s.heap w q)
    (k : ∀ s', St C base b env Γ ((ρ.set i (some v)).set j (some w)) μ H s' → Ext env μ μ s.heap s'.heap → Q () s') : wpAny (model C.prog C.w) A (assign (.Tuple [.Name x px, .Name y py] x1 tp) env (.ref t)) Q E s := by
  refine wpAny_assign_Tuple (a.handled hq) ht rfl rfl fun h' he => ?_
  have kk : ∀ {a : Addr} {o : Obj}, s.heap.get? a = some o → h'.get? a = some o := fun {a o} e => he _ _ (fun e' => by rw [e', none_size] at e; cases e) e
  have S1 := st.grow (s' := { s with heap := h' }) kk rfl rfl
  refine wpAny_assignInOrder_more (wpAny_assign_Name (S1.bind hx (storeK hS hkx) (V.keeps kk) fun s2 S2 X2 => ?_))
  have W2 : VR C μ s2.heap w q := (W.keeps kk).mono S1.hp S1.er X2
  refine wpAny_assignInOrder_more (wpAny_assign_Name (S2.bind hy (storeK hS hky) W2 fun s3 S3 X3 => wpAny_assignInOrder_none (k s3 S3 ((Ext.grow kk).trans (X2.trans X3)))))

theorem SOk.for2 (hq : T.q = false) {x y : Str} {i j : Nat} {iter : Expr} {body : List Stmt} {px py tp pos : Pos} {x1 : Nat} {d db : AEnv → AHeap → SR} {di : AEnv → AHeap → Res (List AV × List (Nat × List AV))} (hx : slot Γ x = some i) (hk : isStoreK S x = true) (hy : slot Γ y = some j) (hky : isStoreK S y = true) (hset : notSet iter = true)
    (hi : ItOk C T n b Γ S nm iter di) (hb : ∀ z, SsOk (C.withZ z) T n b Γ S body db)
    (hd : ∀ ρ H, d ρ H = (match di ρ H with | .ok p H => forL p.2 (fun v ρ H => pairS (fun x y => db ((ρ.set i (some x)).set j (some y)) H) v) p.1 ρ H | _ => .bad)) : SOk C T n b Γ S (.For (.Tuple [.Name x px, .Name y py] x1 tp) iter body [] pos) d := by
  refine ⟨?_⟩
  intro base env ρ μ H s A E Q G hS st a k
  rw [hd] at k
  cases e : di ρ H with
  | ok p H0 =>
    rw [e] at k
    refine wpAny_For (hi.ok G hS.sc st a e fun it s' μ' J R M X hJ0 hJb S' W r0 hw => ?_) (notSet_folded hset)
    refine codeAny_forLoop_any (FI C (C.plus J) base b env Γ μ s p.2 R (fun v ρ H => pairS (fun x y => db ((ρ.set i (some x)).set j (some y)) H) v) Q E) ?_ p.1.length ⟨p.1, ρ, μ', H0, rfl, S', r0, hw, X, k⟩
    rintro m s1 ⟨l, ρ1, μ1, H1, rfl, S1, r1, hw1, X1, k1⟩
    cases l with
    | nil =>
      refine W.done S1 a (fun j => .inr j) hw1 r1 fun h' tk kk => ?_
      exact wpAny_execs_nil (k1 _ μ1 (X1.but hJ0 kk) (S1.leaveJ kk (W.off S1 r1) hJb (zJ (h := s.heap) st hJ0)))
    | cons v l =>
      have hv : ∃ v1 v2, v = .tup [v1, v2] := by
        rw [forL_step] at k1
        by_cases hp : ∃ v1 v2, v = .tup [v1, v2]
        · exact hp
        · have : pairS (fun x y => db ((ρ1.set i (some x)).set j (some y)) H1) v = .bad := by
            unfold pairS
            split
            · exact absurd ⟨_, _, rfl⟩ hp
            · rfl
          rw [this] at k1
          exact k1.elim
      obtain ⟨v1, v2, rfl⟩ := hv
      refine W.item S1 a (fun j => .inr j) hw1 r1 fun u h' tk kk V m => ?_
      obtain ⟨t, p1, p2, rfl, ht, V1, V2⟩ := pairOf V
      refine W.own (s := { s1 with heap := h', toks := tk }) m fun h'' kk' r2 => ?_
      have kk2 : ∀ {a : Addr} {o : Obj}, ¬ J a → s1.heap.get? a = some o → h''.get? a = some o := fun nj e => kk' nj (kk nj e)
      have S2 := S1.stepJ (tk := tk) kk2 (W.off S1 r1) hJb (W.live r2)
      have X2 : Ext env μ μ1 s.heap h'' := X1.but hJ0 kk2
      have V' : VR (C.plus J) μ1 h'' (.tup [v1, v2]) (.ref t) := VR.butJ (C := C.plus J) (J := J) (fun j => .inr j) kk' V
      obtain ⟨t', q1, q2, et, ht', W1, W2⟩ := pairOf V'
      cases et
      refine assign2_ok (M := model C.prog C.w) (C := C.plus J) (G.q.trans hq) hS.sc a S2 hx hk hy hky ht' W1 W2 fun s3 S3 X3 => ?_
      refine turn_ok hb G hS a st W S3 (W.frameX S2 r2 X3) (X2.trans X3) rfl k1 (fun s4 ρ4 μ4 H4 S4 r4 hw4 X4 k4 => ?_) (fun u s3 q => q)
      exact ⟨l.length, Nat.lt_succ_self _, ⟨l, ρ4, μ4, H4, rfl, S4, r4, hw4, X4, k4⟩⟩
  | exc c H0 => rw [e] at k; exact k.elim
  | bad => rw [e] at k; exact k.elim
end
end Mine

namespace Mine
open PySem PySem.Calls PyProof.Rows PySem.SeqAt

section
variable {C : Cx} {T : Tab} {n b : Nat} {Γ : List Str} {S : Scope} {nm : Bool}
variable {base : Bs} {env : Env} {ρ : AEnv} {μ μ' : List Addr} {H H' : AHeap} {s s' : Shared} {A : Around} {E : Value → Shared → Prop} {Q : Flow → Shared → Prop}

/-- names one by one -/
theorem names_ok (hS : env.scope = S) (a : AOk base A n) : ∀ (is : List Nat) (ts : List Expr) (vs : List AV) (us : List Value) {ρ ρ' : AEnv} {μ : List Addr} {s : Shared} {Q : Unit → Shared → Prop}, chkIdx Γ S is ts = true → St C base b env Γ ρ μ H s → VRs C μ s.heap vs us → setVars is vs ρ = some ρ' →
    (∀ s', St C base b env Γ ρ' μ H s' → Ext env μ μ s.heap s'.heap → Q () s') → wpAny (model C.prog C.w) A (assignInOrder ((assignEach ts env).map (·.2)) us) Q E s
  | [], ts, vs, us, ρ, ρ', μ, s, Q, hc, st, V, e, k => by
    unfold chkIdx at hc
    split at hc
    · cases V with
      | nil => cases Option.some.inj e; exact wpAny_assignInOrder_none (k _ st .refl)
      | cons _ _ => cases e
    · cases hc
  | i :: is, ts, vs, us, ρ, ρ', μ, s, Q, hc, st, V, e, k => by
    unfold chkIdx at hc
    split at hc
    · rename_i x px r
      simp only [Bool.and_eq_true, beq_iff_eq] at hc
      cases V with
      | nil => cases e
      | cons V1 V2 =>
        show wpAny _ _ (assignInOrder ((assign (.Name x px) env) :: ((assignEach r env).map (·.2))) (_ :: _)) Q E s
        refine wpAny_assignInOrder_more (wpAny_assign_Name (st.bind hc.1.1 (storeK hS hc.1.2) V1 fun s2 S2 X2 => ?_))
        exact names_ok hS a is r _ _ hc.2 S2 (V2.mono st.hp st.er X2) e fun s3 S3 X3 => k s3 S3 (X2.trans X3)
    · cases hc
theorem chkIdx_each : ∀ {is : List Nat} {ts : List Expr}, chkIdx Γ S is ts = true → (assignEach ts env).length = is.length ∧ (assignEach ts env).findIdx? (·.1) = none
  | [], ts, hc => by
    unfold chkIdx at hc
    split at hc
    · exact ⟨rfl, rfl⟩
    · cases hc
  | i :: is, ts, hc => by
    unfold chkIdx at hc
    split at hc
    · rename_i x px r
      simp only [Bool.and_eq_true, beq_iff_eq] at hc
      obtain ⟨h1, h2⟩ := chkIdx_each hc.2
      refine ⟨by show (_ :: assignEach r env).length = _; simp [h1], ?_⟩
      show List.findIdx? (·.1) ((false, _) :: assignEach r env) = none
      rw [List.findIdx?_cons, h2]; rfl
    · cases hc
theorem setVars_len : ∀ {is : List Nat} {vs : List AV} {ρ ρ' : AEnv}, setVars is vs ρ = some ρ' → vs.length = is.length
  | [], [], _, _, _ => rfl
  | [], _ :: _, _, _, e => by cases e
  | _ :: _, [], _, _, e => by cases e
  | i :: is, v :: vs, _, _, e => congrArg (· + 1) (setVars_len (is := is) (vs := vs) e)

theorem SOk.assignT (hq : T.q = false) {is : List Nat} {ts : List Expr} {x1 : Nat} {v : Expr} {tp pos : Pos} {d : AEnv → AHeap → SR} {d1 : AEnv → AHeap → Res AV} (hc : chkIdx Γ S is ts = true) (hv : notTupComp v = true) (h : EvOk C T n b Γ S v d1)
    (hd : ∀ ρ H, d ρ H = (match d1 ρ H with
      | .ok v H => (match v with
        | .tup vs => (match setVars is vs ρ with | some ρ' => .next ρ' H | none => .bad)
        | _ => .bad)
      | _ => .bad)) : SOk C T n b Γ S (.Assign [.Tuple ts x1 tp] v pos) d := by
  refine ⟨?_⟩
  intro base env ρ μ H s A E Q G hS st a k
  rw [hd] at k
  split at k
  · rename_i w H1 e
    split at k
    · rename_i vs
      split at k
      · rename_i ρ' eρ
        refine wpAny_Assign_stores (h.ok G hS.sc st a e fun u s1 μ1 X1 S1 V1 => ?_) ?_ ?_
        · cases V1 with
          | tup t nz l q =>
            rename_i t' items
            obtain ⟨h1, h2⟩ := chkIdx_each (env := env) hc
            show wpAny _ _ (assign (.Tuple ts x1 tp) env (.ref t')) _ _ _
            refine wpAny_assign_Tuple (a.handled (G.q.trans hq)) t (by rw [h1, List.size_toArray, ← q.length, setVars_len eρ]) h2 fun h' he => ?_
            have kk : ∀ {a : Addr} {o : Obj}, s1.heap.get? a = some o → h'.get? a = some o := fun {a o} e => he _ _ (fun e' => by rw [e', none_size] at e; cases e) e
            refine names_ok hS.sc a is ts vs items hc (S1.grow (s' := { s1 with heap := h' }) kk rfl rfl) (q.keeps kk) eρ fun s2 S2 X2 => ?_
            exact k s2 μ1 ((X1.trans (Ext.grow kk)).trans X2) S2
        · cases v <;> first | rfl | cases hv
        · cases v <;> first | rfl | cases hv
      · exact k.elim
    · exact k.elim
  · exact k.elim

end
end Mine

namespace Mine
open PySem PySem.Calls PyProof.Rows PySem.SeqAt

section
variable {C : Cx} {T : Tab} {n b : Nat} {Γ : List Str} {S : Scope} {nm : Bool} {J : Addr → Prop}
variable {base : Bs} {env cenv : Env} {ρ : AEnv} {μ μ' : List Addr} {H H' : AHeap} {s s' : Shared} {A : Around} {E : Value → Shared → Prop} {Q : Flow → Shared → Prop}

theorem plain_notTuple {h : Heap} {D : Addr} {its : Array Value} (p : h.PlainList D its) {ts : Array Value} : ¬ h.IsTuple D ts := by
  obtain ⟨n, p⟩ := p
  rintro ⟨o, ho, hc, _⟩
  rw [p] at ho; cases ho; simp at hc
theorem plain_notFields {h : Heap} {D : Addr} {its : Array Value} (p : h.PlainList D its) {o : Obj} {vs : Array Value} (e : h.get? D = some o) : o.data ≠ .fields vs := by
  obtain ⟨n, p⟩ := p
  rw [p] at e; cases e; intro e; cases e
theorem ns_notTuple {h : Heap} {D : Addr} {m : Str → Option Value} (p : h.Ns D m) {ts : Array Value} : ¬ h.IsTuple D ts := by
  obtain ⟨o', es, ep, ho', hd, _⟩ := p
  rintro ⟨o, ho, _, _, hd'⟩
  rw [ho'] at ho; cases ho; rw [hd] at hd'; cases hd'
theorem ns_notFields {h : Heap} {D : Addr} {m : Str → Option Value} (p : h.Ns D m) {o : Obj} {vs : Array Value} (e : h.get? D = some o) : o.data ≠ .fields vs := by
  obtain ⟨o', es, ep, ho', hd, _⟩ := p
  rw [ho'] at e; cases e; rw [hd]; intro e; cases e

/-- one object that is no value's turns -/
theorem St.other (S : St C base b env Γ ρ μ H s) {D : Addr} {h' : Heap} {tk : Nat} (ht : ∀ {ts : Array Value}, ¬ s.heap.IsTuple D ts) (hf : ∀ {o : Obj} {vs : Array Value}, s.heap.get? D = some o → o.data ≠ .fields vs)
    (hO : ¬ Own μ env D) (hb : base.get? D = none) (hs : Heap.SameBut D s.heap h') (hl : C.z D → ∃ o, h'.get? D = some o) (hfd : D ∉ base.fs.filterMap (·.frame)) : St C base b env Γ ρ μ H { s with heap := h', toks := tk } := by
  have st : ∀ {c : Addr} {o : Obj}, s.heap.get? c = some o → ¬ (c = D) → h'.get? c = some o := fun e n => (hs.2 _ n).trans e
  have ht' : ∀ {c : Addr} {items : Array Value}, s.heap.IsTuple c items → ¬ (c = D) := fun t e => by subst e; exact ht t
  have hf' : ∀ {c : Addr} {o : Obj} {vs : Array Value}, s.heap.get? c = some o → o.data = .fields vs → ¬ (c = D) := fun e d e' => by subst e'; exact hf e d
  have mono : ∀ {x : AV} {v : Value}, VR C μ s.heap x v → VR C μ h' x v := fun q => VR.mono' (P := (· = D)) List.prefix_rfl (fun e n => .same (st e n)) ht' hf' q
  have monos : ∀ {x : List AV} {v : List Value}, VRs C μ s.heap x v → VRs C μ h' x v := fun q => VRs.mono' (P := (· = D)) List.prefix_rfl (fun e n => .same (st e n)) ht' hf' q
  have ff : FF C.z h' base.g base.fs := FF.but st S.ff hfd
  refine ⟨?_, ⟨S.hp.len, S.hp.nd, ?_, ?_⟩, S.er.mono ?_ ?_ mono, S.fresh, S.noloc, S.lm, S.nocell, S.gens, S.os, ?_, ff⟩
  · intro c o e
    exact (S.keep c o e).map id fun e1 => st e1 fun e' => by subst e'; rw [hb] at e; cases e
  · intro i xs e
    obtain ⟨l, c, ws, e', ⟨n, p⟩, q⟩ := S.hp.list e
    exact ⟨l, c, ws, e', ⟨n, st p fun e'' => hO (.inl (e'' ▸ get_mem e'))⟩, monos q⟩
  · intro i e
    obtain ⟨c, n, e', p⟩ := S.hp.dict e
    exact ⟨c, n, e', st p fun e'' => hO (.inl (e'' ▸ get_mem e'))⟩
  · intro m n
    exact n.at fun o e => st e fun e' => hO (.inr (.inl e'.symm))
  · intro x c o e1 e2
    exact st e2 fun e' => hO (.inr (.inr ⟨x, e' ▸ e1⟩))
  · intro a z
    obtain ⟨o, e⟩ := S.zl z
    by_cases hc : a = D
    · subst hc; exact hl z
    · exact ⟨o, st e hc⟩
theorem VRs.other {h h' : Heap} {D : Addr} (ht : ∀ {ts : Array Value}, ¬ h.IsTuple D ts) (hf : ∀ {o : Obj} {vs : Array Value}, h.get? D = some o → o.data ≠ .fields vs) (hs : Heap.SameBut D h h') {x : List AV} {v : List Value} (q : VRs C μ h x v) : VRs C μ h' x v :=
  VRs.mono' (P := (· = D)) List.prefix_rfl (fun e n => .same ((hs.2 _ n).trans e)) (fun t e => by subst e; exact ht t) (fun e d e' => by subst e'; exact hf e d) q
theorem VR.other {h h' : Heap} {D : Addr} (ht : ∀ {ts : Array Value}, ¬ h.IsTuple D ts) (hf : ∀ {o : Obj} {vs : Array Value}, h.get? D = some o → o.data ≠ .fields vs) (hs : Heap.SameBut D h h') {x : AV} {v : Value} (q : VR C μ h x v) : VR C μ h' x v :=
  VR.mono' (P := (· = D)) List.prefix_rfl (fun e n => .same ((hs.2 _ n).trans e)) (fun t e => by subst e; exact ht t) (fun e d e' => by subst e'; exact hf e d) q

/-- a frame within a frame -/
structure Nest (env cenv : Env) (xs : List Str) (h : Heap) : Prop where
  newL : h.get? cenv.locals = none
  cells : ∀ {y : Str} {c : Addr}, cenv.cells.lookup y = some c → h.get? c = none ∨ (env.cells.lookup y = some c ∧ (cenv.kindOf y = some .cell ∨ cenv.kindOf y = some .free) ∧ y ∉ xs)

theorem slot_app {xs Γ : List Str} {y : Str} : slot (xs ++ Γ) y = (slot xs y).or ((slot Γ y).map (· + xs.length)) := by
  unfold slot; rw [List.findIdx?_append]
theorem slot_notin {xs : List Str} {y : Str} (hy : y ∉ xs) : slot xs y = none := by
  unfold slot; rw [List.findIdx?_eq_none_iff]
  intro x hx
  cases e : x == y with
  | false => rfl
  | true => exact absurd (eq_of_beq e ▸ hx) hy
theorem slot_in {xs : List Str} {y : Str} (hy : y ∈ xs) : ∃ j, slot xs y = some j ∧ j < xs.length := by
  unfold slot
  cases e : List.findIdx? (fun x => x == y) xs with
  | none => rw [List.findIdx?_eq_none_iff] at e; have := e y hy; simp at this
  | some j => rw [List.findIdx?_eq_some_iff_getElem] at e; exact ⟨j, rfl, e.1⟩
theorem slot_skip {xs Γ : List Str} {y : Str} (hy : y ∉ xs) : slot (xs ++ Γ) y = (slot Γ y).map (· + xs.length) := by
  rw [slot_app, slot_notin hy]; simp

/-- as Ext, but for what lies at J -/
structure ExtJ (J : Addr → Prop) (env : Env) (μ μ' : List Addr) (h h' : Heap) : Prop where
  pre : μ <+: μ'
  stay : ∀ {a : Addr} {o : Obj}, h.get? a = some o → ¬ Own μ env a → ¬ J a → Kp True a o h'
  new : ∀ {a : Addr}, a ∈ μ' → a ∉ μ → h.get? a = none
  live : ∀ {a : Addr} {o : Obj}, h.get? a = some o → ¬ J a → ∃ o', h'.get? a = some o' ∧ (DT o → DT o')
theorem ExtJ.grow {h h' : Heap} (k : ∀ {a : Addr} {o : Obj}, h.get? a = some o → h'.get? a = some o) : ExtJ J env μ μ h h' := ⟨List.prefix_rfl, fun e _ _ => .same (k e), fun p q => absurd p q, fun e _ => ⟨_, k e, id⟩⟩
theorem ExtJ.trans {h h' h'' : Heap} {μ'' : List Addr} (off : ∀ {a : Addr}, J a → a ∉ μ'') (x : ExtJ J env μ μ' h h') (y : Ext env μ' μ'' h' h'') : ExtJ J env μ μ'' h h'' := by
  refine ⟨x.pre.trans y.pre, fun {a o} e ho nj => (x.stay e ho nj).trans fun e' => y.stay e' ?_, fun {a} hm hn => ?_, fun e nj => let ⟨_, e', d⟩ := x.live e nj; let ⟨o, e2, d2⟩ := y.live.go e'; ⟨o, e2, fun q => d2 (d q)⟩⟩
  · rintro (q | q | q)
    · by_cases hq : a ∈ μ
      · exact ho (.inl hq)
      · rw [x.new q hq] at e; cases e
    · exact ho (.inr (.inl q))
    · exact ho (.inr (.inr q))
  · by_cases hq : a ∈ μ'
    · exact x.new hq hn
    · cases e : h.get? a with
      | none => rfl
      | some o =>
        by_cases hj : J a
        · exact absurd hm (off hj)
        · obtain ⟨o', e', _⟩ := x.live e hj; rw [y.new hm hq] at e'; cases e'
theorem ExtJ.step {h h' h'' : Heap} (x : ExtJ J env μ μ' h h') (k : ∀ {a : Addr} {o : Obj}, ¬ J a → h'.get? a = some o → h''.get? a = some o) : ExtJ J env μ μ' h h'' :=
  ⟨x.pre, fun e ho nj => (x.stay e ho nj).map id (k nj), x.new, fun e nj => let ⟨o, e', d⟩ := x.live e nj; ⟨o, k nj e', d⟩⟩
theorem ExtJ.after {h0 h h' : Heap} {μ0 : List Addr} (x : Ext env μ0 μ h0 h) (y : ExtJ J env μ μ' h h') (hJ : ∀ {a : Addr}, J a → h0.get? a = none) : Ext env μ0 μ' h0 h' := by
  have nj : ∀ {a : Addr} {o : Obj}, h0.get? a = some o → ¬ J a := fun e j => by rw [hJ j] at e; cases e
  refine ⟨x.pre.trans y.pre, fun {a o} e ho => (x.stay e ho).trans fun e' => y.stay e' ?_ (nj e), fun {a} hm hn => ?_, ⟨fun e => let ⟨_, e', d⟩ := x.live.go e; let ⟨o, e2, d2⟩ := y.live e' (nj e); ⟨o, e2, fun q => d2 (d q)⟩⟩⟩
  · rintro (q | q | q)
    · by_cases hq : a ∈ μ0
      · exact ho (.inl hq)
      · rw [x.new q hq] at e; cases e
    · exact ho (.inr (.inl q))
    · exact ho (.inr (.inr q))
  · by_cases hq : a ∈ μ
    · exact x.new hq hn
    · cases e : h0.get? a with
      | none => rfl
      | some o => obtain ⟨o', e', _⟩ := x.live.go e; rw [y.new hm hq] at e'; cases e'

theorem St.leave {xs : List Str} {vals : AEnv} (S0 : St C base b env Γ ρ μ H s) (N : Nest env cenv xs s.heap) (hv : vals.length = xs.length) (S1 : St C base b cenv (xs ++ Γ) (vals ++ ρ) μ' H' s') (X : ExtJ J cenv μ μ' s.heap s'.heap)
    (hJz : ∀ {a : Addr}, J a → C.z a) (hJo : ∀ {a : Addr}, J a → ¬ Own μ env a) : St C base b env Γ ρ μ' H' s' ∧ ExtJ J env μ μ' s.heap s'.heap := by
  have own : ∀ {a : Addr} {o : Obj}, s.heap.get? a = some o → ¬ Own μ env a → ¬ Own μ cenv a := by
    rintro a o e hn (q | q | ⟨y, q⟩)
    · exact hn (.inl q)
    · subst q; rw [N.newL] at e; cases e
    · rcases N.cells q with q' | ⟨q', _⟩
      · rw [q'] at e; cases e
      · exact hn (.inr (.inr ⟨y, q'⟩))
  have X' : ExtJ J env μ μ' s.heap s'.heap := ⟨X.pre, fun e hn nj => X.stay e (own e hn) nj, X.new, X.live⟩
  have mono : ∀ {x : AV} {v : Value}, VR C μ s.heap x v → VR C μ' s'.heap x v := fun q => VR.mapZ (z := C.z) X.pre (fun e nz k => by
    rcases k with ⟨its, t⟩ | ⟨vs, d⟩
    · exact (X'.stay e (notOwn_tuple S0.hp S0.er t) fun j => nz (hJz j)).ex (tuple_nd t e)
    · exact (X'.stay e (notOwn_fields S0.hp S0.er e d) fun j => nz (hJz j)).ex fun _ _ q => by rw [d] at q; cases q) (fun _ nz => nz) q
  obtain ⟨m, nn, q⟩ := S0.er.ns
  have hL : ∀ {o : Obj}, s.heap.get? env.locals = some o → Kp True env.locals o s'.heap := fun {o} e => by
    refine X.stay e ?_ (fun j => hJo j (.inr (.inl rfl)))
    rintro (q | q | ⟨y, q⟩)
    · exact S0.lm q
    · rw [q, N.newL] at e; cases e
    · rcases N.cells q with q' | ⟨q', _⟩
      · rw [q'] at e; cases e
      · obtain ⟨_, o1, h1, d1⟩ := S0.er.cell q'
        obtain ⟨o2, _, _, h2, d2, _⟩ := nn
        rw [h1] at h2; cases h2; rw [d1] at d2; cases d2
  have hc : ∀ {y : Str} {c : Addr} {o : Obj}, env.cells.lookup y = some c → cenv.cells.lookup y ≠ some c → s.heap.get? c = some o → s'.heap.get? c = some o := fun {y c o} e1 ne e => by
    refine (X.stay e ?_ (fun j => hJo j (.inr (.inr ⟨y, e1⟩)))).ex (by obtain ⟨_, o1, h1, d1⟩ := S0.er.cell e1; rw [e] at h1; cases h1; intro _ _ q; rw [d1] at q; cases q)
    rintro (q | q | ⟨z, q⟩)
    · obtain ⟨_, o1, h1, d1⟩ := S0.er.cell e1
      obtain ⟨i, hi⟩ := mem_get q
      obtain ⟨ob, eb⟩ := S0.hp.get hi
      cases ob with
      | list xs => obtain ⟨_, a', _, ea, ⟨_, p⟩, _⟩ := S0.hp.list eb; rw [hi] at ea; cases ea; rw [p] at h1; cases h1; cases d1
      | dict => obtain ⟨a', _, ea, p⟩ := S0.hp.dict eb; rw [hi] at ea; cases ea; rw [p] at h1; cases h1; cases d1
    · rw [q] at e; rw [N.newL] at e; cases e
    · rcases N.cells q with q' | ⟨q', _⟩
      · rw [q'] at e; cases e
      · have := S0.er.inj q' e1; subst this; exact ne q
  refine ⟨⟨S1.keep, S1.hp, ⟨S0.er.kind, ⟨m, Kp.ns nn hL, fun e1 e2 e3 => let ⟨u, e4, v⟩ := q e1 e2 e3; ⟨u, e4, mono v⟩⟩, ?_, ?_, S0.er.inj, S0.er.globals, S0.er.builtins⟩, S1.fresh, S0.noloc, ?_, S0.nocell, S1.gens, S1.os, S1.zl, S1.ff⟩, X'⟩
  · intro y ky
    obtain ⟨c, o, e, hcell, qv⟩ := S0.er.cells ky
    by_cases hin : cenv.cells.lookup y = some c
    · obtain ⟨ob, eb, _⟩ := id hcell
      rcases N.cells hin with q' | ⟨_, kc, hy⟩
      · rw [q'] at eb; cases eb
      · obtain ⟨c2, o2, e2, hcell2, qv2⟩ := S1.er.cells kc
        rw [hin] at e2; cases e2
        refine ⟨c, o2, e, hcell2, fun {i v} e1 e3 => qv2 (i := i + xs.length) (v := v) (by rw [slot_skip hy, e1]; rfl) ?_⟩
        rw [List.getElem?_append_right (by (first | lia | omega)), hv, Nat.add_sub_cancel]; exact e3
    · obtain ⟨ob, eb, db⟩ := hcell
      exact ⟨c, o, e, ⟨ob, hc e hin eb, db⟩, fun e1 e2 => let ⟨u, e3, v⟩ := qv e1 e2; ⟨u, e3, mono v⟩⟩
  · intro y c e
    by_cases hin : cenv.cells.lookup y = some c
    · exact S1.er.cell hin
    · obtain ⟨o, ob, eb, db⟩ := S0.er.cell e
      exact ⟨o, ob, hc e hin eb, db⟩
  · intro q
    by_cases hq : env.locals ∈ μ
    · exact S0.lm hq
    · obtain ⟨o, _, _, ho, _⟩ := nn
      rw [X.new q hq] at ho; cases ho
end

/-! the closure of a comprehension -/
noncomputable def closL (env : Env) : List (Str × NameKind) → List (Str × Addr) → List (Str × Addr)
  | [], acc => acc
  | (x, k) :: r, acc => if k == .free then closL env r ((x, (env.cells.lookup x).getD 0) :: acc) else closL env r acc

theorem closL_forIn {env : Env} (f : Str × NameKind → List (Str × Addr) → Sem (ForInStep (List (Str × Addr))))
    (hf : ∀ x k cs, f (x, k) cs = if k == .free then (do let a ← cellOf env x; pure (.yield ((x, a) :: cs))) else pure (.yield cs)) :
    ∀ (names : List (Str × NameKind)) (acc : List (Str × Addr)), (∀ p ∈ names, p.2 = .free → ∃ c, env.cells.lookup p.1 = some c) → forIn names acc f = pure (closL env names acc)
  | [], acc, _ => by rw [List.forIn_nil]; rfl
  | (x, k) :: r, acc, h => by
    rw [List.forIn_cons, hf]
    unfold closL
    by_cases hk : (k == .free) = true
    · rw [if_pos hk, if_pos hk]
      obtain ⟨c, hc⟩ := h (x, k) List.mem_cons_self (eq_of_beq hk)
      have : cellOf env x = pure c := by unfold cellOf; rw [hc]
      rw [this, hc, pure_bind, pure_bind]
      exact closL_forIn f hf r _ fun p hp => h p (List.mem_cons_of_mem _ hp)
    · rw [if_neg hk, if_neg hk, pure_bind]
      exact closL_forIn f hf r _ fun p hp => h p (List.mem_cons_of_mem _ hp)
theorem closureFor_eq {env : Env} {scope : Scope} (h : ∀ p ∈ scope.names, p.2 = .free → ∃ c, env.cells.lookup p.1 = some c) : closureFor scope env = pure (closL env scope.names []) := by
  simp only [closureFor]
  rw [closL_forIn _ (fun x k cs => by cases hk : k == NameKind.free <;> simp [hk]) scope.names [] h]
  rfl

theorem closL_lookup {env : Env} : ∀ (names : List (Str × NameKind)) (acc : List (Str × Addr)) {y : Str} {c : Addr}, (closL env names acc).lookup y = some c →
    ((y, .free) ∈ names ∧ (env.cells.lookup y).getD 0 = c) ∨ acc.lookup y = some c
  | [], acc, y, c, h => .inr h
  | (x, k) :: r, acc, y, c, h => by
    unfold closL at h
    split at h
    · rename_i hk
      have hk' : k = .free := eq_of_beq hk
      subst hk'
      rcases closL_lookup r _ h with ⟨q, e⟩ | q
      · exact .inl ⟨List.mem_cons_of_mem _ q, e⟩
      · rw [List.lookup_cons] at q
        cases e : y == x with
        | true => rw [e] at q; cases q; rw [eq_of_beq e]; exact .inl ⟨List.mem_cons_self, rfl⟩
        | false => rw [e] at q; exact .inr q
    · rcases closL_lookup r _ h with ⟨q, e⟩ | q
      · exact .inl ⟨List.mem_cons_of_mem _ q, e⟩
      · exact .inr q
theorem closL_some {env : Env} : ∀ (names : List (Str × NameKind)) (acc : List (Str × Addr)) {y : Str}, (y, .free) ∈ names ∨ (∃ c, acc.lookup y = some c) → ∃ c, (closL env names acc).lookup y = some c
  | [], acc, y, h => by
    rcases h with h | h
    · cases h
    · exact h
  | (x, k) :: r, acc, y, h => by
    unfold closL
    split
    · rename_i hk
      refine closL_some r _ ?_
      by_cases hyx : y = x
      · subst hyx; exact .inr ⟨(env.cells.lookup y).getD 0, by rw [List.lookup_cons]; simp⟩
      · rcases h with h | ⟨c, h⟩
        · rcases List.mem_cons.mp h with h | h
          · cases h; exact absurd rfl hyx
          · exact .inl h
        · refine .inr ⟨c, ?_⟩
          rw [List.lookup_cons, show (y == x) = false by simpa using hyx]; exact h
    · rename_i hk
      refine closL_some r _ ?_
      rcases h with h | h
      · rcases List.mem_cons.mp h with h | h
        · cases h; exact absurd rfl hk
        · exact .inl h
      · exact .inr h

theorem cellsFrom_app : ∀ (names : List (Str × NameKind)) (k : Nat) (acc cl : List (Str × Addr)), cellsFrom k names (acc ++ cl) = cellsFrom k names acc ++ cl
  | [], _, _, _ => rfl
  | (x, kd) :: r, k, acc, cl => by
    unfold cellsFrom
    split
    · exact cellsFrom_app r (k + 1) ((x, k) :: acc) cl
    · exact cellsFrom_app r k acc cl
theorem cellsFrom_mem : ∀ (names : List (Str × NameKind)) (k : Nat) (acc : List (Str × Addr)) {y : Str} {c : Addr}, (cellsFrom k names acc).lookup y = some c → (y, .cell) ∈ names ∨ acc.lookup y = some c
  | [], _, _, _, _, h => .inr h
  | (x, kd) :: r, k, acc, y, c, h => by
    unfold cellsFrom at h
    split at h
    · rename_i hk
      have hk' : kd = .cell := eq_of_beq hk
      subst hk'
      rcases cellsFrom_mem r _ _ h with q | q
      · exact .inl (List.mem_cons_of_mem _ q)
      · rw [List.lookup_cons] at q
        cases e : y == x with
        | true => rw [eq_of_beq e]; exact .inl List.mem_cons_self
        | false => rw [e] at q; exact .inr q
    · rcases cellsFrom_mem r _ _ h with q | q
      · exact .inl (List.mem_cons_of_mem _ q)
      · exact .inr q
theorem cellsFrom_some : ∀ (names : List (Str × NameKind)) (k : Nat) (acc : List (Str × Addr)) {y : Str}, (y, .cell) ∈ names ∨ (∃ c, acc.lookup y = some c) → ∃ c, (cellsFrom k names acc).lookup y = some c
  | [], _, acc, y, h => by
    rcases h with h | h
    · cases h
    · exact h
  | (x, kd) :: r, k, acc, y, h => by
    unfold cellsFrom
    split
    · rename_i hk
      refine cellsFrom_some r _ _ ?_
      by_cases hyx : y = x
      · subst hyx; exact .inr ⟨k, by rw [List.lookup_cons]; simp⟩
      · rcases h with h | ⟨c, h⟩
        · rcases List.mem_cons.mp h with h | h
          · cases h; exact absurd rfl hyx
          · exact .inl h
        · refine .inr ⟨c, ?_⟩
          rw [List.lookup_cons, show (y == x) = false by simpa using hyx]; exact h
    · rename_i hk
      refine cellsFrom_some r _ _ ?_
      rcases h with h | h
      · rcases List.mem_cons.mp h with h | h
        · cases h; exact absurd rfl hk
        · exact .inl h
      · exact .inr h

theorem lookup_relab {S : Scope} {scope : Scope} {y : Str} : (relab scope S).names.lookup y = (scope.names.lookup y).map fun k => if (k == .free && S.kind == .function && kindIn S y == some .cell) then .cell else k := by
  have : ∀ (l : List (Str × NameKind)), (l.map fun (n, k) => if (k == .free && S.kind == .function && kindIn S n == some .cell) then (n, NameKind.cell) else (n, k)).lookup y = (l.lookup y).map fun k => if (k == .free && S.kind == .function && kindIn S y == some .cell) then .cell else k := by
    intro l
    induction l with
    | nil => rfl
    | cons p r ih =>
      obtain ⟨x, k⟩ := p
      rw [List.map_cons, List.lookup_cons]
      cases e : y == x with
      | true =>
        have e' := eq_of_beq e; subst e'
        by_cases hc : (k == NameKind.free && S.kind == .function && kindIn S y == some .cell) = true
        · simp only [hc, if_true, List.lookup_cons, beq_self_eq_true, Option.map_some]
        · simp only [hc, Bool.false_eq_true, if_false, List.lookup_cons, beq_self_eq_true, Option.map_some]
      | false =>
        by_cases hc : (k == NameKind.free && S.kind == .function && kindIn S x == some .cell) = true
        · simp only [hc, if_true, List.lookup_cons, e]; exact ih
        · simp only [hc, Bool.false_eq_true, if_false, List.lookup_cons, e]; exact ih
  exact this scope.names
end Mine

namespace Mine
open PySem PySem.Calls PyProof.Rows PySem.SeqAt

/-- the environment of a comprehension -/
noncomputable def compE (scope : Scope) (L : Addr) (env : Env) : Env :=
  { newEnv scope L env.globals (cellsFrom (L + 1) scope.names (closL env scope.names [])) env.qual none .none (some env) builtinsNs with scope := relab scope env.scope }

/-- what is asked of a comprehension's scope; xs are its targets -/
structure ScOk (scope S : Scope) (Γ xs : List Str) : Prop where
  kind : scope.kind = .function
  loc : ∀ x ∈ scope.names, x.2 = .local → scope.names.lookup x.1 = some .local
  cell : ∀ x ∈ scope.names, x.2 = .cell → scope.names.lookup x.1 = some .cell
  free : ∀ x ∈ scope.names, x.2 = .free → scope.names.lookup x.1 = some .free ∧ (kindIn S x.1 = some .cell ∨ kindIn S x.1 = some .free)
  own : ∀ x ∈ scope.names, (x.2 = .local ∨ x.2 = .cell) → x.1 ∈ xs ∨ slot Γ x.1 = none
  tgt : ∀ x ∈ xs, isStoreK scope x = true

section
variable {C : Cx} {T : Tab} {n b : Nat} {Γ : List Str} {S : Scope} {nm : Bool} {J : Addr → Prop}
variable {base : Bs} {env cenv : Env} {ρ : AEnv} {μ μ' : List Addr} {H H' : AHeap} {s s' : Shared} {A : Around} {E : Value → Shared → Prop}
variable {scope : Scope} {xs : List Str} {M : Model}

theorem newComp {Q : Env → Shared → Prop}
    (hQ : ∀ h', (∀ {a : Addr} {o : Obj}, s.heap.get? a = some o → h'.get? a = some o) → h'.Ns s.heap.objs.size (fun _ => none) → CellsOk h' (s.heap.objs.size + 1) (cellsFrom (s.heap.objs.size + 1) scope.names []) →
      Q (newEnv scope s.heap.objs.size env.globals (cellsFrom (s.heap.objs.size + 1) scope.names (closL env scope.names [])) env.qual none .none (some env) builtinsNs) { s with heap := h' }) :
    wpAny M A (newFunctionEnv scope env.globals (closL env scope.names []) [] env.qual none .none (some env)) Q E s := by
  simp only [newFunctionEnv, Option.isSome_some, if_true]
  refine wpAny_bind (wpAny_alloc ?_)
  refine wpAny_bind (wpAny_layCells _ (fun name kind cells => by cases hkc : kind == NameKind.cell <;> simp) _ _ _ _ ?_)
  have ok := cellsFrom_ok scope.names (s.heap.push { cls := .type "dict", data := .dict #[] }) (s.heap.objs.size + 1) [] ⟨fun _ _ hm => (nomatch hm), List.Pairwise.nil⟩ (by rw [Heap.size_push]; exact Nat.le_refl _)
  rw [Heap.size_push] at ok
  rw [show ({ s with heap := s.heap.push { cls := .type "dict", data := .dict #[] } } : Shared).heap.objs.size = s.heap.objs.size + 1 from Heap.size_push ..]
  rw [List.forIn_nil]
  refine wpAny_bind (wpAny_pure (wpAny_pure ?_))
  exact hQ _ (fun e => pushCells_keeps _ _ _ _ (Heap.get?_push_of_some _ e)) ((Heap.Ns.new s.heap (.type "dict")).keeps (pushCells_keeps _ _)) ok

theorem kind_cases (hs : ScOk scope env.scope Γ xs) {y : Str} {k : NameKind} (e : (compE scope n env).kindOf y = some k) :
    (k = .local ∧ scope.names.lookup y = some .local) ∨ (k = .cell ∧ scope.names.lookup y = some .cell) ∨ ((k = .cell ∨ k = .free) ∧ scope.names.lookup y = some .free) ∨ (k ≠ .local ∧ k ≠ .cell ∧ k ≠ .free) := by
  have e' : (relab scope env.scope).names.lookup y = some k := e
  rw [lookup_relab] at e'
  cases q : scope.names.lookup y with
  | none => rw [q] at e'; cases e'
  | some k0 =>
    rw [q] at e'
    simp only [Option.map_some, Option.some.injEq] at e'
    split at e'
    · rename_i hc
      simp only [Bool.and_eq_true, beq_iff_eq] at hc
      rw [hc.1.1]; exact .inr (.inr (.inl ⟨.inl e'.symm, rfl⟩))
    · subst e'
      cases k0 <;> simp

theorem kind_free (hs : ScOk scope env.scope Γ xs) {y : Str} (e : scope.names.lookup y = some .free) : (compE scope n env).kindOf y = some .cell ∨ (compE scope n env).kindOf y = some .free := by
  have : (compE scope n env).kindOf y = (relab scope env.scope).names.lookup y := rfl
  rw [this, lookup_relab, e]
  simp only [Option.map_some]
  split
  · exact .inl rfl
  · exact .inr rfl

theorem free_notin (hs : ScOk scope S Γ xs) {y : Str} (e : scope.names.lookup y = some .free) : y ∉ xs := fun hy => by
  have := hs.tgt y hy
  unfold isStoreK kindIn at this
  rw [e] at this; cases this

theorem slot_own (hs : ScOk scope S Γ xs) {y : Str} {i : Nat} {v : AV} (hm : ∃ k, (y, k) ∈ scope.names ∧ (k = NameKind.local ∨ k = NameKind.cell)) (e : slot (xs ++ Γ) y = some i) (e' : (List.replicate xs.length (none : Option AV) ++ ρ)[i]? = some (some v)) : False := by
  obtain ⟨k, hm, hk⟩ := hm
  by_cases hy : y ∈ xs
  · obtain ⟨j, ej, hj⟩ := slot_in hy
    rw [slot_app, ej] at e
    simp only [Option.some_or, Option.some.injEq] at e
    subst e
    rw [List.getElem?_append_left (by simpa using hj)] at e'
    simp [hj] at e'
  · rcases hs.own _ hm hk with q | q
    · exact hy q
    · rw [slot_skip hy] at e
      have q' : slot Γ y = none := q
      rw [q'] at e; cases e

theorem lookup_app {α : Type} : ∀ (l1 l2 : List (Str × α)) (y : Str), (l1 ++ l2).lookup y = (l1.lookup y).or (l2.lookup y)
  | [], l2, y => by simp
  | (x, c) :: r, l2, y => by
    simp only [List.cons_append, List.lookup_cons]
    cases y == x with
    | true => simp
    | false => exact lookup_app r l2 y

/-- the state of the new frame -/
theorem St.enter (st : St C base b env Γ ρ μ H s) (hs : ScOk scope env.scope Γ xs) {h' : Heap} {L : Addr} (hL : s.heap.objs.size ≤ L) (kk : ∀ {a : Addr} {o : Obj}, s.heap.get? a = some o → h'.get? a = some o)
    (nn : h'.Ns L (fun _ => none)) (cs : CellsOk h' (L + 1) (cellsFrom (L + 1) scope.names [])) :
    St C base b (compE scope L env) (xs ++ Γ) (List.replicate xs.length none ++ ρ) μ H { s with heap := h' } ∧ Nest env (compE scope L env) xs s.heap := by
  have hcl : ∀ y, (compE scope L env).cells.lookup y = ((cellsFrom (L + 1) scope.names []).lookup y).or ((closL env scope.names []).lookup y) := fun y => by
    show (cellsFrom (L + 1) scope.names (closL env scope.names [])).lookup y = _
    rw [← lookup_app, ← cellsFrom_app]; rfl
  have hcases : ∀ {y : Str} {c : Addr}, (compE scope L env).cells.lookup y = some c → ((cellsFrom (L + 1) scope.names []).lookup y = some c) ∨ (env.cells.lookup y = some c ∧ (y, .free) ∈ scope.names) := by
    intro y c e
    rw [hcl, Option.or_eq_some_iff] at e
    rcases e with e | ⟨_, e⟩
    · exact .inl e
    · rcases closL_lookup _ _ e with ⟨q, e'⟩ | q
      · obtain ⟨c', o', ec, _⟩ := st.er.cells (x := y) (hs.free _ q rfl).2
        rw [ec] at e'
        cases e'
        exact .inr ⟨ec, q⟩
      · cases q
  have hown : ∀ {y : Str} {c : Addr}, (cellsFrom (L + 1) scope.names []).lookup y = some c → h'.IsCell c none ∧ L + 1 ≤ c := fun e => cs.empty _ _ (mem_of_lookup e)
  have hlt : ∀ {y : Str} {c : Addr}, env.cells.lookup y = some c → c < s.heap.objs.size := fun e => by
    obtain ⟨_, o, eo, _⟩ := st.er.cell e; exact Heap.lt_size eo
  refine ⟨⟨fun a o e => (st.keep a o e).map id kk, st.hp.keeps kk, ⟨hs.kind, ⟨_, nn, ?_⟩, ?_, ?_, ?_, st.er.globals, st.er.builtins⟩, st.fresh, base_none st (none_ge hL), not_mem st (none_ge hL), ?_, st.gens, st.os, fun z => let ⟨o, e⟩ := st.zl z; ⟨o, kk e⟩, (Lv.grow kk).ff st.ff⟩, ⟨none_ge hL, ?_⟩⟩
  · intro y i v e1 e2 e3
    exfalso
    rcases kind_cases hs e2 with ⟨_, q⟩ | ⟨q, _⟩ | ⟨q, _⟩ | ⟨q, _⟩
    · exact slot_own hs ⟨_, mem_of_lookup q, .inl rfl⟩ e1 e3
    · cases q
    · rcases q with q | q <;> cases q
    · exact q rfl
  · intro y ky
    have : scope.names.lookup y = some .cell ∨ scope.names.lookup y = some .free := by
      rcases ky with ky | ky
      · rcases kind_cases hs ky with ⟨q, _⟩ | ⟨_, q⟩ | ⟨_, q⟩ | ⟨_, q, _⟩
        · cases q
        · exact .inl q
        · exact .inr q
        · exact absurd rfl q
      · rcases kind_cases hs ky with ⟨q, _⟩ | ⟨q, _⟩ | ⟨_, q⟩ | ⟨_, _, q⟩
        · cases q
        · cases q
        · exact .inr q
        · exact absurd rfl q
    rcases this with q | q
    · obtain ⟨c, e⟩ := cellsFrom_some scope.names (L + 1) [] (.inl (mem_of_lookup q))
      refine ⟨c, none, by rw [hcl, e]; rfl, (hown e).1, fun e1 e2 => (slot_own hs ⟨_, mem_of_lookup q, .inr rfl⟩ e1 e2).elim⟩
    · have hm := mem_of_lookup q
      obtain ⟨c, o, ec, hcell, qv⟩ := st.er.cells (x := y) (hs.free _ hm rfl).2
      have hno : (cellsFrom (L + 1) scope.names []).lookup y = none := by
        cases e : (cellsFrom (L + 1) scope.names []).lookup y with
        | none => rfl
        | some c' =>
          rcases cellsFrom_mem _ _ _ e with q' | q'
          · have := hs.cell _ q' rfl; rw [q] at this; cases this
          · cases q'
      obtain ⟨c', e'⟩ := closL_some (env := env) scope.names [] (.inl hm)
      have : c' = c := by
        rcases closL_lookup _ _ e' with ⟨_, q'⟩ | q'
        · rw [ec] at q'; exact q'.symm
        · cases q'
      subst this
      obtain ⟨ob, eb, db⟩ := hcell
      refine ⟨c', o, by rw [hcl, hno, e']; rfl, ⟨ob, kk eb, db⟩, fun {i v} e1 e2 => ?_⟩
      have hy := free_notin hs q
      rw [slot_skip hy] at e1
      cases ei : slot Γ y with
      | none => rw [ei] at e1; cases e1
      | some j =>
        rw [ei] at e1
        cases e1
        rw [List.getElem?_append_right (by simp), List.length_replicate, Nat.add_sub_cancel] at e2
        obtain ⟨u, e3, v3⟩ := qv ei e2
        exact ⟨u, e3, v3.keeps kk⟩
  · intro y c e
    rcases hcases e with e | ⟨e, _⟩
    · exact ⟨_, (hown e).1⟩
    · obtain ⟨o, ob, eb, db⟩ := st.er.cell e; exact ⟨o, ob, kk eb, db⟩
  · intro y z c e1 e2
    rcases hcases e1 with e1 | ⟨e1, _⟩ <;> rcases hcases e2 with e2 | ⟨e2, _⟩
    · exact name_of_addr cs.apart (mem_of_lookup e1) (mem_of_lookup e2)
    · exact absurd (Nat.lt_of_lt_of_le (hlt e2) (Nat.le_trans hL (Nat.le_of_succ_le (hown e1).2))) (Nat.lt_irrefl _)
    · exact absurd (Nat.lt_of_lt_of_le (hlt e1) (Nat.le_trans hL (Nat.le_of_succ_le (hown e2).2))) (Nat.lt_irrefl _)
    · exact st.er.inj e1 e2
  · intro y c e
    rcases hcases e with e | ⟨e, _⟩
    · exact base_none st (none_ge (Nat.le_trans hL (Nat.le_of_succ_le (hown e).2)))
    · exact st.nocell e
  · intro y c e
    rcases hcases e with e | ⟨e, q⟩
    · exact .inl (none_ge (Nat.le_trans hL (Nat.le_of_succ_le (hown e).2)))
    · have := (hs.free _ q rfl).1
      exact .inr ⟨e, kind_free hs this, free_notin hs this⟩
end
end Mine

namespace Mine
open PySem PySem.Calls PyProof.Rows PySem.SeqAt

section
variable (C : Cx) (T : Tab) (n b : Nat) (Γ : List Str) (S : Scope)
/-- the tests of a comprehension -/
structure CoOk (ifs : List Expr) (d : AEnv → AHeap → Res Bool) : Prop where
  ok : ∀ {base : Bs} {env : Env} {ρ : AEnv} {μ : List Addr} {H H' : AHeap} {s : Shared} {A : Around} {E : Value → Shared → Prop} {Q : Bool → Shared → Prop} {v : Bool},
    Gnd C T base → env.scope = S → St C base b env Γ ρ μ H s → AOk base A n → d ρ H = .ok v H' → (∀ s' μ', Ext env μ μ' s.heap s'.heap → St C base b env Γ ρ μ' H' s' → Q v s') →
    wpAny (model C.prog C.w) A (forIn ifs true fun c r => if r = true then do let ok ← isTrue c env (eval c env); pure (ForInStep.yield ok) else pure (ForInStep.yield r)) Q E s
end

section
variable {C : Cx} {T : Tab} {n b : Nat} {Γ : List Str} {S : Scope} {nm : Bool} {J : Addr → Prop}
variable {base : Bs} {env cenv : Env} {ρ : AEnv} {μ μ' : List Addr} {H H' : AHeap} {s s' : Shared} {A : Around} {E : Value → Shared → Prop}
variable {scope : Scope} {xs : List Str} {M : Model}

theorem CoOk.nil {d : AEnv → AHeap → Res Bool} (hd : ∀ ρ H, d ρ H = .ok true H) : CoOk C T n b Γ S [] d := by
  refine ⟨?_⟩
  intro base env ρ μ H H' s A E Q v G hS st a ed k
  rw [hd] at ed; cases ed
  exact wpAny_tests_nil (k s μ .refl st)
theorem CoOk.one {c : Expr} {d : AEnv → AHeap → Res Bool} (h : TrOk C T n b Γ S c d) : CoOk C T n b Γ S [c] d := by
  refine ⟨?_⟩
  intro base env ρ μ H H' s A E Q v G hS st a ed k
  exact wpAny_tests_one (h.ok G hS st a ed k)

theorem keepD (st : St C base b env Γ ρ μ H s) {D : Addr} {its : Array Value} (hD : D ∉ μ) (p : s.heap.PlainList D its) (X : Ext env μ μ' s.heap s'.heap) : s'.heap.PlainList D its ∧ D ∉ μ' := by
  obtain ⟨k, e⟩ := id p
  refine ⟨⟨k, (X.stay e ?_).ex (fun _ _ q => by cases q)⟩, fun q => ?_⟩
  · rintro (q | q | ⟨y, q⟩)
    · exact hD q
    · obtain ⟨m, nn, _⟩ := st.er.ns; exact PlainList.not_ns p (q ▸ nn)
    · obtain ⟨o, hc⟩ := st.er.cell q; exact PlainList.not_cell p hc
  · rw [X.new q hD] at e; cases e
theorem plain_notOwn (st : St C base b env Γ ρ μ H s) {D : Addr} {its : Array Value} (hD : D ∉ μ) (p : s.heap.PlainList D its) : ¬ Own μ env D := by
  rintro (q | q | ⟨y, q⟩)
  · exact hD q
  · obtain ⟨m, nn, _⟩ := st.er.ns; exact PlainList.not_ns p (q ▸ nn)
  · obtain ⟨o, hc⟩ := st.er.cell q; exact PlainList.not_cell p hc

/-- what a comprehension's loop keeps -/
inductive CI (C : Cx) (J : Addr → Prop) (base : Bs) (b : Nat) (env cenv : Env) (xs Γ : List Str) (ρ : AEnv) (D : Addr) (ws : List (Nat × List AV)) (R : List AV → List Addr → Heap → Prop) (μ2 : List Addr) (h2 : Heap) (step : AV → AHeap → Res (Option AV)) (total : List AV) (Hf : AHeap) (m : Nat) (s1 : Shared) : Prop
  | mk (l : List AV) (vals : AEnv) (done : List AV) (items : List Value) (μ1 : List Addr) (H1 : AHeap) (hl : List.length l = m) (hv : List.length vals = xs.length) (S1 : St C base b cenv (xs ++ Γ) (vals ++ ρ) μ1 H1 s1) (r1 : R l μ1 s1.heap) (hw : ∀ w ∈ ws, H1[w.1]? = some (.list w.2)) (X1 : ExtJ J cenv μ2 μ1 h2 s1.heap) (hD : D ∉ μ1)
    (p1 : s1.heap.PlainList D (List.toArray items)) (q1 : VRs C μ1 s1.heap done items) (r : List AV) (er : compL ws step l H1 = .ok r Hf) (et : done ++ r = total) : CI C J base b env cenv xs Γ ρ D ws R μ2 h2 step total Hf m s1

/-- the end of a comprehension, as the outer frame sees it -/
structure CEnd (C : Cx) (base : Bs) (b : Nat) (env : Env) (Γ : List Str) (ρ : AEnv) (μ : List Addr) (h : Heap) (total : List AV) (Hf : AHeap) (D L : Addr) (s1 : Shared) : Prop where
  ex : ∃ μ1, St C base b env Γ ρ (μ1 ++ [D]) (Hf ++ [.list total]) s1 ∧ Ext env μ (μ1 ++ [D]) h s1.heap ∧ VR C (μ1 ++ [D]) s1.heap (.ref Hf.length) (.ref D) ∧ ¬ Own (μ1 ++ [D]) env L
  ns : ∃ m, s1.heap.Ns L m
  base : base.get? L = none
  new : h.get? L = none

theorem comp_end {it : Value} {ws : List (Nat × List AV)} {R : List AV → List Addr → Heap → Prop} {MM : List AV → Value → List Addr → Heap → Prop} {D : Addr} {total : List AV} {items : List Value} {vals : AEnv} {μ1 μ2 : List Addr} {s1 s2 : Shared} {H2 Hf : AHeap}
    (st : St C base b env Γ ρ μ H s) (X0 : Ext env μ μ2 s.heap s2.heap) (st2 : St (C.plus J) base b env Γ ρ μ2 H2 s2) (N : Nest env cenv xs s2.heap) (hJ0 : ∀ {a : Addr}, J a → s.heap.get? a = none) (hJb : ∀ {a : Addr}, J a → base.get? a = none)
    (W : Walk (C.plus J) base it J ws nm R MM) (hD2 : s2.heap.get? D = none) (hJD : ¬ J D) (hJo : ∀ {a : Addr}, J a → ¬ Own μ2 env a)
    (hv : vals.length = xs.length) (S1 : St (C.plus J) base b cenv (xs ++ Γ) (vals ++ ρ) μ1 Hf s1) (r1 : R [] μ1 s1.heap) (X : ExtJ J cenv μ2 μ1 s2.heap s1.heap) (hD : D ∉ μ1) (p : s1.heap.PlainList D items.toArray) (q : VRs (C.plus J) μ1 s1.heap total items) (hz : total.length ≤ lim)
    {h' : Heap} {tk : Nat} (kk : ∀ {a : Addr} {o : Obj}, ¬ J a → s1.heap.get? a = some o → h'.get? a = some o) :
    CEnd C base b env Γ ρ μ s.heap total Hf D cenv.locals { s1 with heap := h', toks := tk } := by
  obtain ⟨S1', X'⟩ := st2.leave N hv S1 X (fun j => .inr j) hJo
  have X1 := ExtJ.after X0 X' hJ0
  have off : ∀ {a : Addr}, J a → ¬ Own μ1 cenv a := W.off S1 r1
  have offE : ∀ {a : Addr}, J a → ¬ Own μ1 env a := W.off S1' r1
  have S3 := S1'.leaveJ (tk := tk) kk offE hJb (zJ (h := s.heap) st hJ0)
  have X3 : Ext env μ μ1 s.heap h' := X1.but hJ0 kk
  obtain ⟨k, p'⟩ := id p
  have p3 : h'.PlainList D items.toArray := ⟨k, kk hJD p'⟩
  have q3 : VRs C μ1 h' total items := VRs.mapZ (C := C.plus J) (z := C.z) List.prefix_rfl (fun e nz _ => kk (fun j => nz (.inr j)) e) (fun _ nz z => nz (.inl z)) q
  have sD : s.heap.get? D = none := by
    cases e : s.heap.get? D with
    | none => rfl
    | some o => obtain ⟨o', e', _⟩ := X0.live.go e; rw [hD2] at e'; cases e'
  obtain ⟨m, nn, _⟩ := S1.er.ns
  have nn3 : h'.Ns cenv.locals m := nn.at fun o e => kk (fun j => off j (.inr (.inl rfl))) e
  have newL : s.heap.get? cenv.locals = none := by
    cases e : s.heap.get? cenv.locals with
    | none => rfl
    | some o => obtain ⟨o', e', _⟩ := X0.live.go e; rw [N.newL] at e'; cases e'
  refine ⟨⟨μ1, S3.track p3 q3 hD (base_none st2 hD2) hz, X3.trackX sD, .ref (by rw [← S3.hp.len]; simp), ?_⟩, ⟨m, nn3⟩, S1.noloc, newL⟩
  rintro (e | e | ⟨y, e⟩)
  · rcases List.mem_append.mp e with e | e
    · exact S1.lm e
    · simp at e; exact PlainList.not_ns p (e ▸ nn)
  · obtain ⟨m', ⟨o, _, _, ho, _⟩, _⟩ := st2.er.ns
    rw [← e, N.newL] at ho; cases ho
  · obtain ⟨_, o, ho, _⟩ := st2.er.cell e
    rw [N.newL] at ho; cases ho

theorem compL_cons {ws : List (Nat × List AV)} {step : AV → AHeap → Res (Option AV)} {v : AV} {l r : List AV} {Hf : AHeap} (e : compL ws step (v :: l) H = .ok r Hf) :
    ∃ o H1 r', step v H = .ok o H1 ∧ ws.all (fun w => still H1 w.1 w.2) = true ∧ compL ws step l H1 = .ok r' Hf ∧ r = consO o r' := by
  unfold compL at e
  obtain ⟨o, H1, e1, e⟩ := Res.get_ok e
  split at e
  · rename_i hs
    obtain ⟨r', H2, e2, e⟩ := Res.get_ok e
    cases e
    exact ⟨o, H1, r', e1, hs, e2, rfl⟩
  · cases e

/-- a turn that keeps nothing -/
theorem CI.skip {ws : List (Nat × List AV)} {R : List AV → List Addr → Heap → Prop} {D : Addr} {μ2 : List Addr} {h2 : Heap} {step : AV → AHeap → Res (Option AV)} {total done l r : List AV} {Hf H1 : AHeap} {vals : AEnv} {items : List Value} {μ1 : List Addr} {s1 : Shared}
    (hv : vals.length = xs.length) (S1 : St C base b cenv (xs ++ Γ) (vals ++ ρ) μ1 H1 s1) (r1 : R l μ1 s1.heap) (hw : ws.all (fun w => still H1 w.1 w.2) = true) (X : ExtJ J cenv μ2 μ1 h2 s1.heap) (hD : D ∉ μ1) (p : s1.heap.PlainList D items.toArray) (q : VRs C μ1 s1.heap done items)
    (e : compL ws step l H1 = .ok r Hf) (et : done ++ r = total) : CI C J base b env cenv xs Γ ρ D ws R μ2 h2 step total Hf l.length s1 :=
  ⟨l, vals, done, items, μ1, H1, rfl, hv, S1, r1, stills hw, X, hD, p, q, r, e, et⟩

/-- a turn that keeps a value -/
theorem CI.keep {it : Value} {ws : List (Nat × List AV)} {R : List AV → List Addr → Heap → Prop} {MM : List AV → Value → List Addr → Heap → Prop} {D : Addr} {μ2 : List Addr} {h2 : Heap} {step : AV → AHeap → Res (Option AV)} {total done l r : List AV} {Hf H1 : AHeap} {vals : AEnv} {items : List Value} {μ1 : List Addr} {s1 : Shared} {x : AV} {u : Value}
    (W : Walk C base it J ws nm R MM) (hD2 : h2.get? D = none) (hbD : base.get? D = none) (hz : total.length ≤ lim)
    (hv : vals.length = xs.length) (S1 : St C base b cenv (xs ++ Γ) (vals ++ ρ) μ1 H1 s1) (r1 : R l μ1 s1.heap) (hw : ws.all (fun w => still H1 w.1 w.2) = true) (X : ExtJ J cenv μ2 μ1 h2 s1.heap) (hD : D ∉ μ1) (p : s1.heap.PlainList D items.toArray) (q : VRs C μ1 s1.heap done items) (V : VR C μ1 s1.heap x u)
    (e : compL ws step l H1 = .ok r Hf) (et : done ++ (x :: r) = total) : wpAny (model C.prog C.w) A (call (.builtin "list.append") [.ref D, u]) (fun _ s5 => ∃ m, m < (l.length + 1) ∧ CI C J base b env cenv xs Γ ρ D ws R μ2 h2 step total Hf m s5) E s1 := by
  have hsz : items.toArray.size ≤ sizeLine := by
    rw [List.size_toArray, ← q.length]
    refine lim_line (Nat.le_trans ?_ hz)
    rw [← et]; simp
  refine wpAny_list_append_plain p (fun h5 pl hs => ⟨l.length, Nat.lt_succ_self _, ?_⟩) hsz
  rw [push_list] at pl
  have ht : ∀ {ts : Array Value}, ¬ s1.heap.IsTuple D ts := plain_notTuple p
  have hf : ∀ {o : Obj} {vs : Array Value}, s1.heap.get? D = some o → o.data ≠ .fields vs := plain_notFields p
  have st : ∀ {c : Addr} {o : Obj}, c ≠ D → s1.heap.get? c = some o → h5.get? c = some o := fun n e => (hs.2 _ n).trans e
  refine ⟨l, vals, done ++ [x], items ++ [u], μ1, H1, rfl, hv, S1.other (tk := s1.toks) ht hf (plain_notOwn S1 hD p) hbD hs (fun _ => let ⟨k, e⟩ := pl; ⟨_, e⟩) (let ⟨k, e⟩ := p; S1.ff.off e fun _ _ q => by cases q), ?_, stills hw, ?_, hD, pl, ?_, r, e, by simpa using et⟩
  · refine W.frame r1 List.prefix_rfl fun {a o} e k => st (fun e' => ?_) e
    subst e'
    rcases k with ⟨its, t⟩ | ⟨vs, d⟩
    · exact ht t
    · exact hf e d
  · have nD : ∀ {a : Addr} {o : Obj}, h2.get? a = some o → a ≠ D := fun e e' => by rw [e', hD2] at e; cases e
    exact ⟨X.pre, fun e n j => (X.stay e n j).map id (st (nD e)), X.new, fun e j => let ⟨o, e', d⟩ := X.live e j; ⟨o, st (nD e) e', d⟩⟩
  · exact (q.other ht hf hs).append (.cons (V.other ht hf hs) .nil)

/-- the turns of a comprehension, whatever its target: each turn takes a thing, stores it and puts the next item on -/
theorem compTurns {prog : Program} {w : World} {A : Around} {elt target iter : Expr} {scope : Scope} {pos : Pos} {it acc : Value} {env : Env} {R : Result → Shared → Prop} (I : Nat → Shared → Prop)
    (step : ∀ m s, I m s → wpAny (model prog w) A (pyNext it) (fun r s1 => match r with
      | none => R (.ok .next) s1
      | some v => wpAny (model prog w) A (letOwnedTupleGo target it v) (fun _ s2 => wpAny (model prog w) A (assign target env v) (fun _ s3 => wpAny (model prog w) A (eval elt env) (fun x s4 =>
          wpAny (model prog w) A (call (.builtin "list.append") [acc, x]) (fun _ s5 => ∃ k, k < m ∧ I k s5) (notedBy (model prog w) A env fun e s' => R (.error e) s') s4)
          (notedBy (model prog w) A env fun e s' => R (.error e) s') s3) (notedBy (model prog w) A env fun e s' => R (.error e) s') s2) (notedBy (model prog w) A env fun e s' => R (.error e) s') s1) (notedBy (model prog w) A env fun e s' => R (.error e) s') s)
    (m : Nat) {s : Shared} (h : I m s) : codeAny (model prog w) A (.compLoop (.ListComp elt [⟨target, iter, [], 0⟩] scope pos) 0 it acc env) R s := by
  apply codeAny_loop rfl I _ m h
  intro m s hI
  change wpAny _ A ((compTurn (.ListComp elt [⟨target, iter, [], 0⟩] scope pos) 0 it acc env).onRaise (fun x => do noteFrame x env; theTreesLotGoes x)) _ _ s
  apply wpAny_noted
  rw [compTurn_list1]
  apply wpAny_bind
  apply wpAny_standAt
  apply wpAny_bind
  refine wpAny_mono (step m s hI) ?_ (fun _ _ q => q)
  rintro (_ | v) s1 h1
  · exact wpAny_pure h1
  · refine wpAny_bind (wpAny_mono h1 ?_ (fun _ _ q => q))
    intro _ s2 h2
    refine wpAny_bind (wpAny_mono h2 ?_ (fun _ _ q => q))
    intro _ s3 h3
    refine wpAny_bind (wpAny_bind (wpAny_mono h3 ?_ (fun _ _ q => q)))
    intro x s4 h4
    refine wpAny_bind (wpAny_mono h4 ?_ (fun _ _ q => q))
    intro _ s5 h5
    exact wpAny_pure (wpAny_pure ⟨rfl, h5⟩)
/-- where a comprehension's own frame begins -/
inductive CompS (C : Cx) (base : Bs) (b : Nat) (env : Env) (Γ : List Str) (ρ : AEnv) (μ : List Addr) (s : Shared) (scope : Scope) (xs : List Str) (nm : Bool) (p : List AV × List (Nat × List AV)) (H0 : AHeap) (it : Value) (D L : Addr) (cenv : Env) (J : Addr → Prop) (R : List AV → List Addr → Heap → Prop) (MM : List AV → Value → List Addr → Heap → Prop) (μ2 : List Addr) (s2 : Shared) (h4 : Heap) : Prop
  | mk (X0 : Ext env μ μ2 s.heap s2.heap) (hJ0 : ∀ {a : Addr}, J a → s.heap.get? a = none) (hJb : ∀ {a : Addr}, J a → base.get? a = none) (S2 : St (C.plus J) base b env Γ ρ μ2 H0 s2) (W : Walk (C.plus J) base it J p.2 nm R MM) (r0 : R p.1 μ2 s2.heap)
      (hw : ∀ w ∈ p.2, H0[w.1]? = some (.list w.2)) (kk : ∀ {a : Addr} {o : Obj}, s2.heap.get? a = some o → h4.get? a = some o) (pl4 : h4.PlainList D ([] : List Value).toArray) (hD2 : s2.heap.get? D = none)
      (S4 : St (C.plus J) base b cenv (xs ++ Γ) (List.replicate xs.length none ++ ρ) μ2 H0 { s2 with heap := h4 }) (N4 : Nest env cenv xs s2.heap) (hcs : cenv.scope = relab scope env.scope) (hcl : cenv.locals = L)
      (hst : ∀ z ∈ xs, isStoreK (relab scope env.scope) z = true) : CompS C base b env Γ ρ μ s scope xs nm p H0 it D L cenv J R MM μ2 s2 h4
theorem comp_enter {xs : List Str} {nm : Bool} {iter cx : Expr} {di : AEnv → AHeap → Res (List AV × List (Nat × List AV))} {p : List AV × List (Nat × List AV)} {H0 : AHeap} {RR : Value → Addr → Result → Shared → Prop}
    (hs : ScOk scope S Γ xs) (hi : ItOk C T n b Γ S nm iter di) (G : Gnd C T base) (hS : env.scope = S) (st : St C base b env Γ ρ μ H s) (a : AOk base A n) (e0 : di ρ H = .ok p H0)
    (k : ∀ it D L cenv J R MM μ2 s2 h4, CompS C base b env Γ ρ μ s scope xs nm p H0 it D L cenv J R MM μ2 s2 h4 → codeAny (model C.prog C.w) A (.compStart cx 0 it (.ref D) cenv) (RR (.ref D) L) { s2 with heap := h4 }) :
    wpAny (model C.prog C.w) A (eval iter env) (fun x' s₁ => wpAny (model C.prog C.w) A (pyIter x') (fun it s₂ => wpAny (model C.prog C.w) A (newList []) (fun acc s₃ =>
      wpAny (model C.prog C.w) A (newFunctionEnv scope env.globals (closL env scope.names []) [] env.qual none .none (some env)) (fun cenv s₄ =>
        codeAny (model C.prog C.w) A (.compStart cx 0 it acc { cenv with scope := relabel scope env }) (RR acc cenv.locals) s₄) E s₃) E s₂) E s₁) E s := by
  refine hi.ok G hS st a e0 fun it s2 μ2 J R MM X0 hJ0 hJb S2 W r0 hw => ?_
  refine wpAny_newObj_type (newComp fun h4 kk4 nn4 cs4 => ?_)
  dsimp only at nn4 cs4 ⊢
  subst hS
  have kk24 : ∀ {a : Addr} {o : Obj}, s2.heap.get? a = some o → h4.get? a = some o := fun e => kk4 (Heap.get?_push_of_some _ e)
  obtain ⟨S4, N4⟩ := S2.enter hs (h' := h4) (by rw [Heap.size_push]; exact Nat.le_succ _) kk24 nn4 cs4
  refine k it _ _ (compE scope _ env) J R MM μ2 s2 h4 ⟨X0, hJ0, hJb, S2, W, r0, hw, kk24, ⟨_, kk4 (Heap.get?_push_size _ rfl)⟩, none_size _, S4, N4, rfl, rfl, fun z hz => ?_⟩
  have := hs.tgt z hz
  unfold isStoreK kindIn at this ⊢
  rw [lookup_relab]
  simp only [Bool.or_eq_true, beq_iff_eq] at this
  rcases this with q | q <;> rw [q] <;> simp
/-- the walk is over -/
theorem comp_nil {xs : List Str} {nm : Bool} {p : List AV × List (Nat × List AV)} {H0 H1 Hf : AHeap} {it : Value} {D L : Addr} {cenv : Env} {J : Addr → Prop} {R : List AV → List Addr → Heap → Prop} {MM : List AV → Value → List Addr → Heap → Prop} {μ1 μ2 : List Addr} {s1 s2 : Shared} {h4 : Heap} {vals : List (Option AV)} {vs done r : List AV} {items : List Value} {stp : AV → AHeap → Res (Option AV)} {RR : Value → Addr → Result → Shared → Prop} {Q : Option Value → Shared → Prop}
    (Z : CompS C base b env Γ ρ μ s scope xs nm p H0 it D L cenv J R MM μ2 s2 h4) (st : St C base b env Γ ρ μ H s) (a : AOk base A n) (hz : vs.length ≤ lim) (k : ∀ D L s', CEnd C base b env Γ ρ μ s.heap vs Hf D L s' → RR (.ref D) L (.ok .next) s')
    (hv : vals.length = xs.length) (S1 : St (C.plus J) base b cenv (xs ++ Γ) (vals ++ ρ) μ1 H1 s1) (r1 : R [] μ1 s1.heap) (hw1 : ∀ w ∈ p.2, H1[w.1]? = some (.list w.2)) (X1 : ExtJ J cenv μ2 μ1 s2.heap s1.heap) (hD1 : D ∉ μ1) (p1 : s1.heap.PlainList D items.toArray) (q1 : VRs (C.plus J) μ1 s1.heap done items)
    (er : compL p.2 stp [] H1 = .ok r Hf) (et : done ++ r = vs) (hQ : ∀ s', RR (.ref D) L (.ok .next) s' → Q none s') : wpAny (model C.prog C.w) A (pyNext it) Q E s1 := by
  obtain ⟨X0, hJ0, hJb, S2, W, r0, hw, kk24, pl4, hD2, S4, N4, hcs, hcl, hst⟩ := Z
  have hJD : ¬ J D := fun j => by obtain ⟨o, e⟩ := W.live r0 j; rw [hD2] at e; cases e
  have er' : r = [] ∧ Hf = H1 := by unfold compL at er; cases er; exact ⟨rfl, rfl⟩
  obtain ⟨rfl, rfl⟩ := er'
  rw [List.append_nil] at et
  subst et
  refine W.done S1 a (fun j => .inr j) hw1 r1 fun h' tk kk => hQ _ ?_
  have := comp_end st X0 S2 N4 hJ0 hJb W hD2 hJD (W.off S2 r0) hv S1 r1 X1 hD1 p1 q1 hz (tk := tk) kk
  rw [hcl] at this
  exact k D L _ this
theorem comp1_go {x : Str} {px pos : Pos} {iter elt : Expr} {ifs : List Expr} {di : AEnv → AHeap → Res (List AV × List (Nat × List AV))} {dc : AEnv → AHeap → Res Bool} {de : AEnv → AHeap → Res AV} {vs : List AV} {Hf : AHeap} {RR : Value → Addr → Result → Shared → Prop}
    (hs : ScOk scope S Γ [x]) (hi : ItOk C T n b Γ S true iter di) (hc : ∀ z, CoOk (C.withZ z) T n b (x :: Γ) (relab scope S) ifs dc) (he : ∀ z, EvOk (C.withZ z) T n b (x :: Γ) (relab scope S) elt de)
    (G : Gnd C T base) (hS : env.scope = S) (st : St C base b env Γ ρ μ H s) (a : AOk base A n)
    (ed : ((di ρ H).get fun p H => compL p.2 (fun v H => (dc (some v :: ρ) H).get fun t H => if t then (de (some v :: ρ) H).get fun x H => .ok (some x) H else .ok none H) p.1 H) = .ok vs Hf) (hz : vs.length ≤ lim)
    (k : ∀ D L s', CEnd C base b env Γ ρ μ s.heap vs Hf D L s' → RR (.ref D) L (.ok .next) s') :
    wpAny (model C.prog C.w) A (eval iter env) (fun x' s₁ => wpAny (model C.prog C.w) A (pyIter x') (fun it s₂ => wpAny (model C.prog C.w) A (newList []) (fun acc s₃ =>
      wpAny (model C.prog C.w) A (newFunctionEnv scope env.globals (closL env scope.names []) [] env.qual none .none (some env)) (fun cenv s₄ =>
        codeAny (model C.prog C.w) A (.compStart (.ListComp elt [⟨.Name x px, iter, ifs, 0⟩] scope pos) 0 it acc { cenv with scope := relabel scope env }) (RR acc cenv.locals) s₄) E s₃) E s₂) E s₁) E s := by
  obtain ⟨p, H0, e0, ed⟩ := Res.get_ok ed
  refine comp_enter hs hi G hS st a e0 fun it D L cenv J R MM μ2 s2 h4 Z => ?_
  subst hS
  obtain ⟨X0, hJ0, hJb, S2, W, r0, hw, kk24, pl4, hD2, S4, N4, hcs, hcl, hsk⟩ := id Z
  have hJD : ¬ J D := fun j => by obtain ⟨o, e⟩ := W.live r0 j; rw [hD2] at e; cases e
  have hbD : base.get? D = none := base_none S2 hD2
  have hDm : D ∉ μ2 := not_mem S2 hD2
  have hx0 : slot ([x] ++ Γ) x = some 0 := by
    rw [slot_app]; unfold slot; simp
  have hkx : cenv.kindOf x = some .local ∨ cenv.kindOf x = some .cell := by
    have := hsk x (List.mem_singleton.mpr rfl)
    rw [← hcs] at this
    unfold isStoreK kindIn at this
    simp only [Bool.or_eq_true, beq_iff_eq] at this
    exact this
  have r4 : R p.1 μ2 h4 := W.frame r0 List.prefix_rfl fun e _ => kk24 e
  have loop : ∀ s₃ : Shared, s₃ = { s2 with heap := h4 } → codeAny (model C.prog C.w) A (.compLoop (.ListComp elt [⟨.Name x px, iter, ifs, 0⟩] scope pos) 0 it (.ref D) cenv) (RR (.ref D) L) s₃ := by
    rintro s₃ rfl
    refine codeAny_compLoop_tests (CI (C.plus J) J base b env cenv [x] Γ ρ D p.2 R μ2 s2.heap (fun v H => (dc (some v :: ρ) H).get fun t H => if t then (de (some v :: ρ) H).get fun x H => .ok (some x) H else .ok none H) vs Hf) ?_ p.1.length
      ⟨p.1, _, [], [], μ2, H0, rfl, by simp, S4, r4, hw, ExtJ.grow kk24, hDm, pl4, .nil, vs, ed, rfl⟩
    rintro m s1 ⟨l, vals, done, items, μ1, H1, rfl, hv, S1, r1, hw1, X1, hD1, p1, q1, r, er, et⟩
    cases l with
    | nil =>
      exact comp_nil Z st a hz k hv S1 r1 hw1 X1 hD1 p1 q1 er et fun _ q => q
    | cons v l =>
      obtain ⟨o, H2, r', es, hst, er2, rfl⟩ := compL_cons er
      refine W.item S1 a (fun j => .inr j) hw1 r1 fun u h' tk kk V m => ?_
      have S5 := S1.stepJ (tk := tk) kk (W.off S1 r1) hJb (W.liveM m)
      have k5 := W.plain rfl m
      obtain ⟨i0, p1'⟩ := id p1
      have p5 : h'.PlainList D items.toArray := ⟨i0, kk hJD p1'⟩
      have q5 : VRs (C.plus J) μ1 h' done items := VRs.butJ (C := C.plus J) (J := J) (fun j => .inr j) kk q1
      have X5 : ExtJ J cenv μ2 μ1 s2.heap h' := X1.step kk
      refine wpAny_assign_Name (S5.bind hx0 hkx V fun s6 S6 X6 => ?_)
      obtain ⟨o0, rfl⟩ : ∃ o, vals = [o] := by
        match vals, hv with
        | [o], _ => exact ⟨o, rfl⟩
      have S6' : St (C.plus J) base b cenv (x :: Γ) (some v :: ρ) μ1 H1 s6 := S6
      obtain ⟨t, H3, e3, es⟩ := Res.get_ok es
      refine (hc _).ok (C := C.plus J) G.toZ hcs S6' a e3 fun s7 μ7 X7 S7 => ?_
      obtain ⟨p6, d6⟩ := keepD S5 hD1 p5 X6
      obtain ⟨p7, d7⟩ := keepD S6 d6 p6 X7
      have q7 := (q5.mono S5.hp S5.er X6).mono S6.hp S6.er X7
      have r7 := W.frameX S6 (W.frameX S5 k5 X6) X7
      have off7 : ∀ {a : Addr}, J a → ¬ Own μ7 cenv a := W.off S7 r7
      have X67 : ExtJ J cenv μ2 μ7 s2.heap s7.heap := X5.trans (fun j q => off7 j (.inl q)) (X6.trans X7)
      cases t with
      | false =>
        simp only [Bool.false_eq_true, if_false] at es ⊢
        cases es
        exact ⟨l.length, by simp, CI.skip (vals := [some v]) rfl S7 r7 hst X67 d7 p7 q7 er2 et⟩
      | true =>
        simp only [if_true] at es ⊢
        obtain ⟨y, H4, e4, es⟩ := Res.get_ok es
        cases es
        refine (he _).ok (C := C.plus J) G.toZ hcs S7 a e4 fun u8 s8 μ8 X8 S8 V8 => ?_
        obtain ⟨p8, d8⟩ := keepD S7 d7 p7 X8
        have r8 := W.frameX S7 r7 X8
        have off8 : ∀ {a : Addr}, J a → ¬ Own μ8 cenv a := W.off S8 r8
        exact CI.keep (C := C.plus J) W hD2 hbD hz (vals := [some v]) rfl S8 r8 hst (X67.trans (fun j q => off8 j (.inl q)) X8) d8 p8 (q7.mono S7.hp S7.er X8) V8 er2 et
  refine codeAny_compStart_list (loop _ rfl) (W.self (s := { s2 with heap := h4 }) r4 (loop _ rfl))
theorem comp2_go (hq : T.q = false) {x y : Str} {px py tp pos : Pos} {x1 : Nat} {iter elt : Expr} {di : AEnv → AHeap → Res (List AV × List (Nat × List AV))} {de : AEnv → AHeap → Res AV} {vs : List AV} {Hf : AHeap} {RR : Value → Addr → Result → Shared → Prop}
    (hs : ScOk scope S Γ [x, y]) (hxy : (x == y) = false) (hi : ItOk C T n b Γ S nm iter di) (he : ∀ z, EvOk (C.withZ z) T n b (x :: y :: Γ) (relab scope S) elt de)
    (G : Gnd C T base) (hS : env.scope = S) (st : St C base b env Γ ρ μ H s) (a : AOk base A n)
    (ed : ((di ρ H).get fun p H => compL p.2 (fun v H => pairR (fun x y => (de (some x :: some y :: ρ) H).get fun x H => .ok (some x) H) v) p.1 H) = .ok vs Hf) (hz : vs.length ≤ lim)
    (k : ∀ D L s', CEnd C base b env Γ ρ μ s.heap vs Hf D L s' → RR (.ref D) L (.ok .next) s') :
    wpAny (model C.prog C.w) A (eval iter env) (fun x' s₁ => wpAny (model C.prog C.w) A (pyIter x') (fun it s₂ => wpAny (model C.prog C.w) A (newList []) (fun acc s₃ =>
      wpAny (model C.prog C.w) A (newFunctionEnv scope env.globals (closL env scope.names []) [] env.qual none .none (some env)) (fun cenv s₄ =>
        codeAny (model C.prog C.w) A (.compStart (.ListComp elt [⟨.Tuple [.Name x px, .Name y py] x1 tp, iter, [], 0⟩] scope pos) 0 it acc { cenv with scope := relabel scope env }) (RR acc cenv.locals) s₄) E s₃) E s₂) E s₁) E s := by
  obtain ⟨p, H0, e0, ed⟩ := Res.get_ok ed
  refine comp_enter hs hi G hS st a e0 fun it D L cenv J R MM μ2 s2 h4 Z => ?_
  subst hS
  obtain ⟨X0, hJ0, hJb, S2, W, r0, hw, kk24, pl4, hD2, S4, N4, hcs, hcl, hsk⟩ := id Z
  have hJD : ¬ J D := fun j => by obtain ⟨o, e⟩ := W.live r0 j; rw [hD2] at e; cases e
  have hbD : base.get? D = none := base_none S2 hD2
  have hDm : D ∉ μ2 := not_mem S2 hD2
  have hx0 : slot ([x, y] ++ Γ) x = some 0 := by
    rw [slot_app]; unfold slot; simp [List.findIdx?_cons]
  have hy0 : slot ([x, y] ++ Γ) y = some 1 := by
    rw [slot_app]; unfold slot; simp [List.findIdx?_cons, hxy]
  have r4 : R p.1 μ2 h4 := W.frame r0 List.prefix_rfl fun e _ => kk24 e
  have loop : ∀ s₃ : Shared, s₃ = { s2 with heap := h4 } → codeAny (model C.prog C.w) A (.compLoop (.ListComp elt [⟨.Tuple [.Name x px, .Name y py] x1 tp, iter, [], 0⟩] scope pos) 0 it (.ref D) cenv) (RR (.ref D) L) s₃ := by
    rintro s₃ rfl
    refine compTurns (CI (C.plus J) J base b env cenv [x, y] Γ ρ D p.2 R μ2 s2.heap (fun v H => pairR (fun x y => (de (some x :: some y :: ρ) H).get fun x H => .ok (some x) H) v) vs Hf) ?_ p.1.length
      ⟨p.1, _, [], [], μ2, H0, rfl, by simp, S4, r4, hw, ExtJ.grow kk24, hDm, pl4, .nil, vs, ed, rfl⟩
    rintro m s1 ⟨l, vals, done, items, μ1, H1, rfl, hv, S1, r1, hw1, X1, hD1, p1, q1, r, er, et⟩
    cases l with
    | nil =>
      exact comp_nil Z st a hz k hv S1 r1 hw1 X1 hD1 p1 q1 er et fun _ q => q
    | cons v l =>
      obtain ⟨o, H2, r', es, hst, er2, rfl⟩ := compL_cons er
      obtain ⟨v1, v2, rfl⟩ : ∃ v1 v2, v = .tup [v1, v2] := by
        unfold pairR at es
        split at es
        · exact ⟨_, _, rfl⟩
        · cases es
      refine W.item S1 a (fun j => .inr j) hw1 r1 fun u h' tk kk V m => ?_
      obtain ⟨t, p1', p2', rfl, ht, V1, V2⟩ := pairOf V
      refine W.own (s := { s1 with heap := h', toks := tk }) m fun h'' kk' r2 => ?_
      have kk2 : ∀ {a : Addr} {o : Obj}, ¬ J a → s1.heap.get? a = some o → h''.get? a = some o := fun nj e => kk' nj (kk nj e)
      have S5 := S1.stepJ (tk := tk) kk2 (W.off S1 r1) hJb (W.live r2)
      obtain ⟨i0, p1''⟩ := id p1
      have p5 : h''.PlainList D items.toArray := ⟨i0, kk2 hJD p1''⟩
      have q5 : VRs (C.plus J) μ1 h'' done items := VRs.butJ (C := C.plus J) (J := J) (fun j => .inr j) kk2 q1
      have X5 : ExtJ J cenv μ2 μ1 s2.heap h'' := X1.step kk2
      have V' : VR (C.plus J) μ1 h'' (.tup [v1, v2]) (.ref t) := VR.butJ (C := C.plus J) (J := J) (fun j => .inr j) kk' V
      obtain ⟨t', q1', q2', et', ht', W1, W2⟩ := pairOf V'
      cases et'
      refine assign2_ok (M := model C.prog C.w) (C := C.plus J) (S := relab scope env.scope) (G.q.trans hq) hcs a S5 hx0 (hsk x (by simp)) hy0 (hsk y (by simp)) ht' W1 W2 fun s6 S6 X6 => ?_
      obtain ⟨o0, o1, rfl⟩ : ∃ o o', vals = [o, o'] := by
        match vals, hv with
        | [o, o'], _ => exact ⟨o, o', rfl⟩
      have S6' : St (C.plus J) base b cenv (x :: y :: Γ) (some v1 :: some v2 :: ρ) μ1 H1 s6 := S6
      obtain ⟨p6, d6⟩ := keepD S5 hD1 p5 X6
      have q6 := q5.mono S5.hp S5.er X6
      have r6 := W.frameX S5 r2 X6
      have off6 : ∀ {a : Addr}, J a → ¬ Own μ1 cenv a := W.off S6 r6
      have X66 : ExtJ J cenv μ2 μ1 s2.heap s6.heap := X5.trans (fun j q => off6 j (.inl q)) X6
      simp only [pairR] at es
      obtain ⟨y', H4, e4, es⟩ := Res.get_ok es
      cases es
      refine (he _).ok (C := C.plus J) G.toZ hcs S6' a e4 fun u8 s8 μ8 X8 S8 V8 => ?_
      obtain ⟨p8, d8⟩ := keepD S6' d6 p6 X8
      have r8 := W.frameX S6' r6 X8
      have off8 : ∀ {a : Addr}, J a → ¬ Own μ8 cenv a := W.off S8 r8
      exact CI.keep (C := C.plus J) W hD2 hbD hz (vals := [some v1, some v2]) rfl S8 r8 hst (X66.trans (fun j q => off8 j (.inl q)) X8) d8 p8 (q6.mono S6'.hp S6'.er X8) V8 er2 et
  refine codeAny_compStart_list (loop _ rfl) (W.self (s := { s2 with heap := h4 }) r4 (loop _ rfl))

/-- the list as a value -/
theorem CEnd.value {vs : List AV} {Hf : AHeap} {Q : Value → Shared → Prop} {D L : Addr} {s1 : Shared} (h : CEnd C base b env Γ ρ μ s.heap vs Hf D L s1) (st : St C base b env Γ ρ μ H s) (k : After C base b env Γ ρ μ s (.ref Hf.length) (Hf ++ [.list vs]) Q) :
    compPost (model C.prog C.w) A E none Q (.ref D) L (.ok .next) s1 := by
  obtain ⟨⟨μ1, S1, X1, V1, hO⟩, ⟨m, nn⟩, hb, hnew⟩ := h
  refine ⟨m, nn, fun h' hs => ?_⟩
  have ht : ∀ {ts : Array Value}, ¬ s1.heap.IsTuple L ts := ns_notTuple nn
  have hf : ∀ {o : Obj} {vs : Array Value}, s1.heap.get? L = some o → o.data ≠ .fields vs := ns_notFields nn
  refine k _ _ (μ1 ++ [D]) (X1.but (J := (· = L)) (fun j => by subst j; exact hnew) fun n e => (hs.2 _ n).trans e) (S1.other (tk := s1.toks) ht hf hO hb hs (fun z => by obtain ⟨o, e⟩ := st.zl z; rw [hnew] at e; cases e) (st.ff.fresh hnew)) (V1.other ht hf hs)
/-- the list as a name's -/
theorem CEnd.use {vs : List AV} {Hf : AHeap} {Q : Value → Shared → Prop} {D L : Addr} {s1 : Shared} {y : Str} {i : Nat} {py : Pos} (hy : slot Γ y = some i) (hk : env.kindOf y = some .local ∨ env.kindOf y = some .cell) (h : CEnd C base b env Γ ρ μ s.heap vs Hf D L s1) (st : St C base b env Γ ρ μ H s)
    (k : ∀ s' μ', Ext env μ μ' s.heap s'.heap → St C base b env Γ (ρ.set i (some (.ref Hf.length))) μ' (Hf ++ [.list vs]) s' → Q .none s') :
    compPost (model C.prog C.w) A E (some (assign (.Name y py) env)) Q (.ref D) L (.ok .next) s1 := by
  obtain ⟨⟨μ1, S1, X1, V1, hO⟩, ⟨m, nn⟩, hb, hnew⟩ := h
  refine wpAny_assign_Name (S1.bind hy hk V1 fun s2 S2 X2 => ?_)
  have nn2 : s2.heap.Ns L m := Kp.ns nn fun e => X2.stay e hO
  refine ⟨m, nn2, fun h' hs => ?_⟩
  have ht : ∀ {ts : Array Value}, ¬ s2.heap.IsTuple L ts := ns_notTuple nn2
  have hf : ∀ {o : Obj} {vs : Array Value}, s2.heap.get? L = some o → o.data ≠ .fields vs := ns_notFields nn2
  refine k _ (μ1 ++ [D]) ((X1.trans X2).but (J := (· = L)) (fun j => by subst j; exact hnew) fun n e => (hs.2 _ n).trans e) (S2.other (tk := s2.toks) ht hf hO hb hs (fun z => by obtain ⟨o, e⟩ := st.zl z; rw [hnew] at e; cases e) (st.ff.fresh hnew))

theorem closed (hs : ScOk scope env.scope Γ xs) (st : St C base b env Γ ρ μ H s) : closureFor scope env = pure (closL env scope.names []) :=
  closureFor_eq fun p hp e => by
    obtain ⟨c, o, ec, _⟩ := st.er.cells (hs.free p hp e).2
    exact ⟨c, ec⟩

theorem EvOk.comp1 {x : Str} {px pos : Pos} {iter elt : Expr} {ifs : List Expr} {d : AEnv → AHeap → Res AV} {di : AEnv → AHeap → Res (List AV × List (Nat × List AV))} {dc : AEnv → AHeap → Res Bool} {de : AEnv → AHeap → Res AV}
    (hs : ScOk scope S Γ [x]) (hset : notSet iter = true) (hi : ItOk C T n b Γ S true iter di) (hc : ∀ z, CoOk (C.withZ z) T n b (x :: Γ) (relab scope S) ifs dc) (he : ∀ z, EvOk (C.withZ z) T n b (x :: Γ) (relab scope S) elt de)
    (hd : ∀ ρ H, d ρ H = (di ρ H).get fun p H => (compL p.2 (fun v H => (dc (some v :: ρ) H).get fun t H => if t then (de (some v :: ρ) H).get fun x H => .ok (some x) H else .ok none H) p.1 H).get fun vs H => alloc vs H) :
    EvOk C T n b Γ S (.ListComp elt [⟨.Name x px, iter, ifs, 0⟩] scope pos) d := by
  refine ⟨?_⟩
  intro base env ρ μ H H' s A E Q v' G hS st a ed k
  rw [hd] at ed
  obtain ⟨p, H1, e1, ed⟩ := Res.get_ok ed
  obtain ⟨vs, H2, e2, ed⟩ := Res.get_ok ed
  obtain ⟨hz, rfl, rfl⟩ := alloc_ok ed
  rw [eval_ListComp]
  subst hS
  refine wpAny_comprehension_free (use := none) rfl (notSet_folded hset) (closed hs st) hs.kind hs.loc ?_
  refine comp1_go (RR := compPost (model C.prog C.w) A E none Q) hs hi hc he G rfl st a (vs := vs) (Hf := H2) (by rw [e1]; exact e2) hz fun D L s' h => h.value st k
theorem EvOk.comp2 (hq : T.q = false) {x y : Str} {px py tp pos : Pos} {x1 : Nat} {iter elt : Expr} {d : AEnv → AHeap → Res AV} {di : AEnv → AHeap → Res (List AV × List (Nat × List AV))} {de : AEnv → AHeap → Res AV}
    (hs : ScOk scope S Γ [x, y]) (hxy : (x == y) = false) (hset : notSet iter = true) (hi : ItOk C T n b Γ S nm iter di) (he : ∀ z, EvOk (C.withZ z) T n b (x :: y :: Γ) (relab scope S) elt de)
    (hd : ∀ ρ H, d ρ H = (di ρ H).get fun p H => (compL p.2 (fun v H => pairR (fun x y => (de (some x :: some y :: ρ) H).get fun x H => .ok (some x) H) v) p.1 H).get fun vs H => alloc vs H) :
    EvOk C T n b Γ S (.ListComp elt [⟨.Tuple [.Name x px, .Name y py] x1 tp, iter, [], 0⟩] scope pos) d := by
  refine ⟨?_⟩
  intro base env ρ μ H H' s A E Q v' G hS st a ed k
  rw [hd] at ed
  obtain ⟨p, H1, e1, ed⟩ := Res.get_ok ed
  obtain ⟨vs, H2, e2, ed⟩ := Res.get_ok ed
  obtain ⟨hz, rfl, rfl⟩ := alloc_ok ed
  rw [eval_ListComp]
  subst hS
  refine wpAny_comprehension_free (use := none) rfl (notSet_folded hset) (closed hs st) hs.kind hs.loc ?_
  refine comp2_go (RR := compPost (model C.prog C.w) A E none Q) hq hs hxy hi he G rfl st a (vs := vs) (Hf := H2) (by rw [e1]; exact e2) hz fun D L s' h => h.value st k

theorem swaps_cases {elt : Expr} {gens : List Comprehension} {scope : Scope} {pos py : Pos} {y : Str} {l : Nat} : swapsWith (.ListComp elt gens scope pos) (some (.Name y py)) l env = pure true ∨ swapsWith (.ListComp elt gens scope pos) (some (.Name y py)) l env = pure false := by
  unfold swapsWith
  simp only
  generalize hb : (env.blockKind == .function && env.kindOf y == some .local && py.line == (Expr.ListComp elt gens scope pos).pos.line && !(scope.names.any fun (n, k) => n == y && (k == .local || k == .cell))) = t
  cases t
  · exact .inr rfl
  · exact .inl rfl

theorem SOk.assignC1 {y : Str} {i : Nat} {py spos : Pos} {x : Str} {px pos : Pos} {iter elt : Expr} {ifs : List Expr} {d : AEnv → AHeap → SR} {d1 : AEnv → AHeap → Res AV} {di : AEnv → AHeap → Res (List AV × List (Nat × List AV))} {dc : AEnv → AHeap → Res Bool} {de : AEnv → AHeap → Res AV}
    (hy : slot Γ y = some i) (hk : isStoreK S y = true)
    (hs : ScOk scope S Γ [x]) (hset : notSet iter = true) (hi : ItOk C T n b Γ S true iter di) (hc : ∀ z, CoOk (C.withZ z) T n b (x :: Γ) (relab scope S) ifs dc) (he : ∀ z, EvOk (C.withZ z) T n b (x :: Γ) (relab scope S) elt de)
    (hd1 : ∀ ρ H, d1 ρ H = (di ρ H).get fun p H => (compL p.2 (fun v H => (dc (some v :: ρ) H).get fun t H => if t then (de (some v :: ρ) H).get fun x H => .ok (some x) H else .ok none H) p.1 H).get fun vs H => alloc vs H)
    (hd : ∀ ρ H, d ρ H = (match d1 ρ H with | .ok v H => .next (ρ.set i (some v)) H | _ => .bad)) :
    SOk C T n b Γ S (.Assign [.Name y py] (.ListComp elt [⟨.Name x px, iter, ifs, 0⟩] scope pos) spos) d := by
  refine ⟨?_⟩
  intro base env ρ μ H s A E Q G hS st a k
  rw [hd] at k
  cases ed : d1 ρ H with
  | ok v H1 =>
    rw [ed] at k
    rcases swaps_cases (env := env) (elt := elt) (gens := [⟨.Name x px, iter, ifs, 0⟩]) (scope := scope) (pos := pos) (py := py) (y := y) (l := spos.line) with hsw | hsw
    · rw [exec_Assign_Name_used _ _ _ _ hsw]
      refine wpAny_bind (wpAny_standAt (wpAny_bind ?_))
      show wpAny _ A (do let _ ← comprehension (.ListComp elt [⟨.Name x px, iter, ifs, 0⟩] scope pos) scope env _ (newList []) false (eval iter env) (some (assign (.Name y py) env))) _ _ s
      rw [hd1] at ed
      obtain ⟨p, H2, e1, ed⟩ := Res.get_ok ed
      obtain ⟨vs, H3, e2, ed⟩ := Res.get_ok ed
      obtain ⟨hz, rfl, rfl⟩ := alloc_ok ed
      obtain ⟨hS, hF⟩ := hS
      subst hS
      refine wpAny_bind (wpAny_mono (wpAny_comprehension_free (use := some (assign (.Name y py) env)) (Q := fun _ s' => Q .next s') rfl (notSet_folded hset) (closed hs st) hs.kind hs.loc ?_) (fun _ s' hq => wpAny_pure (wpAny_pure hq)) fun _ _ e => e)
      exact comp1_go (RR := compPost (model C.prog C.w) A E (some (assign (.Name y py) env)) fun _ s' => Q .next s') hs hi hc he G rfl st a (vs := vs) (Hf := H3) (by rw [e1]; exact e2) hz fun D L s' h => h.use hy (storeK rfl hk) st fun s'' μ'' X S' => k s'' μ'' X S'
    · refine wpAny_Assign_Name ((EvOk.comp1 hs hset hi hc he hd1).ok G hS.sc st a ed fun u s' μ' X S' V => ?_) hsw
      exact S'.bind hy (storeK hS.sc hk) V fun s'' S'' X' => k s'' μ' (X.trans X') S''
  | exc c H1 => rw [ed] at k; exact k.elim
  | bad => rw [ed] at k; exact k.elim
theorem SOk.assignC2 (hq : T.q = false) {y0 : Str} {i : Nat} {py0 spos : Pos} {x y : Str} {px py tp pos : Pos} {x1 : Nat} {iter elt : Expr} {d : AEnv → AHeap → SR} {d1 : AEnv → AHeap → Res AV} {di : AEnv → AHeap → Res (List AV × List (Nat × List AV))} {de : AEnv → AHeap → Res AV}
    (hy : slot Γ y0 = some i) (hk : isStoreK S y0 = true)
    (hs : ScOk scope S Γ [x, y]) (hxy : (x == y) = false) (hset : notSet iter = true) (hi : ItOk C T n b Γ S nm iter di) (he : ∀ z, EvOk (C.withZ z) T n b (x :: y :: Γ) (relab scope S) elt de)
    (hd1 : ∀ ρ H, d1 ρ H = (di ρ H).get fun p H => (compL p.2 (fun v H => pairR (fun x y => (de (some x :: some y :: ρ) H).get fun x H => .ok (some x) H) v) p.1 H).get fun vs H => alloc vs H)
    (hd : ∀ ρ H, d ρ H = (match d1 ρ H with | .ok v H => .next (ρ.set i (some v)) H | _ => .bad)) :
    SOk C T n b Γ S (.Assign [.Name y0 py0] (.ListComp elt [⟨.Tuple [.Name x px, .Name y py] x1 tp, iter, [], 0⟩] scope pos) spos) d := by
  refine ⟨?_⟩
  intro base env ρ μ H s A E Q G hS st a k
  rw [hd] at k
  cases ed : d1 ρ H with
  | ok v H1 =>
    rw [ed] at k
    rcases swaps_cases (env := env) (elt := elt) (gens := [⟨.Tuple [.Name x px, .Name y py] x1 tp, iter, [], 0⟩]) (scope := scope) (pos := pos) (py := py0) (y := y0) (l := spos.line) with hsw | hsw
    · rw [exec_Assign_Name_used _ _ _ _ hsw]
      refine wpAny_bind (wpAny_standAt (wpAny_bind ?_))
      show wpAny _ A (do let _ ← comprehension (.ListComp elt [⟨.Tuple [.Name x px, .Name y py] x1 tp, iter, [], 0⟩] scope pos) scope env _ (newList []) false (eval iter env) (some (assign (.Name y0 py0) env))) _ _ s
      rw [hd1] at ed
      obtain ⟨p, H2, e1, ed⟩ := Res.get_ok ed
      obtain ⟨vs, H3, e2, ed⟩ := Res.get_ok ed
      obtain ⟨hz, rfl, rfl⟩ := alloc_ok ed
      obtain ⟨hS, hF⟩ := hS
      subst hS
      refine wpAny_bind (wpAny_mono (wpAny_comprehension_free (use := some (assign (.Name y0 py0) env)) (Q := fun _ s' => Q .next s') rfl (notSet_folded hset) (closed hs st) hs.kind hs.loc ?_) (fun _ s' hq => wpAny_pure (wpAny_pure hq)) fun _ _ e => e)
      exact comp2_go (RR := compPost (model C.prog C.w) A E (some (assign (.Name y0 py0) env)) fun _ s' => Q .next s') hq hs hxy hi he G rfl st a (vs := vs) (Hf := H3) (by rw [e1]; exact e2) hz fun D L s' h => h.use hy (storeK rfl hk) st fun s'' μ'' X S' => k s'' μ'' X S'
    · refine wpAny_Assign_Name ((EvOk.comp2 hq hs hxy hset hi he hd1).ok G hS.sc st a ed fun u s' μ' X S' V => ?_) hsw
      exact S'.bind hy (storeK hS.sc hk) V fun s'' S'' X' => k s'' μ' (X.trans X') S''
  | exc c H1 => rw [ed] at k; exact k.elim
  | bad => rw [ed] at k; exact k.elim
end
end Mine

namespace Mine
open PySem PySem.Calls PyProof.Rows

theorem zip_lookup_some : ∀ {names : List Str} {us : List Value}, names.length = us.length → ∀ {n : Str}, n ∈ names → ((names.zip us).lookup n).isSome = true
  | [], _, _, _, h => by cases h
  | x :: r, [], e, _, _ => by cases e
  | x :: r, u :: us, e, n, h => by
    simp only [List.zip_cons_cons, List.lookup_cons]
    cases q : n == x with
    | true => rfl
    | false =>
      rcases List.mem_cons.mp h with h | h
      · subst h; simp at q
      · exact zip_lookup_some (by simpa using e) h
theorem zip_filterMap_aux {f : List (Str × Value)} : ∀ {names : List Str} {us : List Value}, names.length = us.length → (∀ n v, (n, v) ∈ names.zip us → f.lookup n = some v) → names.filterMap (fun n => (f.lookup n).map (n, ·)) = names.zip us
  | [], _, _, _ => rfl
  | x :: r, [], e, _ => by cases e
  | x :: r, u :: us, e, h => by
    have h1 := h x u (by simp)
    rw [List.filterMap_cons, h1]
    simp only [Option.map_some, List.zip_cons_cons]
    rw [zip_filterMap_aux (by simpa using e) fun n v q => h n v (by simp [q])]
theorem zip_lookup_mem : ∀ {names : List Str} {us : List Value}, names.length = us.length → names.Nodup → ∀ {n : Str} {v : Value}, (n, v) ∈ names.zip us → (names.zip us).lookup n = some v
  | [], _, _, _, _, _, h => by simp at h
  | x :: r, [], e, _, _, _, _ => by cases e
  | x :: r, u :: us, e, nd, n, v, h => by
    simp only [List.zip_cons_cons, List.lookup_cons, List.mem_cons] at h ⊢
    rcases h with h | h
    · cases h; simp
    · have hn : n ∈ r := (List.of_mem_zip h).1
      have : n ≠ x := fun q => (List.nodup_cons.mp nd).1 (q ▸ hn)
      rw [show (n == x) = false by simpa using this]
      exact zip_lookup_mem (by simpa using e) (List.nodup_cons.mp nd).2 h
theorem zip_filterMap {names : List Str} {us : List Value} (e : names.length = us.length) (nd : names.Nodup) : names.filterMap (fun n => ((names.zip us).lookup n).map (n, ·)) = names.zip us :=
  zip_filterMap_aux e fun n v h => zip_lookup_mem e nd h

theorem bindArgs_open {fd : FuncData} {us : List Value} (h1 : fd.params.posonlyargs = []) (h2 : fd.params.vararg = none) (h3 : fd.params.kwonlyargs = []) (h4 : fd.params.kwarg = none) (h5 : fd.defaults = .none)
    (hg : ¬ (us.length > (fd.params.args.map Arg.arg).length)) (hm : ∀ k, ((fd.params.args.map Arg.arg).take k).filter (fun n => (((fd.params.args.map Arg.arg).zip us).lookup n).isNone) = []) {R : List (Str × Value)} (hz : (fd.params.args.map Arg.arg ++ []).filterMap (fun n => (((fd.params.args.map Arg.arg).zip us).lookup n).map (n, ·)) = R) : bindArgs fd ⟨us, []⟩ = pure R := by
  rcases fd with ⟨nm, qn, ⟨po, as, va, ko, kd, kw, df⟩, bd, sc, gl, cl, dfl, kwd, dc, pm, an, cd, ct, bi⟩
  dsimp only at h1 h2 h3 h4 h5 hg hm hz
  subst h1 h2 h3 h4 h5 hz
  have nz : ∀ c : Bool, c = false → ¬ (c = true) := fun c h => by rw [h]; decide
  refine (if_neg (c := ((decide (us.length > (as.map Arg.arg).length) && true) = true)) (nz _ (by rw [decide_eq_false hg]; rfl))).trans ?_
  have hd : ∀ {α : Type} (k : Nat), (#[] : Array α).toList.drop k = [] := fun k => List.drop_nil
  refine (if_neg (nz _ (Bool.not_eq_eq_eq_not.mpr (by exact congrArg List.isEmpty (hm _))))).trans ?_
  dsimp only
  erw [hd]
  rw [List.zip_nil_right]
  rfl
theorem bindArgs_plain {fd : FuncData} {us : List Value} (h1 : fd.params.posonlyargs = []) (h2 : fd.params.vararg = none) (h3 : fd.params.kwonlyargs = []) (h4 : fd.params.kwarg = none) (h5 : fd.defaults = .none)
    (hl : fd.params.args.length = us.length) (hn : (fd.params.args.map (·.arg)).Nodup) : bindArgs fd ⟨us, []⟩ = pure ((fd.params.args.map (·.arg)).zip us) := by
  have hl' : (fd.params.args.map (·.arg)).length = us.length := by simpa using hl
  have hm : ∀ k, ((fd.params.args.map (·.arg)).take k).filter (fun n => (((fd.params.args.map (·.arg)).zip us).lookup n).isNone) = [] := fun k => by
    rw [List.filter_eq_nil_iff]
    intro n hn' e
    have := zip_lookup_some hl' (List.mem_of_mem_take hn')
    rw [Option.isNone_iff_eq_none] at e
    rw [e] at this; cases this
  exact bindArgs_open h1 h2 h3 h4 h5 (fun q => Nat.lt_irrefl _ (hl' ▸ q)) hm (by rw [List.append_nil]; exact zip_filterMap hl' hn)

theorem bindL_notin {kf : Str → Option NameKind} {x : Str} : ∀ {binds : List (Str × Value)} {m : Str → Option Value}, x ∉ binds.map (·.1) → bindL kf binds m x = m x
  | [], m, _ => rfl
  | (n, v) :: r, m, h => by
    simp only [List.map_cons, List.mem_cons, not_or] at h
    unfold bindL
    rw [bindL_notin h.2]
    split
    · exact if_neg h.1
    · rfl
theorem bindL_mem {kf : Str → Option NameKind} {x : Str} {u : Value} (hk : kf x = some .local) : ∀ {binds : List (Str × Value)} {m : Str → Option Value}, (binds.map (·.1)).Nodup → (x, u) ∈ binds → bindL kf binds m x = some u
  | [], m, _, h => by cases h
  | (n, v) :: r, m, nd, h => by
    simp only [List.map_cons, List.nodup_cons] at nd
    unfold bindL
    rcases List.mem_cons.mp h with h | h
    · cases h
      rw [bindL_notin nd.1, if_pos hk]; exact if_pos rfl
    · exact bindL_mem hk nd.2 h
theorem bindC_notin {kf : Str → Option NameKind} {x : Str} : ∀ {binds : List (Str × Value)} {m : Str → Option Value}, x ∉ binds.map (·.1) → bindC kf binds m x = m x
  | [], m, _ => rfl
  | (n, v) :: r, m, h => by
    simp only [List.map_cons, List.mem_cons, not_or] at h
    unfold bindC
    rw [bindC_notin h.2]
    split
    · rfl
    · exact if_neg h.1
theorem bindC_mem {kf : Str → Option NameKind} {x : Str} {u : Value} (hk : kf x ≠ some .local) : ∀ {binds : List (Str × Value)} {m : Str → Option Value}, (binds.map (·.1)).Nodup → (x, u) ∈ binds → bindC kf binds m x = some u
  | [], m, _, h => by cases h
  | (n, v) :: r, m, nd, h => by
    simp only [List.map_cons, List.nodup_cons] at nd
    unfold bindC
    rcases List.mem_cons.mp h with h | h
    · cases h
      rw [bindC_notin nd.1, if_neg hk]; exact if_pos rfl
    · exact bindC_mem hk nd.2 h

theorem not_mem' {C : Cx} {μ : List Addr} {H : AHeap} {h : Heap} (hp : HeapR C μ H h) {a : Addr} (ha : h.get? a = none) : a ∉ μ := fun q => by
  obtain ⟨o, e⟩ := hp.live q; rw [ha] at e; cases e
section
variable {C : Cx} {T : Tab} {n b : Nat} {Γ : List Str} {S : Scope} {J : Addr → Prop}
variable {base : Bs} {env cenv : Env} {ρ : AEnv} {μ μ' : List Addr} {H H' : AHeap} {s s' : Shared} {A : Around} {E : Value → Shared → Prop}

structure FnOk (T : Tab) (f : FnI) (params : Arguments) (body : List Stmt) (S : Scope) : Prop where
  posonly : params.posonlyargs = []
  vararg : params.vararg = none
  kwonly : params.kwonlyargs = []
  kwarg : params.kwarg = none
  np : params.args.length = f.np
  take : (gamOf S).take f.np = params.args.map (·.arg)
  nv : (gamOf S).length = f.nv
  nd : (S.names.map (·.1)).Nodup
  kind : S.kind = .function
  gen : S.isGenerator = false
  co : S.isCoroutine = false
  free : ∀ x ∈ S.names, x.2 ≠ .free
  body : chkSs T (gamOf S) S f.body body = true
theorem chkFn_ok {f : FnI} {params : Arguments} {body : List Stmt} (h : chkFn T f params body S = true) : FnOk T f params body S := by
  unfold chkFn at h
  simp only [Bool.and_eq_true, beq_iff_eq, List.isEmpty_iff, Option.isNone_iff_eq_none, decide_eq_true_eq, Bool.not_eq_true', List.all_eq_true, bne_iff_ne] at h
  obtain ⟨⟨⟨⟨⟨⟨⟨⟨⟨⟨⟨⟨⟨⟨h1, h2⟩, h3⟩, h4⟩, h5⟩, h6⟩, h7⟩, h8⟩, h9⟩, h10⟩, h11⟩, h12⟩, h13⟩, h14⟩, h15⟩ := h
  exact ⟨h1, h2, h3, h5, h7, h8, h9, h10, h11, h12, h13, h14, h15⟩

theorem gam_nodup (nd : (S.names.map (·.1)).Nodup) : (gamOf S).Nodup := by
  unfold gamOf
  exact List.Nodup.sublist (List.Sublist.map _ List.filter_sublist) nd
theorem lookup_nd : ∀ {l : List (Str × NameKind)}, (l.map (·.1)).Nodup → ∀ {x : Str} {k : NameKind}, (x, k) ∈ l → l.lookup x = some k
  | [], _, _, _, h => by cases h
  | (y, j) :: r, nd, x, k, h => by
    simp only [List.map_cons, List.nodup_cons] at nd
    rw [List.lookup_cons]
    rcases List.mem_cons.mp h with h | h
    · cases h; simp
    · have : x ≠ y := fun e => nd.1 (e ▸ List.mem_map_of_mem (f := (·.1)) h)
      rw [show (x == y) = false by simpa using this]
      exact lookup_nd nd.2 h

/-- the state at a def's head -/
theorem enterFn {fd : FuncData} {a : Addr} {f : FnI} {body : List Stmt} {vs : List AV} {us : List Value} (hp : HeapR C μ H s.heap) (hg : s.gens = #[]) (ho : s.os = C.os) (zl : ∀ {a : Addr}, C.z a → ∃ o, s.heap.get? a = some o)
    {g : Heap} {fs : List Env} {q : Bool} (gb : ∀ a o, g.get? a = some o → s.heap.get? a = some o) (ff : FF C.z s.heap g fs) (K : FnOk T f fd.params body fd.scope) (gl : fd.globals = mainGlobals) (bu : fd.builtins = builtinsNs) (V : VRs C μ s.heap vs us) (hv : vs.length = f.np)
    (x : InCallC s (callEnvC fd s.heap.objs.size a).locals (bindL (callEnvC fd s.heap.objs.size a).kindOf ((fd.params.args.map (·.arg)).zip us) fun _ => none) (callEnvC fd s.heap.objs.size a).cells
        (bindC (callEnvC fd s.heap.objs.size a).kindOf ((fd.params.args.map (·.arg)).zip us) fun _ => none) s') :
    St C ⟨s.heap, g, callEnvC fd s.heap.objs.size a :: fs, q, gb⟩ H.length (callEnvC fd s.heap.objs.size a) (gamOf fd.scope) (vs.map some ++ List.replicate (f.nv - f.np) none) μ H s' := by
  obtain ⟨⟨⟨h1, tk, rfl⟩, nn, kp, fr⟩, hcell, apart, above⟩ := x
  have kk : ∀ {a : Addr} {o : Obj}, s.heap.get? a = some o → h1.get? a = some o := fun {a o} e => kp a o e
  have hul : us.length = f.np := by rw [← V.length, hv]
  have hkl : (fd.params.args.map (·.arg)).length = us.length := by rw [List.length_map, K.np, hul]
  have gnd := gam_nodup K.nd
  have pnd : (fd.params.args.map (·.arg)).Nodup := by rw [← K.take]; exact gnd.sublist (List.take_sublist _ _)
  have bnd : (((fd.params.args.map (·.arg)).zip us).map (·.1)).Nodup := by rw [List.map_fst_zip (by (first | lia | omega))]; exact pnd
  have val : ∀ {x : Str} {i : Nat} {v : AV}, slot (gamOf fd.scope) x = some i → (vs.map some ++ List.replicate (f.nv - f.np) none)[i]? = some (some v) → ∃ u, (x, u) ∈ (fd.params.args.map (·.arg)).zip us ∧ VR C μ h1 v u := by
    intro x i v e1 e2
    have hi : i < vs.length := by
      by_cases hi : i < vs.length
      · exact hi
      · rw [List.getElem?_append_right (by simpa using Nat.not_lt.mp hi), List.getElem?_replicate] at e2
        split at e2 <;> cases e2
    rw [List.getElem?_append_left (by simpa using hi), List.getElem?_map] at e2
    have ev : vs[i]? = some v := by
      cases q : vs[i]? with
      | none => rw [q] at e2; cases e2
      | some w => rw [q] at e2; cases e2; rfl
    obtain ⟨u, eu, vu⟩ := V.get ev
    refine ⟨u, ?_, vu.keeps kk⟩
    have ex := slot_lt e1
    have ex' : (fd.params.args.map (·.arg))[i]? = some x := by
      rw [← K.take, List.getElem?_take, if_pos (by (first | lia | omega))]; exact ex
    rw [List.mem_iff_getElem?]
    exact ⟨i, by rw [List.getElem?_zip_eq_some]; exact ⟨ex', eu⟩⟩
  have ff' : FF C.z h1 g (callEnvC fd s.heap.objs.size a :: fs) := by
    obtain ⟨o, es, ep, eo, hd, _⟩ := id nn
    refine ⟨by rw [show (callEnvC fd s.heap.objs.size a).scope.kind = .function from K.kind]; decide, ⟨_, o, rfl, ?_, eo, ⟨es, ep, hd⟩, fun z => ?_⟩, (Lv.grow kk).ff ff⟩
    · cases q : g.get? s.heap.objs.size with
      | none => rfl
      | some o' => have := gb _ _ q; rw [none_size] at this; cases this
    · obtain ⟨o', e'⟩ := zl z
      rw [show s.heap.get? s.heap.objs.size = none from none_size _] at e'; cases e'
  refine ⟨fun a o e => .same (kp a o e), hp.keeps kk, ⟨K.kind, ⟨_, nn, ?_⟩, ?_, ?_, ?_, gl, bu⟩, ?_, none_ge fr, not_mem' hp (none_ge fr), ?_, hg, ho, fun z => let ⟨o, e⟩ := zl z; ⟨o, kk e⟩, ff'⟩
  · intro x i v e1 e2 e3
    obtain ⟨u, hm, vu⟩ := val e1 e3
    exact ⟨u, bindL_mem e2 bnd hm, vu⟩
  · intro x hk
    have hk' : fd.scope.names.lookup x = some .cell := by
      rcases hk with hk | hk
      · exact hk
      · exact absurd rfl (K.free _ (mem_of_lookup (show fd.scope.names.lookup x = some .free from hk)))
    obtain ⟨c, ec⟩ := cellsFrom_some fd.scope.names (s.heap.objs.size + 1) [] (.inl (mem_of_lookup hk'))
    refine ⟨c, _, ec, hcell x c ec, fun {i v} e1 e2 => ?_⟩
    obtain ⟨u, hm, vu⟩ := val e1 e2
    refine ⟨u, bindC_mem (fun e => ?_) bnd hm, vu⟩
    have e' : fd.scope.names.lookup x = some .local := e
    rw [hk'] at e'; cases e'
  · intro x c e
    exact ⟨_, hcell x c e⟩
  · intro x y c e1 e2
    exact name_of_addr apart (mem_of_lookup e1) (mem_of_lookup e2)
  · intro i a' hi e
    have := (List.getElem?_eq_some_iff.mp e).1
    rw [hp.len] at this; (first | lia | omega)
  · intro x c e
    exact none_ge (Nat.le_of_lt (above x c (mem_of_lookup e)))
end
end Mine

namespace Mine
open PySem PySem.Calls PyProof.Rows PySem.SeqAt

/-! str() of a thing. -/
section
variable {C : Cx} {T : Tab} {base : Bs} {n b : Nat} {env : Env} {Γ : List Str} {ρ : AEnv} {μ : List Addr} {H H' : AHeap} {s : Shared} {A : Around} {E : Value → Shared → Prop} {Q : Value → Shared → Prop} {strF : SrtF}

end
end Mine

namespace Mine
open PySem PySem.Calls PyProof.Rows

/-! sorted() of pairs: which questions are asked, and what comes of the answers -/
section
variable {α β : Type} {n : Nat} {p : Array Nat}
noncomputable def runK (ans : Nat → Nat → Bool) : PySem.W.KasT α → α
  | .ret a => a
  | .ask i j k => runK ans (k (ans i j))
/-- all questions are of things below n, and Q is true of whatever comes of them -/
noncomputable def AllK (n : Nat) (Q : α → Prop) : PySem.W.KasT α → Prop
  | .ret a => Q a
  | .ask i j k => (i < n ∧ j < n) ∧ ∀ b, AllK n Q (k b)
theorem AllK.bind {Q : β → Prop} {f : α → PySem.W.KasT β} : ∀ {t : PySem.W.KasT α}, AllK n (fun a => AllK n Q (f a)) t → AllK n Q (t.bind f)
  | .ret _, h => h
  | .ask _ _ _, h => ⟨h.1, fun b => AllK.bind (h.2 b)⟩
theorem AllK.mono {Q Q' : α → Prop} (q : ∀ a, Q a → Q' a) : ∀ {t : PySem.W.KasT α}, AllK n Q t → AllK n Q' t
  | .ret a, h => q a h
  | .ask _ _ _, h => ⟨h.1, fun b => AllK.mono q (h.2 b)⟩
theorem AllK.run {Q : α → Prop} {ans : Nat → Nat → Bool} : ∀ {t : PySem.W.KasT α}, AllK n Q t → Q (runK ans t)
  | .ret _, h => h
  | .ask i j k, h => (AllK.run (t := k (ans i j)) (h.2 (ans i j)) : Q (runK ans (k (ans i j))))
theorem AllK.go {Q : α → Prop} {ans : Nat → Nat → Bool} {cmp : Nat → Nat → (Bool → Shared → Prop) → Shared → Prop} {G : α → Shared → Prop} {s : Shared} (hc : ∀ {i j : Nat} {C : Bool → Shared → Prop}, i < n → j < n → C (ans i j) s → cmp i j C s) :
    ∀ {t : PySem.W.KasT α}, AllK n Q t → G (runK ans t) s → t.kasWp cmp G s
  | .ret _, _, g => g
  | .ask i j _, h, g => hc h.1.1 h.1.2 (AllK.go hc (h.2 (ans i j)) g)

/-- the numbers below n, each once -/
noncomputable def Pm (n : Nat) (p : Array Nat) : Prop := p.Perm (List.toArray (List.range (n + 1)))
theorem Pm.lt (h : Pm n p) {x : Nat} (hx : x ∈ p.toList) : x < n + 1 := by
  have := (Array.perm_iff_toList_perm.mp h).mem_iff.mp hx
  simpa using this
theorem Pm.at (h : Pm n p) (i : Nat) : p.getD i 0 < n + 1 := by
  unfold Array.getD
  split
  · rename_i hi
    exact h.lt (by simp)
  · exact Nat.succ_pos _
theorem Pm.rev (h : Pm n p) {i j : Nat} : Pm n (PySem.W.kas_rev p i j) := (mirror_perm p i j _).trans h
theorem Pm.bub (h : Pm n p) {i j : Nat} : Pm n (bubble p i j) := (bubble_perm p i j).trans h
theorem AllK.ite {Q : α → Prop} {c : Prop} [Decidable c] {t u : PySem.W.KasT α} (h1 : AllK n Q t) (h2 : AllK n Q u) : AllK n Q (if c then t else u) := by
  by_cases h : c
  · rw [if_pos h]; exact h1
  · rw [if_neg h]; exact h2
theorem asc_all (h : Pm n p) : ∀ (f k : Nat), AllK (n + 1) (fun _ => True) (PySem.W.kas_asc p f k)
  | 0, _ => trivial
  | f + 1, k => ⟨⟨h.at _, h.at _⟩, fun b => .ite trivial (asc_all h f (k + 1))⟩
theorem desc_all : ∀ (f : Nat) {p : Array Nat} (k q : Nat), Pm n p → AllK (n + 1) (fun r => Pm n r.1) (PySem.W.kas_desc f p k q)
  | 0, _, _, _, h => h
  | f + 1, p, k, q, h => ⟨⟨h.at _, h.at _⟩, fun b => .ite (.ite (desc_all f _ _ h.rev) (desc_all f _ _ h)) ⟨⟨h.at _, h.at _⟩, fun b => .ite h (desc_all f _ _ h)⟩⟩
theorem tail_all (h : Pm n p) {k l : Nat} : AllK (n + 1) (fun r => Pm n r.2) (PySem.W.kas_tail3 k l p) := AllK.bind ((asc_all h.rev _ _).mono fun _ _ => h.rev)
theorem part_all (h : Pm n p) {k l : Nat} : AllK (n + 1) (fun r => Pm n r.2) (PySem.W.kas_descPart k l p) := AllK.bind ((desc_all _ _ _ h).mono fun r hr => .ite (tail_all hr.rev) (tail_all hr))
theorem count_all (h : Pm n p) {l : Nat} : AllK (n + 1) (fun r => Pm n r.2) (PySem.W.kas_count l p) :=
  AllK.bind ((asc_all h _ _).mono fun r _ => .ite h (.ite ⟨⟨h.at _, h.at _⟩, fun b => .ite h (part_all h.rev)⟩ (part_all h)))
theorem place_all (h : Pm n p) {k : Nat} : ∀ (f l r : Nat), AllK (n + 1) (fun _ => True) (PySem.W.kas_place p k f l r)
  | 0, _, _ => trivial
  | f + 1, l, r => AllK.ite trivial ⟨⟨h.at _, h.at _⟩, fun b => .ite (place_all h f _ _) (place_all h f _ _)⟩
theorem bin_all : ∀ (f : Nat) {p : Array Nat} (k : Nat), Pm n p → AllK (n + 1) (Pm n) (PySem.W.kas_bin f p k)
  | 0, _, _, h => h
  | f + 1, p, k, h => AllK.bind ((place_all h _ _ _).mono fun l _ => bin_all f _ h.bub)
theorem sort_all : AllK (n + 1) (Pm n) (PySem.W.kas_sort (n + 1)) := AllK.bind ((count_all (Array.Perm.refl _)).mono fun r h => .ite (bin_all _ _ h) h)
end

noncomputable def ltP (a b : Int × Int) : Bool := if (a.1 == b.1) = true then (if (a.2 == b.2) = true then false else decide (a.2 < b.2)) else decide (a.1 < b.1)
noncomputable abbrev ansP (ps : List (Int × Int)) (i j : Nat) : Bool := ltP (ps.getD i (0, 0)) (ps.getD j (0, 0))
noncomputable def ordP (ps : List (Int × Int)) : List Nat := (runK (ansP ps) (PySem.W.kas_sort ps.length)).toList
/-- how pairs are put in order -/
noncomputable def srtF : SrtF := fun ps => some (if 2 ≤ ps.length then (ordP ps).map fun i => ps.getD i (0, 0) else ps)
theorem ordP_perm {ps : List (Int × Int)} (h : 2 ≤ ps.length) : (ordP ps).Perm (List.range ps.length) := by
  obtain ⟨n, e⟩ : ∃ n, ps.length = n + 1 := ⟨ps.length - 1, by (first | lia | omega)⟩
  unfold ordP
  rw [e]
  exact Array.perm_iff_toList_perm.mp (AllK.run (ans := ansP ps) (sort_all (n := n)))
theorem srtF_shuf (ps : List (Int × Int)) : ∃ qs, srtF ps = some qs ∧ qs.Perm ps := by
  refine ⟨_, rfl, ?_⟩
  by_cases h : 2 ≤ ps.length
  · rw [if_pos h]
    refine ((ordP_perm h).map _).trans ?_
    have : (List.range ps.length).map (fun i => ps.getD i (0, 0)) = ps := by
      refine List.ext_getElem? fun i => ?_
      rw [List.getElem?_map]
      by_cases hi : i < ps.length
      · rw [List.getElem?_range hi, List.getElem?_eq_getElem hi]; simp [hi]
      · rw [List.getElem?_eq_none (by rw [List.length_range]; (first | lia | omega)), List.getElem?_eq_none (by (first | lia | omega))]; rfl
    rw [this]
  · rw [if_neg h]

section
variable {C : Cx} {μ : List Addr} {h h' : Heap} {base : Bs} {env : Env} {Γ : List Str} {ρ : AEnv} {H H' : AHeap} {b : Nat} {s s' : Shared} {A : Around} {E : Value → Shared → Prop} {Q : Value → Shared → Prop} {n : Nat}

theorem pairI_eq' {x : AV} {p : Int × Int} (e : pairI x = some p) : x = pairV p := by
  cases x with
  | tup vs =>
    match vs, e with
    | [x, y], e =>
      cases x with
      | int i =>
        cases y with
        | int j => cases e; rfl
        | _ => cases e
      | _ => cases e
  | _ => cases e
theorem pairsOf_eq : ∀ {xs : List AV} {ps : List (Int × Int)}, pairsOf xs = some ps → xs = ps.map pairV
  | [], ps, e => by cases e; rfl
  | x :: xs, ps, e => by
    have e : (pairI x).bind (fun p => (pairsOf xs).map (p :: ·)) = some ps := e
    cases e1 : pairI x with
    | none => rw [e1] at e; cases e
    | some p =>
      rw [e1] at e
      have e : (pairsOf xs).map (p :: ·) = some ps := e
      cases e2 : pairsOf xs with
      | none => rw [e2] at e; cases e
      | some qs =>
        rw [e2] at e
        cases e
        rw [pairI_eq' e1, pairsOf_eq e2]; rfl
/-- a pair's object -/
inductive PrR (h : Heap) (p : Int × Int) (v : Value) : Prop
  | mk (a : Addr) (o : Obj) (t u : Tok) (k : Nat) (hv : v = .ref a) (ho : h.get? a = some o) (hc : o.cls = .type "tuple") (hd : o.data = .seq #[.int p.1 t, .int p.2 u] k) : PrR h p v
theorem VR.pair {p : Int × Int} {v : Value} (q : VR C μ h (pairV p) v) : PrR h p v := by
  cases q with
  | tup t nz l q =>
    obtain ⟨o, ho, hc, k, hd⟩ := t
    cases q with
    | cons q1 q =>
      cases q with
      | cons q2 q =>
        cases q
        cases q1; cases q2
        exact ⟨_, o, _, _, k, rfl, ho, hc, hd⟩
theorem lt_pair {p q : Int × Int} {u v : Value} {K : Bool → Shared → Prop} (h1 : PrR s.heap p u) (h2 : PrR s.heap q v) (k : K (ltP p q) s) : wpAny (model C.prog C.w) A (keyLt' (tuples' true) u v) K E s := by
  obtain ⟨a, o, t1, t2, k1, rfl, ho, hc, hd⟩ := h1
  obtain ⟨a', o', t1', t2', k1', rfl, ho', hc', hd'⟩ := h2
  refine PySem.W.kat_lt ho hd ho' hd' ?_
  show PySem.W.KatLex C.prog C.w A true false K [(.int p.1 t1, .int q.1 t1'), (.int p.2 t2, .int q.2 t2')] 0 s
  unfold ltP at k
  refine PySem.W.kat_cons (wpAny_eqBool_int ?_)
  cases e1 : p.1 == q.1 with
  | true =>
    rw [e1, if_pos rfl] at k
    refine PySem.W.kat_yes (PySem.W.kat_cons (wpAny_eqBool_int ?_))
    cases e2 : p.2 == q.2 with
    | true => rw [e2, if_pos rfl] at k; exact PySem.W.kat_yes k
    | false => rw [e2, if_neg (by decide)] at k; exact PySem.W.kat_no (PySem.W.kat_one _ _ (PyProof.Rows.lt_int k))
  | false => rw [e1, if_neg (by decide)] at k; exact PySem.W.kat_no (oneLt_int k)
inductive FstR (h : Heap) (vs : List Value) : Prop
  | mk (fs : List Value) (t : PySem.W.KatTups h vs fs) (hl : fs.length = vs.length) (hi : ∀ v ∈ fs, ∃ i t, v = Value.int i t) : FstR h vs
theorem fsts_ok : ∀ {ps : List (Int × Int)} {vs : List Value}, VRs C μ h (ps.map pairV) vs → FstR h vs
  | [], vs, q => by cases q; exact ⟨[], .nil, rfl, fun v hv => by cases hv⟩
  | p :: ps, vs, q => by
    cases q with
    | cons q1 q =>
      obtain ⟨fs, t, hl, hi⟩ := fsts_ok q
      obtain ⟨a, o, t1, t2, k1, rfl, ho, hc, hd⟩ := VR.pair q1
      refine ⟨.int p.1 t1 :: fs, .cons ho hc hd rfl t, by rw [List.length_cons, List.length_cons, hl], fun v hv => ?_⟩
      rcases List.mem_cons.mp hv with rfl | hv
      · exact ⟨_, _, rfl⟩
      · exact hi v hv
theorem VRs.maps {α : Type} {f : α → AV} {g : α → Value} : ∀ {l : List α}, (∀ a ∈ l, VR C μ h (f a) (g a)) → VRs C μ h (l.map f) (l.map g)
  | [], _ => .nil
  | a :: l, q => .cons (q a List.mem_cons_self) (VRs.maps fun b hb => q b (List.mem_cons_of_mem _ hb))
theorem few_zip : ∀ {vs : List Value}, vs.length < 2 → (vs.toArray.zip vs.toArray).map (·.2) = vs.toArray
  | [], _ => by simp
  | [_], _ => by simp
  | _ :: _ :: _, h => absurd h (by simp)
theorem sorted_few {l : Addr} {vs : List Value} (hl : s.heap.IsList l vs.toArray) (h2 : vs.length < 2) (k : Q (.ref (s.heap.objs.size + 1)) { s with heap := sortedAll s.heap vs vs.toArray }) :
    wpAny (model C.prog C.w) A (call (.builtin "sorted") [.ref l]) Q E s := by
  refine call_function_entry kind_sorted plain_sorted entry_sorted (args_sorted1 _) ?_
  unfold Builtin.«sorted»
  refine wpAny_bind (m := checkCount "sorted" 1 1 _) (wpAny_pure ?_)
  refine wpAny_bind (collect_list hl ?_ (by rw [sizeLine_eq]; (first | lia | omega)))
  refine wpAny_bind (wpAny_newList ?_ (by rw [sizeLine_eq]; (first | lia | omega)))
  have hsz : ((s.heap.push (seqObj "list" #[] 0)).update s.heap.objs.size (Obj.mapSeq (· ++ vs.toArray))).objs.size = s.heap.objs.size + 1 := by
    rw [Heap.size_update, size_push']
  have hoL : (((s.heap.push (seqObj "list" #[] 0)).update s.heap.objs.size (Obj.mapSeq (· ++ vs.toArray))).push (seqObj "list" vs.toArray 0)).get? (s.heap.objs.size + 1) = some (seqObj "list" vs.toArray 0) := by
    rw [← hsz]; exact Heap.get?_push_size _ rfl
  have e : sortedAll s.heap vs vs.toArray = sortedHeap (((s.heap.push (seqObj "list" #[] 0)).update s.heap.objs.size (Obj.mapSeq (· ++ vs.toArray))).push (seqObj "list" vs.toArray 0)) (s.heap.objs.size + 1) vs vs.toArray := rfl
  rw [e] at k
  show wpAny _ _ _ _ _ { s with heap := ((s.heap.push (seqObj "list" #[] 0)).update s.heap.objs.size (Obj.mapSeq (· ++ vs.toArray))).push (seqObj "list" vs.toArray 0) }
  rw [hsz]
  generalize ((s.heap.push (seqObj "list" #[] 0)).update s.heap.objs.size (Obj.mapSeq (· ++ vs.toArray))).push (seqObj "list" vs.toArray 0) = h1 at hoL k
  generalize s.heap.objs.size + 1 = a at hoL k
  refine wpAny_bind (wpAny_holding (wpAny_call_entry slot_list_sort ⟨_, hoL, rfl⟩ entry_list_sort ?_ (args_list_sort _)))
  rw [list_sort_plain]
  have ha : a < h1.objs.size := Heap.lt_size hoL
  refine wpAny_bind (listItems_at (s := { s with heap := h1 }) hoL rfl ?_)
  refine wpAny_bind (listUpdate_at (s := { s with heap := h1 }) hoL rfl ?_ (by rw [List.size_toArray, sizeLine_eq]; (first | lia | omega)) (Nat.zero_le _))
  obtain ⟨e1, ho1⟩ : ∃ e1, (h1.update a (Obj.mapSeq fun _ => (#[] : Array Value))).get? a = some (seqObj "list" #[] e1) := ⟨_, get?_update_seq hoL (fun _ => #[])⟩
  refine wpAny_bind (seqEpoch_at ho1 rfl ?_)
  refine wpAny_bind (wpAny_newTuple ?_ (by show vs.length ≤ _; rw [sizeLine_eq]; (first | lia | omega)))
  refine wpAny_bind (wpAny_newList ?_ (Nat.zero_le _))
  refine wpAny_holding ?_
  have ho6 : (((h1.update a (Obj.mapSeq fun _ => #[])).push (seqObj "tuple" vs.toArray 0)).push (seqObj "list" #[] 0)).get? a = some (seqObj "list" #[] e1) := Heap.get?_push_of_some _ (Heap.get?_push_of_some _ ho1)
  show wpAny (model C.prog C.w) _ _ _ _ { s with heap := ((h1.update a (Obj.mapSeq fun _ => #[])).push (seqObj "tuple" vs.toArray 0)).push (seqObj "list" #[] 0) }
  dsimp only
  have h2' : vs.toArray.size < 2 := by rw [List.size_toArray]; exact h2
  rw [if_pos h2', if_pos h2']
  refine wpAny_bind (wpAny_pure ?_)
  rw [StateT.run_pure]
  refine wpAny_bind (wpAny_pure ?_)
  dsimp only
  have em := few_zip h2
  refine wpAny_bind (seqEpoch_at ho6 rfl ?_)
  refine wpAny_bind (listUpdate_at ho6 rfl ?_ (Nat.zero_le _) (by show ((vs.toArray.zip vs.toArray).map (·.2)).size ≤ _; rw [em, List.size_toArray, sizeLine_eq]; (first | lia | omega)))
  simp only [bne_self_eq_false, Bool.false_eq_true, if_false]
  refine wpAny_pure ⟨_, rfl, wpAny_pure ⟨_, rfl, ?_⟩⟩
  show Q _ { s with heap := (((h1.update a (Obj.mapSeq fun _ => #[])).push (seqObj "tuple" vs.toArray 0)).push (seqObj "list" #[] 0)).update a (Obj.mapSeq fun _ => (vs.toArray.zip vs.toArray).map (·.2)) }
  rw [em]
  exact k

theorem sortedP_ok {r : Nat} {xs : List AV} {ps qs : List (Int × Int)} {u : Value} (S : St C base b env Γ ρ μ H s) (hx : VR C μ s.heap (.ref r) u) (e1 : H[r]? = some (.list xs)) (e2 : pairsOf xs = some ps) (e3 : srtF ps = some qs) (h64 : ps.length < 64)
    (k : After C base b env Γ ρ μ s (.ref H.length) (H ++ [.list (qs.map pairV)]) Q) : wpAny (model C.prog C.w) A (call (.builtin "sorted") [u]) Q E s := by
  obtain ⟨c, rfl, ec⟩ := hx.isRef
  obtain ⟨hz, a', vs, ea', p1, q1⟩ := S.hp.list e1
  rw [ec] at ea'; cases ea'
  obtain rfl := pairsOf_eq e2
  have hl : ps.length = vs.length := by rw [← q1.length, List.length_map]
  cases e3
  by_cases h2 : 2 ≤ ps.length
  · rw [if_pos h2] at k
    obtain ⟨m, nm, _⟩ := S.er.ns
    refine PySem.W.kat_sorted (fr0 nm) (news0 _ _) (IsList.of_plain p1) (by (first | lia | omega)) (by (first | lia | omega)) fun D e1 h' F N hlt => ?_
    obtain ⟨S', X⟩ := S.growL (s' := { s with heap := h' }) nm F.ns (fun hne e => news_keep (l := [_]) N hne e) rfl rfl
    have q2 := VRs.mono S.hp S.er X q1
    obtain ⟨fs, ft, hfl, hfi⟩ := fsts_ok q2
    have hperm := ordP_perm h2
    have hD : s.heap.get? D = none := by
      cases eD : s.heap.get? D with
      | none => rfl
      | some o => exact absurd (hlt _ (mem_allNews (N _ List.mem_cons_self).2.1 eD)) (Nat.lt_irrefl _)
    refine PySem.W.kat_kind (T := .type "int") ft (by (first | lia | omega)) (fun v hv => by obtain ⟨i, t, rfl⟩ := hfi v hv; exact .now) rfl ?_
    obtain ⟨n, hn⟩ : ∃ n, vs.length = n + 1 := ⟨vs.length - 1, by (first | lia | omega)⟩
    have all := sort_all (n := n)
    rw [← hn] at all
    refine AllK.go (ans := ansP ps) (fun {i j K} hi hj hk => ?_) all ?_
    · have g : ∀ {i : Nat}, i < vs.length → PrR h' (ps.getD i (0, 0)) (vs.getD i .none) := fun {i} hi => by
        obtain ⟨v, ev, qv⟩ := q2.get (i := i) (x := pairV (ps.getD i (0, 0))) (by rw [List.getElem?_map, List.getElem?_eq_getElem (by (first | lia | omega))]; simp [show i < ps.length by (first | lia | omega)])
        rw [List.getD_eq_getElem?_getD (l := vs), ev]
        exact VR.pair qv
      exact lt_pair (g hi) (g hj) hk
    · have ho : (runK (ansP ps) (PySem.W.kas_sort vs.length)).toList = ordP ps := by unfold ordP; rw [hl]
      rw [ho]
      refine PySem.W.KasFin.intro F N (.head fun p hp => Nat.ne_of_lt (hlt p hp)) fun h'' c F'' N'' => ?_
      have hv : VRs C μ s.heap (((ordP ps).map fun i => ps.getD i (0, 0)).map pairV) ((ordP ps).map fun i => vs.getD i .none) := by
        rw [List.map_map]
        refine VRs.maps fun i hi => ?_
        have hi : i < ps.length := List.mem_range.mp (hperm.mem_iff.mp hi)
        obtain ⟨v, ev, qv⟩ := q1.get (i := i) (x := pairV (ps.getD i (0, 0))) (by rw [List.getElem?_map, List.getElem?_eq_getElem hi]; simp [hi])
        rw [List.getD_eq_getElem?_getD (l := vs), ev]
        exact qv
      have hlen : (((ordP ps).map fun i => ps.getD i (0, 0)).map pairV).length ≤ lim := by
        rw [List.length_map, List.length_map, hperm.length_eq, List.length_range]; rw [List.length_map] at hz; exact hz
      obtain ⟨S'', X''⟩ := S.ledger (l := [_]) (n := c) nm F'' N'' (by exact .head _) hD hv hlen
      exact k _ _ _ X'' S'' (.ref (by rw [← S.hp.len]; simp))
  · rw [if_neg h2] at k
    refine sorted_few (IsList.of_plain p1) (by (first | lia | omega)) ?_
    obtain ⟨e, he⟩ := sortedAll_at s.heap vs vs.toArray
    exact After.list (tk := s.toks) S k (fun q => sortedAll_old q) (none_ge (Nat.le_succ _)) he (VRs.mono S.hp S.er (S.growL (s' := { s with heap := sortedAll s.heap vs vs.toArray }) (S.er.ns.choose_spec.1) (by obtain ⟨o, x1, x2, x3, x4⟩ := S.er.ns.choose_spec.1; exact ⟨o, x1, x2, sortedAll_old x3, x4⟩) (fun _ q => sortedAll_old q) rfl rfl).2 q1) hz
end
/-- the interpreter puts pairs in order as the program does -/
noncomputable def SrtOk (strF : SrtF) : Prop := ∀ ps qs, strF ps = some qs → srtF ps = some qs
end Mine

namespace Mine
open PySem PySem.Calls PyProof.Rows PySem.SeqAt

section
variable {C : Cx} {T : Tab} {n b : Nat} {Γ : List Str} {S : Scope} {J : Addr → Prop} {strF : SrtF}
variable {h : Heap} {base : Bs} {env cenv : Env} {ρ : AEnv} {μ μ' : List Addr} {H H' : AHeap} {s s' : Shared} {A : Around} {E : Value → Shared → Prop}

theorem Gnd.re {B B' : Bs} (G : Gnd C T B) (hg : B'.g = B.g) (hq : B'.q = B.q) : Gnd C T B' := by
  obtain ⟨h, g, fs, q, gb⟩ := B
  obtain ⟨h', g', fs', q', gb'⟩ := B'
  cases hg; cases hq
  exact ⟨G.q, G.okc, ⟨G.scr.scr⟩, G.g, G.b, G.bi, G.fn, G.gint, G.exg, G.nolimit, G.defs, G.qdefs⟩

theorem AOk.deeper {B : Bs} {h' : Heap} {gb : ∀ a o, B.g.get? a = some o → h'.get? a = some o} (a : AOk B A (n + 1)) : AOk ⟨h', B.g, env :: B.fs, B.q, gb⟩ (A.deeper env) n :=
  ⟨by have := a.depth; show A.depth + 1 + n + 60 < _; (first | lia | omega), by have := a.units; show A.units + 3 + 4 * n + 400 < _; (first | lia | omega), a.handled, Around.frames_deeper a.frames, a.guards⟩

/-- the bodies of the defs do what the interpreter says -/
structure Bods (C : Cx) (T : Tab) (n : Nat) (strF : SrtF) (cf : Nat → List AV → AHeap → Res AV) : Prop where
  any : ∀ (b : Nat) {ps : PSs} {Γ : List Str} {S : Scope} {body : List Stmt}, chkSs T Γ S ps body = true → SsOk C T n b Γ S body (denSs strF cf C.sc b ps)
theorem Bods.ok {cf : Nat → List AV → AHeap → Res AV} (B : Bods C T n strF cf) {f : FnI} {body : List Stmt} {S : Scope} (b : Nat) (h : chkSs T (gamOf S) S f.body body = true) : SsOk C T n b (gamOf S) S body (denSs strF cf C.sc b f.body) := B.any b h

/-- what a call leaves behind -/
structure Ret (C : Cx) (g : Heap) (fs : List Env) (μ : List Addr) (H : AHeap) (s : Shared) (H' : AHeap) (s' : Shared) (μ' : List Addr) : Prop where
  kp : ∀ a o, s.heap.get? a = some o → Kp (g.get? a = none) a o s'.heap
  pre : μ <+: μ'
  new : ∀ {a : Addr}, a ∈ μ' → a ∉ μ → s.heap.get? a = none
  fr : ∀ {i : Nat} {a : Addr}, H.length ≤ i → μ'[i]? = some a → s.heap.get? a = none
  hp : HeapR C μ' H' s'.heap
  gens : s'.gens = #[]
  os : s'.os = C.os
  zl : ∀ {a : Addr}, C.z a → ∃ o, s'.heap.get? a = some o
  ff : FF C.z s'.heap g fs
noncomputable def CallP (C : Cx) (g : Heap) (fs : List Env) (μ : List Addr) (H : AHeap) (s : Shared) (r : Res AV) (Q E : Value → Shared → Prop) : Prop := match r with
  | .ok v H' => ∀ u s' μ', Ret C g fs μ H s H' s' μ' → VR C μ' s'.heap v u → Q u s'
  | .exc c H' => ∀ u s' μ', Ret C g fs μ H s H' s' μ' → C.eo c → XR (C.ea c) false u s.heap s'.heap → E u s'
  | .bad => False

theorem call_pre {k : Nat} {vs : List AV} {us : List Value} {Q : Value → Shared → Prop} (B : Bods C T n strF (callF strF (fun k => T.defs.lookup k) C.sc n)) (ok : T.okc k = true) (hb : base.h = s.heap) (G : Gnd C T base) (hp : HeapR C μ H s.heap) (hg : s.gens = #[]) (ho : s.os = C.os) (zl : ∀ {a : Addr}, C.z a → ∃ o, s.heap.get? a = some o)
    (ff : FF C.z s.heap base.g base.fs) (a : AOk base A (n + 1)) (V : VRs C μ s.heap vs us) (q : CallP C base.g base.fs μ H s (callF strF (fun k => T.defs.lookup k) C.sc (n + 1) k vs H) Q E) :
    wpAny (model C.prog C.w) A (call (.ref (C.fa k)) us) Q E s := by
  have gb : ∀ a o, base.g.get? a = some o → s.heap.get? a = some o := fun a o e => hb ▸ base.gb a o e
  unfold callF at q
  split at q
  · exact q.elim
  · rename_i f ef
    split at q
    · rename_i hl
      obtain ⟨o, fd, body, h1, h2, h3, h4, h5, h6, h7, h8, h9⟩ := G.defs ef ok
      have K := chkFn_ok h9
      have hul : us.length = f.np := by rw [← V.length, hl]
      have hkl : fd.params.args.length = us.length := by rw [K.np, hul]
      have pnd : (fd.params.args.map (·.arg)).Nodup := by rw [← K.take]; exact (gam_nodup K.nd).sublist (List.take_sublist _ _)
      refine wpAny_call (codeAny_call_cells (binds := (fd.params.args.map (·.arg)).zip us) (by have := a.depth; (first | lia | omega)) (gb _ _ h1) h2 (G.nolimit.keeps gb) (h8.keeps gb) h3 (bindArgs_plain K.posonly K.vararg K.kwonly K.kwarg h6 hkl pnd) h5 ?_ (fun s1 x => ?_) K.co K.gen K.kind)
      · intro y hy
        have hm : y.1 ∈ fd.params.args.map (·.arg) := (List.of_mem_zip (a := y.1) (b := y.2) hy).1
        rw [← K.take] at hm
        have hm' := List.mem_of_mem_take hm
        unfold gamOf at hm'
        obtain ⟨p, hp', e'⟩ := List.mem_map.mp hm'
        obtain ⟨hp1, hp2⟩ := List.mem_filter.mp hp'
        have hlk := lookup_nd K.nd (x := p.1) (k := p.2) hp1
        rw [e'] at hlk
        simp only [Bool.or_eq_true, beq_iff_eq] at hp2
        rcases hp2 with q1 | q1
        · rw [q1] at hlk; exact .inl hlk
        · rw [q1] at hlk
          refine .inr ⟨hlk, ?_⟩
          obtain ⟨c, ec⟩ := cellsFrom_some fd.scope.names (s.heap.objs.size + 1) [] (.inl (mem_of_lookup hlk))
          rw [ec]; rfl
      · have st := enterFn (a := C.fa k) (q := base.q) hp hg ho zl gb ff K h4 h7 V hl x
        have G' : Gnd C T ⟨s.heap, base.g, callEnvC fd s.heap.objs.size (C.fa k) :: base.fs, base.q, gb⟩ := G.re rfl rfl
        have F : Fn ⟨s.heap, base.g, callEnvC fd s.heap.objs.size (C.fa k) :: base.fs, base.q, gb⟩ (callEnvC fd s.heap.objs.size (C.fa k)) fd.scope := ⟨rfl, ⟨base.fs, _, rfl, rfl⟩⟩
        have a' := a.deeper (env := callEnvC fd s.heap.objs.size (C.fa k)) (gb := gb)
        refine (B.ok H.length K.body).ok G' F st a' ?_
        have lv1 : Lv s.heap s1.heap := ⟨fun e => by
          cases st.keep _ _ e with
          | same e' => exact ⟨_, e', id⟩
          | slot _ _ sl e' => exact ⟨_, e', fun ⟨es, ep, d⟩ => ⟨es, ep, d⟩⟩⟩
        have ret : ∀ {ρ' : AEnv} {s2 : Shared} {μ2 : List Addr} {H2 : AHeap}, St C ⟨s.heap, base.g, callEnvC fd s.heap.objs.size (C.fa k) :: base.fs, base.q, gb⟩ H.length (callEnvC fd s.heap.objs.size (C.fa k)) (gamOf fd.scope) ρ' μ2 H2 s2 →
            Ext (callEnvC fd s.heap.objs.size (C.fa k)) μ μ2 s1.heap s2.heap → Ret C base.g base.fs μ H s H2 s2 μ2 := by
          intro ρ' s2 μ2 H2 S2 X2
          refine ⟨S2.keep, X2.pre, fun {a'} hm hn => ?_, S2.fresh, S2.hp, S2.gens, S2.os, S2.zl, S2.ff.2.2⟩
          have := X2.new hm hn
          cases e' : s.heap.get? a' with
          | none => rfl
          | some o => obtain ⟨o', e2, _⟩ := lv1.go e'; rw [this] at e2; cases e2
        cases ed : denSs strF (callF strF (fun k => T.defs.lookup k) C.sc n) C.sc H.length f.body (List.map some vs ++ List.replicate (f.nv - f.np) none) H with
        | next ρ2 H2 =>
          rw [ed] at q
          exact fun s2 μ2 X2 S2 => q _ s2 μ2 (ret S2 X2) .none
        | ret w H2 =>
          rw [ed] at q
          exact fun u s2 μ2 X2 S2 V2 => q u s2 μ2 (ret S2 X2) V2
        | exc c H2 =>
          rw [ed] at q
          intro u s2 μ2 X2 S2 ek x2
          unfold leaving
          refine wpAny_bind (noted_ok F.top a' st S2 X2 x2 fun s3 S3 X3 x3 => ?_)
          exact flown_ok st S3 X3 x3 fun s4 S4 X4 x4 => q u s4 μ2 (ret S4 X4) ek (x4.weak.back lv1)
        | bad => rw [ed] at q; exact q.elim
    · exact q.elim

theorem Ret.ext {s' : Shared} {g : Heap} {fs : List Env} (R : Ret C g fs μ H s H' s' μ') : Ext env μ μ' s.heap s'.heap := by
  refine ⟨R.pre, fun e _ => (R.kp _ _ e).map (fun _ => trivial) id, R.new, ⟨fun e => ?_⟩⟩
  cases R.kp _ _ e with
  | same e' => exact ⟨_, e', id⟩
  | slot _ _ sl e' => exact ⟨_, e', fun ⟨es, ep, d⟩ => ⟨es, ep, d⟩⟩
theorem Ret.st {s' : Shared} (st : St C base b env Γ ρ μ H s) (R : Ret C base.g base.fs μ H s H' s' μ') : St C base b env Γ ρ μ' H' s' := by
  have mono : ∀ {x : AV} {v : Value}, VR C μ s.heap x v → VR C μ' s'.heap x v := fun q => VR.mono' (P := fun _ => False) R.pre (fun e _ => (R.kp _ _ e).map (fun _ => trivial) id) (fun _ => id) (fun _ _ => id) q
  refine ⟨fun a o e => (st.keep a o e).trans fun e' => R.kp a _ e', R.hp, st.er.mono (fun _ n => Kp.ns n fun e => R.kp _ _ e) (fun x c o ec e => ?_) mono, ?_, st.noloc, ?_, st.nocell, R.gens, R.os, R.zl, R.ff⟩
  · obtain ⟨v, ob, eb, db⟩ := st.er.cell ec
    rw [e] at eb; cases eb
    exact (R.kp _ _ e).ex fun _ _ q => by rw [db] at q; cases q
  · intro i a' hi e'
    by_cases hl : i < μ.length
    · obtain ⟨t, rfl⟩ := R.pre
      rw [List.getElem?_append_left hl] at e'
      exact st.fresh hi e'
    · exact base_none st (R.fr (by rw [← st.hp.len]; (first | lia | omega)) e')
  · intro hm
    by_cases hq : env.locals ∈ μ
    · exact st.lm hq
    · obtain ⟨m, ⟨o, _, _, ho2, _⟩, _⟩ := st.er.ns
      rw [R.new hm hq] at ho2; cases ho2

theorem CallOk.step (B : Bods C T n strF (callF strF (fun k => T.defs.lookup k) C.sc n)) : CallOk C T (n + 1) (callF strF (fun k => T.defs.lookup k) C.sc (n + 1)) := by
  have go : ∀ {k : Nat} {base : Bs} {b : Nat} {env : Env} {Γ : List Str} {ρ : AEnv} {μ : List Addr} {H : AHeap} {s : Shared} {A : Around} {E : Value → Shared → Prop} {Q : Value → Shared → Prop} {vs : List AV} {us : List Value},
      T.okc k = true → Gnd C T base → St C base b env Γ ρ μ H s → AOk base A (n + 1) → VRs C μ s.heap vs us → CallP C base.g base.fs μ H s (callF strF (fun k => T.defs.lookup k) C.sc (n + 1) k vs H) Q E → wpAny (model C.prog C.w) A (call (.ref (C.fa k)) us) Q E s := by
    intro k base b env Γ ρ μ H s A E Q vs us ok G st a V q
    refine call_pre (base := ⟨s.heap, base.g, base.fs, base.q, fun _ _ => st.kg⟩) B ok rfl (G.re rfl rfl) st.hp st.gens st.os st.zl st.ff ⟨a.depth, a.units, a.handled, a.frames, a.guards⟩ V q
  refine ⟨?_, ?_⟩
  · intro k base b env Γ ρ μ H H' s A E Q vs us v ok G st a V e q
    refine go ok G st a V ?_
    rw [e]
    exact fun u s' μ' R V' => q u s' μ' R.ext (R.st st) V'
  · intro k base b env Γ ρ μ H H' s A E Q vs us c ok G st a V e q
    refine go ok G st a V ?_
    rw [e]
    exact fun u s' μ' R ek x => q u s' μ' R.ext (R.st st) ek x
theorem CallOk.zero : CallOk C T 0 (callF strF (fun k => T.defs.lookup k) C.sc 0) := by
  refine ⟨?_, ?_⟩
  · intro k base b env Γ ρ μ H H' s A E Q vs us v ok G st a V e q
    cases e
  · intro k base b env Γ ρ μ H H' s A E Q vs us c ok G st a V e q
    cases e
end
end Mine

namespace Mine
open PySem PySem.Calls PyProof.Rows PySem.SeqAt

section
variable {C : Cx} {T : Tab} {n b : Nat} {Γ : List Str} {S : Scope} {cf : Nat → List AV → AHeap → Res AV} {strF : SrtF}

theorem one_get {α : Type} {r : Res AV} {f : List AV → AHeap → Res α} : ((r.thn fun v H => (Res.ok ([] : List AV) H).thn fun vs H => .ok (v :: vs) H).get f) = r.get fun w H => f [w] H := by
  cases r <;> rfl

theorem prim2_eq {p : Prim} {x y v : AV} {H H' : AHeap} (e : primB p x y H = .ok v H') : p = .min2 ∨ p = .max2 := by
  cases p with
  | min2 => exact .inl rfl
  | max2 => exact .inr rfl
  | _ => cases e
theorem prim_one {p : Prim} {sc : List Int} {vs : List AV} {H H' : AHeap} {v : AV} (hp : p ≠ .min2 ∧ p ≠ .max2) (e : prim strF sc p vs H = .ok v H') : ∃ x, vs = [x] := by
  cases vs with
  | nil => cases e
  | cons x r => cases r with
    | nil => exact ⟨x, rfl⟩
    | cons y r => cases r with
      | nil => exact ((prim2_eq e).elim hp.1 hp.2).elim
      | cons _ _ => cases e
theorem prim_two {p : Prim} {sc : List Int} {vs : List AV} {H H' : AHeap} {v : AV} (hp : p = .min2 ∨ p = .max2) (e : prim strF sc p vs H = .ok v H') : ∃ x y, vs = [x, y] := by
  cases vs with
  | nil => cases e
  | cons x r => cases r with
    | nil => rcases hp with rfl | rfl <;> cases e
    | cons y r => cases r with
      | nil => exact ⟨x, y, rfl⟩
      | cons _ _ => cases e

theorem ofKind_ok {o : Option Bool} {H H' : AHeap} {v : AV} (e : ofKind o H = .ok v H') : ∃ t, o = some t ∧ v = .bool t ∧ H' = H := by
  unfold ofKind at e
  split at e
  · cases e; exact ⟨_, rfl, rfl, rfl⟩
  · cases e

/-- a built-in's call on values -/
inductive SpE (strF : SrtF) (H : AHeap) (x v : AV) (H' : AHeap) : Prop
  | mk (r : Nat) (xs : List AV) (ps qs : List (Int × Int)) (hx : x = .ref r) (e1 : H[r]? = some (.list xs)) (e2 : pairsOf xs = some ps) (e3 : strF ps = some qs) (h64 : ps.length < 64) (hv : v = .ref H.length) (hH : H' = H ++ [.list (qs.map pairV)]) : SpE strF H x v H'
theorem sortedP_inv {sc : List Int} {H H' : AHeap} {x v : AV} (e : prim strF sc .sortedP [x] H = .ok v H') : SpE strF H x v H' := by
  have e : (((listAt H x).bind pairsOf).bind fun ps => (strF ps).map fun qs => if ps.length < 64 then alloc (qs.map pairV) H else .bad).getD .bad = .ok v H' := e
  cases x with
  | ref r =>
    have e : ((((H[r]?).bind objL).bind pairsOf).bind fun ps => (strF ps).map fun qs => if ps.length < 64 then alloc (qs.map pairV) H else .bad).getD .bad = .ok v H' := e
    cases e1 : H[r]? with
    | none => rw [e1] at e; cases e
    | some o =>
      rw [e1] at e
      cases o with
      | dict => cases e
      | list xs =>
        have e : ((pairsOf xs).bind fun ps => (strF ps).map fun qs => if ps.length < 64 then alloc (qs.map pairV) H else .bad).getD .bad = .ok v H' := e
        cases e2 : pairsOf xs with
        | none => rw [e2] at e; cases e
        | some ps =>
          rw [e2] at e
          have e : ((strF ps).map fun qs => if ps.length < 64 then alloc (qs.map pairV) H else .bad).getD .bad = .ok v H' := e
          cases e3 : strF ps with
          | none => rw [e3] at e; cases e
          | some qs =>
            rw [e3] at e
            have e : (if ps.length < 64 then alloc (qs.map pairV) H else .bad) = .ok v H' := e
            by_cases h : ps.length < 64
            · rw [if_pos h] at e
              obtain ⟨_, rfl, rfl⟩ := alloc_ok e
              exact ⟨r, xs, ps, qs, rfl, e1, e2, e3, h, rfl, rfl⟩
            · rw [if_neg h] at e; cases e
  | _ => cases e
theorem callPrim_ok {base : Bs} (hsf : SrtOk strF) (hq : base.q = false) {p : Prim} {f : Str} {env : Env} {ρ : AEnv} {μ : List Addr} {H H' : AHeap} {s : Shared} {A : Around} {E : Value → Shared → Prop} {Q : Value → Shared → Prop} {vs : List AV} {us : List Value} {v : AV} {fv : Value}
    (hf : primName p = some f) (hb : biVals.lookup f = some fv) (ok : okPrim p = true) (G : Gnd C T base) (st : St C base b env Γ ρ μ H s) (a : AOk base A n) (V : VRs C μ s.heap vs us) (e : prim strF C.sc p vs H = .ok v H') (k : After C base b env Γ ρ μ s v H' Q) :
    wpAny (model C.prog C.w) A (call fv us) Q E s := by
  cases p with
  | len =>
    cases hf; cases hb
    obtain ⟨x, rfl⟩ := prim_one (by simp) e
    obtain ⟨u, rfl, V1⟩ := V.one
    exact len_ok G.scr st V1 e k
  | list =>
    cases hf; cases hb
    obtain ⟨x, rfl⟩ := prim_one (by simp) e
    obtain ⟨u, rfl, V1⟩ := V.one
    exact list_ok st V1 e k
  | tuple =>
    cases hf; cases hb
    obtain ⟨x, rfl⟩ := prim_one (by simp) e
    obtain ⟨u, rfl, V1⟩ := V.one
    exact tuple_ok st V1 e k
  | sorted =>
    cases hf; cases hb
    obtain ⟨x, rfl⟩ := prim_one (by simp) e
    obtain ⟨u, rfl, V1⟩ := V.one
    cases x with
    | ref r =>
      rw [p_sorted] at e
      split at e
      · rename_i xs ex
        split at e
        · rename_i h64
          split at e
          · rename_i is ei
            obtain ⟨_, rfl, rfl⟩ := alloc_ok e
            exact sorted_ok st V1 ex ei h64 k
          · cases e
        · cases e
      · cases e
    | _ => exact bad_ok (v := v) (H' := H') e
  | min2 =>
    cases hf; cases hb
    obtain ⟨x, y, rfl⟩ := prim_two (.inl rfl) e
    obtain ⟨u, w, rfl, V1, V2⟩ := V.two
    exact min2_ok st a hq V1 V2 e k
  | max2 =>
    cases hf; cases hb
    obtain ⟨x, y, rfl⟩ := prim_two (.inr rfl) e
    obtain ⟨u, w, rfl, V1, V2⟩ := V.two
    exact max2_ok st a hq V1 V2 e k
  | max1 =>
    cases hf; cases hb
    obtain ⟨x, rfl⟩ := prim_one (by simp) e
    obtain ⟨u, rfl, V1⟩ := V.one
    unfold prim primA at e
    dsimp only at e
    · cases x with
      | ref r =>
        dsimp only at e
        split at e
        · rename_i xs ex
          split at e
          · rename_i i is ei
            cases e
            exact maxL_ok st a hq V1 ex ei k
          · cases e
        · cases e
      | _ => cases e
  | all =>
    cases hf; cases hb
    obtain ⟨x, rfl⟩ := prim_one (by simp) e
    obtain ⟨u, rfl, V1⟩ := V.one
    cases x with
    | ref r =>
      rw [p_all] at e
      split at e
      · rename_i xs ex
        split at e
        · rename_i is ei
          cases e
          exact all_ok st a hq V1 ex ei k
        · cases e
      · cases e
    | _ => exact bad_ok (v := v) (H' := H') e
  | sortedP =>
    cases hf; cases hb
    obtain ⟨x, rfl⟩ := prim_one (by simp) e
    obtain ⟨u, rfl, V1⟩ := V.one
    obtain ⟨r, xs, ps, qs, rfl, e1, e2, e3, h64, rfl, rfl⟩ := sortedP_inv e
    exact sortedP_ok st V1 e1 e2 (hsf _ _ e3) h64 k
  | listRange => cases hf
  | sortedSet => cases hf
  | isInt => cases hf
  | isBool => cases hf
  | isList => cases hf
  | isTuple => cases hf
  | isExc c => cases hf
  | isValueError => cases hf

theorem bi_name {p : Prim} {f : Str} (h : primName p = some f) : (∃ id, biVals.lookup f = some (.builtin id)) ∨ (∃ ty, biVals.lookup f = some (.type ty)) := by
  cases p <;> cases h <;> first | exact .inl ⟨_, rfl⟩ | exact .inr ⟨_, rfl⟩

theorem EvOk.primCall (hsf : SrtOk strF) (hq : T.q = false) {p : Prim} {f : Str} {e : Expr} {r : List Expr} {np pos : Pos} {d : AEnv → AHeap → Res AV} {d1 : AEnv → AHeap → Res (List AV)} (hf : primName p = some f) (ok : okPrim p = true) (hg : isGlob S f = true) (hn : (e :: r).all notStar = true)
    (h1 : EsOk C T n b Γ S (e :: r) d1) (hd : ∀ ρ H, d ρ H = (d1 ρ H).get fun vs H => prim strF C.sc p vs H) : EvOk C T n b Γ S (.Call (.Name f np) (e :: r) [] pos) d := by
  rcases bi_name hf with ⟨id, hb⟩ | ⟨ty, hb⟩
  · exact .callB hb hg hn h1 hd fun G st a V e k => callPrim_ok hsf (G.q.trans hq) hf hb ok G st a V e k
  · exact .callT hb hg hn h1 hd fun G st a V e k => callPrim_ok hsf (G.q.trans hq) hf hb ok G st a V e k

theorem EvOk.isCall {p : Prim} {f g : Str} {x : Expr} {np gp pos : Pos} {d d1 : AEnv → AHeap → Res AV} (hp : tyName T p = some g) (ok : okPrim p = true) (hf : f = ("isinstance" : Str)) (hg : isGlob S f = true) (hgg : isGlob S g = true) (hn : notStar x = true)
    (h1 : EvOk C T n b Γ S x d1) (hd : ∀ ρ H, d ρ H = (d1 ρ H).get fun w H => prim strF C.sc p [w] H) : EvOk C T n b Γ S (.Call (.Name f np) [x, .Name g gp] [] pos) d := by
  subst hf
  cases p with
  | isInt =>
    cases hp
    refine .callI (Ty := "int") rfl hg rfl hgg hn h1 hd fun G st V e k => ?_
    obtain ⟨t, e', rfl, rfl⟩ := ofKind_ok e
    exact isInt_ok st V e' k
  | isBool =>
    cases hp
    refine .callI (Ty := "bool") rfl hg rfl hgg hn h1 hd fun G st V e k => ?_
    obtain ⟨t, e', rfl, rfl⟩ := ofKind_ok e
    exact isBool_ok st V e' k
  | isList =>
    cases hp
    refine .callI (Ty := "list") rfl hg rfl hgg hn h1 hd fun G st V e k => ?_
    obtain ⟨t, e', rfl, rfl⟩ := ofKind_ok e
    exact isList_ok st V e' k
  | isTuple =>
    cases hp
    refine .callI (Ty := "tuple") rfl hg rfl hgg hn h1 hd fun G st V e k => ?_
    obtain ⟨t, e', rfl, rfl⟩ := ofKind_ok e
    exact isTuple_ok st V e' k
  | isValueError =>
    cases hp
    refine .callI (Ty := "ValueError") rfl hg rfl hgg hn h1 hd fun {_ _ _ _ _ _ _ _ _ _ w _ _} G st V e k => ?_
    cases w with
    | exc c =>
      have e : Res.ok (AV.bool true) _ = .ok _ _ := e
      cases e; exact isVE_ok G st V k
    | _ => exact bad_ok e
  | isExc c =>
    refine .callX rfl hg hgg hn h1 hd fun {_ _ _ _ _ _ _ _ _ _ w _ _} G st V e k => ?_
    have hp : T.excs.lookup c = some g := hp
    obtain ⟨Cc, _, em, _⟩ := G.exg.cls hp
    refine ⟨_, em, ?_⟩
    cases w with
    | exc d =>
      have e : Res.ok (AV.bool (decide (d = c) || decide (c = 0))) _ = .ok _ _ := e
      cases e; exact isExc_ok G st V hp em k
    | _ => exact bad_ok e
  | _ => cases hp

theorem EvOk.listRange (hq : T.q = false) {f g : Str} {x : Expr} {np gp p2 pos : Pos} {d d1 : AEnv → AHeap → Res AV} (hf : f = ("list" : Str)) (hg : g = ("range" : Str)) (hgf : isGlob S f = true) (hgg : isGlob S g = true) (hn : notStar x = true) (h1 : EvOk C T n b Γ S x d1)
    (hd : ∀ ρ H, d ρ H = (d1 ρ H).get fun w H => prim strF C.sc .listRange [w] H) : EvOk C T n b Γ S (.Call (.Name f np) [.Call (.Name g gp) [x] [] p2] [] pos) d := by
  subst hf; subst hg
  refine ⟨?_⟩
  intro base env ρ μ H H' s A E Q v' G hS st a ed k
  rw [hd] at ed
  obtain ⟨w, H1, e1, ed⟩ := Res.get_ok ed
  cases w with
  | int c =>
    rw [p_lrange] at ed
    split at ed
    · rename_i hr
      obtain ⟨_, rfl, rfl⟩ := alloc_ok ed
      refine wpAny_Call_ofName (builtin_ok G hS st hgf rfl ?_)
      refine PySem.callWith_type (noStars rfl) (args_ok rfl (wpAny_items_cons ?_ (starEach_cons rfl)))
      refine wpAny_Call_ofName (builtin_ok G hS st hgg rfl ?_)
      refine PySem.callWith_type (noStars (by simp only [List.all_cons, hn]; rfl)) (args_ok hn (wpAny_items_cons (h1.ok G hS st a e1 fun u s' μ' X S' V => wpAny_items_nil ?_) (starEach_cons hn)))
      obtain ⟨t, rfl⟩ := V.isInt
      refine call_range_1 ?_
      refine wpAny_items_nil ?_
      refine listRange_ok ((S'.tok (s'.toks + 1 + 1)).push _) a (G.q.trans hq) (IsRange.new _ _ _ _ _ _ _) hr fun u2 s2 μ2 X2 S2 V2 => k u2 s2 μ2 ((X.trans (Ext.push _)).trans X2) S2 V2
    · cases ed
  | _ => exact bad_ok (v := v') (H' := H') ed
end
end Mine

namespace Mine
open PySem PySem.Calls PyProof.Rows PySem.SeqAt

/-! A set's table: its places rise. -/
theorem below_go {xs : Array Nat} {j : Nat} : ∀ (fuel lo hi : Nat), hi - lo < fuel + 1 → lo ≤ hi → hi ≤ xs.size → (∀ i, i < lo → xs.getD i 0 < j) → (∀ i, hi ≤ i → i < xs.size → j ≤ xs.getD i 0) → xs.toList.Pairwise (· < ·) →
    (∀ i, i < SetTable.below.go xs j fuel lo hi → xs.getD i 0 < j) ∧ (∀ i, SetTable.below.go xs j fuel lo hi ≤ i → i < xs.size → j ≤ xs.getD i 0) ∧ SetTable.below.go xs j fuel lo hi ≤ xs.size
  | 0, lo, hi, h1, h2, h3, ha, hb, hp => by
    have : lo = hi := by (first | lia | omega)
    subst this
    exact ⟨ha, hb, h3⟩
  | fuel + 1, lo, hi, h1, h2, h3, ha, hb, hp => by
    unfold SetTable.below.go
    by_cases h : lo < hi
    · rw [if_pos h]
      dsimp only
      have hm : (lo + hi) / 2 < hi := by (first | lia | omega)
      have hm2 : lo ≤ (lo + hi) / 2 := by (first | lia | omega)
      generalize (lo + hi) / 2 = mid at hm hm2
      have hms : mid < xs.size := by (first | lia | omega)
      have hg : ∀ d, xs.getD mid d = xs[mid] := fun d => by simp [Array.getD, hms]
      have mono : ∀ i k, i < k → k < xs.size → xs.getD i 0 < xs.getD k 0 := fun i k hik hk => by
        have := List.pairwise_iff_getElem.mp hp i k (by simpa using (by (first | lia | omega) : i < xs.size)) (by simpa using hk) hik
        have e1 : xs.getD i 0 = xs[i] := by simp [Array.getD, show i < xs.size by (first | lia | omega)]
        have e2 : xs.getD k 0 = xs[k] := by simp [Array.getD, hk]
        rw [e1, e2]; simpa using this
      by_cases q : xs.getD mid j < j
      · rw [if_pos q]
        rw [hg] at q
        refine below_go fuel (mid + 1) hi (by (first | lia | omega)) (by (first | lia | omega)) h3 (fun i hi' => ?_) hb hp
        by_cases e : i = mid
        · rw [e, hg]; exact q
        · have := mono i mid (by (first | lia | omega)) hms; rw [hg] at this; (first | lia | omega)
      · rw [if_neg q]
        rw [hg] at q
        refine below_go fuel lo mid (by (first | lia | omega)) hm2 (by (first | lia | omega)) ha (fun i hi' his => ?_) hp
        by_cases e : i = mid
        · rw [e, hg]; (first | lia | omega)
        · have := mono mid i (by (first | lia | omega)) his; rw [hg] at this; (first | lia | omega)
    · rw [if_neg h]
      have : lo = hi := by (first | lia | omega)
      subst this
      exact ⟨ha, hb, h3⟩
theorem below_spec {xs : Array Nat} (j : Nat) (hp : xs.toList.Pairwise (· < ·)) : (∀ i, i < SetTable.below xs j → xs.getD i 0 < j) ∧ (∀ i, SetTable.below xs j ≤ i → i < xs.size → j ≤ xs.getD i 0) ∧ SetTable.below xs j ≤ xs.size :=
  below_go xs.size 0 xs.size (by (first | lia | omega)) (Nat.zero_le _) (Nat.le_refl _) (fun i h => absurd h (Nat.not_lt_zero _)) (fun i h1 h2 => by (first | lia | omega)) hp
theorem insertAt_list {α : Type} (xs : Array α) (p : Nat) (x : α) : (SetTable.insertAt xs p x).toList = xs.toList.take p ++ x :: xs.toList.drop p := by
  unfold SetTable.insertAt
  rw [Array.toList_append, Array.toList_push, Array.toList_extract, Array.toList_extract, List.append_assoc]
  simp only [List.extract, List.drop_zero, Nat.sub_zero, List.singleton_append]
  congr 2
  rw [List.take_of_length_le]
  rw [List.length_drop, Array.length_toList]; exact Nat.le_refl _
/-- a slot that is not live -/
theorem insert_rises {xs : Array Nat} {j : Nat} (hp : xs.toList.Pairwise (· < ·)) (hn : xs[SetTable.below xs j]? ≠ some j) : (SetTable.insertAt xs (SetTable.below xs j) j).toList.Pairwise (· < ·) := by
  obtain ⟨b1, b2, b3⟩ := below_spec j hp
  generalize SetTable.below xs j = p at hn b1 b2 b3
  rw [insertAt_list]
  have hget : ∀ i, i < xs.size → xs.getD i 0 = xs.toList.getD i 0 := fun i hi => by simp [Array.getD, hi]
  refine List.pairwise_append.mpr ⟨hp.sublist (List.take_sublist ..), List.pairwise_cons.mpr ⟨fun y hy => ?_, hp.sublist (List.drop_sublist ..)⟩, fun x hx y hy => ?_⟩
  · obtain ⟨i, hi⟩ := List.mem_iff_getElem?.mp hy
    rw [List.getElem?_drop] at hi
    have hlt : p + i < xs.size := by have := (List.getElem?_eq_some_iff.mp hi).1; simpa using this
    have hy' : xs.getD (p + i) 0 = y := by rw [hget _ hlt, List.getD_eq_getElem?_getD, hi]; rfl
    have h1 := b2 (p + i) (by (first | lia | omega)) hlt
    rw [hy'] at h1
    by_cases e : j = y
    · exfalso
      cases i with
      | zero =>
        apply hn
        rw [← Array.getElem?_toList, ← Nat.add_zero p, hi, e]
      | succ i =>
        have hlt2 : p < xs.size := by (first | lia | omega)
        have h2 := b2 p (Nat.le_refl _) hlt2
        have := List.pairwise_iff_getElem.mp hp p (p + (i + 1)) (by simpa using hlt2) (by simpa using hlt) (by (first | lia | omega))
        have e1 : xs.getD p 0 = xs.toList[p]'(by simpa using hlt2) := by rw [hget _ hlt2, List.getD_eq_getElem?_getD, List.getElem?_eq_getElem (by simpa using hlt2)]; rfl
        have e2 : y = xs.toList[p + (i + 1)]'(by simpa using hlt) := (List.getElem?_eq_some_iff.mp hi).2.symm
        rw [e1] at h2
        rw [← e2] at this
        (first | lia | omega)
    · (first | lia | omega)
  · have hxp : x < j := by
      obtain ⟨i, hi⟩ := List.mem_iff_getElem?.mp hx
      have hip : i < p := by
        have := (List.getElem?_eq_some_iff.mp hi).1
        rw [List.length_take] at this; (first | lia | omega)
      rw [List.getElem?_take_of_lt hip] at hi
      have his : i < xs.size := by (first | lia | omega)
      have := b1 i hip
      rw [hget _ his, List.getD_eq_getElem?_getD, hi] at this
      exact this
    rcases List.mem_cons.mp hy with rfl | hy
    · exact hxp
    · obtain ⟨i, hi⟩ := List.mem_iff_getElem?.mp hy
      rw [List.getElem?_drop] at hi
      have hlt : p + i < xs.size := by have := (List.getElem?_eq_some_iff.mp hi).1; simpa using this
      have hy' : xs.getD (p + i) 0 = y := by rw [hget _ hlt, List.getD_eq_getElem?_getD, hi]; rfl
      have h1 := b2 (p + i) (by (first | lia | omega)) hlt
      (first | lia | omega)

noncomputable def notLive (t : SetTable) (j : Nat) : Prop := t.place[SetTable.below t.place j]? ≠ some j
theorem slot_notLive {t : SetTable} {j : Nat} (h : ∀ i, t.slot j ≠ .live i) : notLive t j := fun e => by
  refine h (SetTable.below t.place j) ?_
  unfold SetTable.slot
  dsimp only
  rw [e]
  simp
theorem advance_dummy (t : SetTable) (p : SetTable.Probe) : (t.advance p).dummy = p.dummy := by
  unfold SetTable.advance
  split <;> rfl
theorem probe_go {t : SetTable} {f : Nat → Int} {h : Int} {j : Nat} {d : Option Nat} : ∀ (fuel : Nat) (p : SetTable.Probe), (∀ x, p.dummy = some x → notLive t x) → SetTable.probe.go t f h fuel p = some (.empty j d) → notLive t j ∧ ∀ x, d = some x → notLive t x
  | 0, p, hp, e => by cases e
  | fuel + 1, p, hp, e => by
    unfold SetTable.probe.go at e
    cases hs : t.slot p.j with
    | empty =>
      rw [hs] at e
      cases e
      exact ⟨slot_notLive fun i e => (by rw [hs] at e; cases e), hp⟩
    | dummy =>
      rw [hs] at e
      refine probe_go fuel _ (fun x hx => ?_) e
      rw [advance_dummy] at hx
      cases hx
      exact slot_notLive fun i e => by rw [hs] at e; cases e
    | live i =>
      rw [hs] at e
      dsimp only at e
      split at e
      · cases e
      · exact probe_go fuel _ (fun x hx => by rw [advance_dummy] at hx; exact hp x hx) e
theorem free_notLive {t : SetTable} {h : Int} {slot : Nat} {b : Bool} (e : t.freeSlot h = some (slot, b)) : notLive t slot := by
  unfold SetTable.freeSlot at e
  split at e
  · rename_i j d hp
    cases e
    have := probe_go _ _ (fun x hx => by cases hx) hp
    cases d with
    | none => exact this.1
    | some x => exact this.2 x rfl
  · cases e

/-- the table rises and is led as at first -/
structure TabI (led : Bool) (t : SetTable) : Prop where
  led : t.led = led
  ris : t.place.toList.Pairwise (· < ·)
theorem range_rises (n : Nat) : (Array.range n).toList.Pairwise (· < ·) := by rw [Array.toList_range]; exact List.pairwise_lt_range
theorem TabI.standIn {led : Bool} {t : SetTable} (h : TabI led t) (n : Nat) : TabI led (t.standIn n) := ⟨h.led, range_rises n⟩
theorem TabI.layNew {led : Bool} {t : SetTable} (h : TabI led t) (es : Array (Int × Value)) (k : Int) (x : Value) : TabI led (PySem.layNew t es k x).2.1 := by
  unfold PySem.layNew
  split
  · rename_i slot b hf
    dsimp only
    have hn := free_notLive hf
    have h' : TabI led (t.put slot).1 := ⟨h.led, insert_rises h.ris hn⟩
    unfold SetTable.orStandIn
    split
    · exact h'
    · exact h'.standIn _
  · exact h.standIn _
theorem live_rises : ∀ (l : List Nat) (f : Nat → Option Nat), l.Pairwise (· < ·) → ((l.filterMap fun j => (f j).map (j, ·)).map (·.1)).Pairwise (· < ·)
  | [], f, _ => .nil
  | x :: l, f, h => by
    obtain ⟨h1, h2⟩ := List.pairwise_cons.mp h
    have ih := live_rises l f h2
    rw [List.filterMap_cons]
    cases f x with
    | none => exact ih
    | some y =>
      refine List.pairwise_cons.mpr ⟨fun z hz => ?_, ih⟩
      obtain ⟨p, hp, rfl⟩ := List.mem_map.mp hz
      obtain ⟨j, hj, e⟩ := List.mem_filterMap.mp hp
      cases q : f j with
      | none => rw [q] at e; cases e
      | some u => rw [q] at e; cases e; exact h1 j hj
theorem TabI.laid {led plain : Bool} {mask finger moves : Nat} {hs : Array Int} {t : SetTable} {o : Array Nat} (e : SetTable.laid mask finger moves led plain hs = some (t, o)) : TabI led t := by
  unfold SetTable.laid at e
  cases q : SetTable.layClean mask hs with
  | none => rw [q] at e; cases e
  | some owner =>
    rw [q] at e
    cases e
    exact ⟨rfl, by show (List.toArray _).toList.Pairwise _; rw [List.toList_toArray]; exact live_rises _ _ List.pairwise_lt_range⟩
theorem TabI.relay {led : Bool} {t : SetTable} (h : TabI led t) (es : Array (Int × Value)) (n : Nat) : TabI led (relayAll t es n).2.1 := by
  unfold relayAll
  split
  · rename_i t' order hr
    dsimp only
    split
    · have := TabI.laid (led := t.led) hr
      rw [h.led] at this
      exact this
    · exact h.standIn _
  · exact h.standIn _
end Mine

namespace Mine
open PySem PySem.Calls PyProof.Rows PySem.SeqAt

noncomputable def intOf : Value → Int
  | .int i _ => i
  | _ => 0
/-- a set of ints in the heap; l are they in the order of their coming -/
inductive SetI (h : Heap) (a : Addr) (led : Bool) (l : List Int) : Prop
  | mk (o : Obj) (es : Array (Int × Value)) (ep : Nat) (t : SetTable) (ho : h.get? a = some o) (hex : o.ExactSet) (hd : o.data = .set es ep t) (hel : ∀ e ∈ es.toList, ∃ i tk, e = (hashInt i, Value.int i tk))
    (hp : (es.toList.map fun e => intOf e.2).Perm l) (hb : es.size < scanBound) (hf : t.fits es.size = true) (ht : TabI led t) : SetI h a led l
noncomputable def dd (l : List Int) (k : Int) : List Int := if k ∈ l then l else l ++ [k]
theorem dd_nodup {l : List Int} (h : l.Nodup) (k : Int) : (dd l k).Nodup := by
  unfold dd
  split
  · exact h
  · rename_i q
    exact List.nodup_append.mpr ⟨h, by simp, fun a ha b hb e => q (by simp at hb; rw [← hb, ← e]; exact ha)⟩
theorem dd_mem {l : List Int} {k x : Int} : x ∈ dd l k ↔ x ∈ l ∨ x = k := by
  unfold dd
  split
  · rename_i q
    exact ⟨.inl, fun h => h.elim id fun e => e ▸ q⟩
  · simp
theorem dd_length (l : List Int) (k : Int) : (dd l k).length ≤ l.length + 1 := by
  unfold dd
  split
  · (first | lia | omega)
  · simp

section
variable {prog : Program} {w : World} {A : Around} {E : Value → Shared → Prop} {s : Shared} {a : Addr} {led : Bool} {l : List Int}

theorem elems_of {es : List (Int × Value)} (h : ∀ e ∈ es, ∃ i tk, e = (hashInt i, Value.int i tk)) : ElemsOf (intKind prog w) es := fun e he => by
  obtain ⟨i, tk, rfl⟩ := h e he
  exact ⟨⟨i, intKind_is prog w i tk, rfl⟩, rfl⟩
theorem SetI.stored {h : Heap} {o : Obj} {es : Array (Int × Value)} {ep : Nat} {t : SetTable} (ho : h.get? a = some o) (hex : o.ExactSet) (hd : o.data = .set es ep t) {es' : Array (Int × Value)} {t' : SetTable}
    (hel : ∀ e ∈ es'.toList, ∃ i tk, e = (hashInt i, Value.int i tk)) (hp : (es'.toList.map fun e => intOf e.2).Perm l) (hb : es'.size < scanBound) (hf : t'.fits es'.size = true) (ht : TabI led t') :
    (h.update a (Obj.putSet es' t')).get? a = some { o with data := .set es' (ep + 1) t' } ∧ SetI (h.update a (Obj.putSet es' t')) a led l := by
  have hg : (h.update a (Obj.putSet es' t')).get? a = some { o with data := .set es' (ep + 1) t' } := by
    have := Heap.get?_update_self (Obj.putSet es' t') ho (by rw [putSet_of es' t' hd]; rfl)
    rw [putSet_of es' t' hd] at this; exact this
  exact ⟨hg, _, es', ep + 1, t', hg, hex, rfl, hel, hp, hb, hf, ht⟩

theorem set_add {k : Int} {tk : Tok} {Q : Bool → Shared → Prop} (S : SetI s.heap a led l) (hroom : l.length + 1 < scanBound) (h : ∀ b h', Heap.SameBut a s.heap h' → SetI h' a led (dd l k) → Q b { s with heap := h' }) :
    wpAny (model prog w) A (setAddHashed a (.int k tk) (hashInt k)) Q E s := by
  obtain ⟨o, es, ep, t, ho, hex, hd, hel, hp, hb, hf, ht⟩ := S
  have hsz : es.size = l.length := by rw [← Array.length_toList, ← hp.length_eq, List.length_map]
  have hel' : ElemsOf (intKind prog w) es.toList := elems_of hel
  unfold setAddHashed setAddHashedIn
  refine wpAny_holding (wpAny_bind (wpAny_setState_of ho hd hf ?_))
  dsimp only
  rw [byScan_of (x := .int k tk) rfl hb hel']
  simp only [↓reduceIte]
  unfold setAddByScan
  refine wpAny_bind ?_
  refine wpAny_bind (wpAny_rule ?_)
  refine wpAny_bind (wpAny_setScan_of (knd := intKind prog w) (k := k) (intKind_is prog w k tk) ho hd hf hel' ?_)
  have isk : ∀ {e : Int × Value}, e ∈ es.toList → ((intKind prog w).is k e.2 = true ↔ intOf e.2 = k) := fun {e} he => by
    obtain ⟨i, tk, rfl⟩ := hel e he
    show ((i == k) = true) ↔ i = k
    exact beq_iff_eq
  cases hr : List.findIdx? (fun e => (intKind prog w).is k e.2) es.toList with
  | some j =>
    dsimp only
    obtain ⟨hj, hpj, _⟩ := List.findIdx?_eq_some_iff_getElem.mp hr
    have hk : k ∈ l := hp.mem_iff.mp (List.mem_map.mpr ⟨_, List.getElem_mem hj, (isk (List.getElem_mem hj)).mp hpj⟩)
    have e : s = { s with heap := s.heap } := by cases s; rfl
    have := h false s.heap (Heap.SameBut.refl a s.heap) ⟨o, es, ep, t, ho, hex, hd, hel, by unfold dd; rw [if_pos hk]; exact hp, hb, hf, ht⟩
    exact wpAny_pure (wpAny_pure this)
  | none =>
    dsimp only
    have hk : k ∉ l := fun hm => by
      obtain ⟨e, he, q⟩ := List.mem_map.mp (hp.mem_iff.mpr hm)
      have := List.findIdx?_eq_none_iff.mp hr e he
      rw [(isk he).mpr q] at this
      cases this
    have hgw : ∀ (b : Bool) {s₁ : Shared} {Q' : Unit → Shared → Prop}, Q' () s₁ → wpAny (model prog w) A (match b with | true => rule "set.scan.the-table-gave-way" | false => pure ()) Q' E s₁ :=
      fun b s₁ Q' hq => by cases b <;> first | exact wpAny_pure hq | exact wpAny_rule hq
    have hperm := layNew_perm t es (hashInt k) (.int k tk)
    have hfits := layNew_fits t es (hashInt k) (.int k tk)
    have htab := ht.layNew es (hashInt k) (.int k tk)
    generalize hL : layNew t es (hashInt k) (.int k tk) = L at hperm hfits htab ⊢
    obtain ⟨es1, t1, wasDummy, gave⟩ := L
    dsimp only at hperm hfits htab ⊢
    rw [Array.toList_push] at hperm
    have hel1 : ∀ e ∈ es1.toList, ∃ i tk, e = (hashInt i, Value.int i tk) := fun e he => by
      rcases List.mem_append.mp (hperm.mem_iff.mp he) with he | he
      · exact hel e he
      · cases List.mem_singleton.mp he; exact ⟨k, tk, rfl⟩
    have hp1 : (es1.toList.map fun e => intOf e.2).Perm (dd l k) := by
      unfold dd
      rw [if_neg hk]
      refine (hperm.map _).trans ?_
      rw [List.map_append]
      exact hp.append_right _
    have hsz1 : es1.size = l.length + 1 := by rw [← Array.length_toList, hperm.length_eq, List.length_append, Array.length_toList, hsz]; rfl
    have hb1 : es1.size < scanBound := by rw [hsz1]; exact hroom
    refine wpAny_bind (hgw _ ?_)
    have tail : ∀ t2 : SetTable, t2.fits es1.size = true → TabI led t2 → wpAny (model prog w) A (do
        storeSet a es1 t2
        if (!wasDummy && t2.tooFull) = true then do
            (match (relayAll t2 es1 (SetTable.grown es1.size)).2.2 with | true => rule "set.scan.the-table-gave-way" | false => pure ())
            storeSet a (relayAll t2 es1 (SetTable.grown es1.size)).1 (relayAll t2 es1 (SetTable.grown es1.size)).2.1
            pure (some true)
          else pure (some true)) (fun r s' => ∃ h', r = some true ∧ s' = { s with heap := h' } ∧ Heap.SameBut a s.heap h' ∧ SetI h' a led (dd l k)) E s := by
      intro t2 hf2 ht2
      refine wpAny_bind (wpAny_storeSet_of ho hd ?_ (fits_of_scanBound hb1))
      obtain ⟨ho1, hS1⟩ := SetI.stored (led := led) (l := dd l k) ho hex hd hel1 hp1 hb1 hf2 ht2
      have hsb1 := Heap.SameBut.update s.heap a (Obj.putSet es1 t2)
      split
      · have hp2 := relayAll_perm t2 es1 (SetTable.grown es1.size)
        have hf3 := relayAll_fits t2 es1 (SetTable.grown es1.size)
        have ht3 := ht2.relay es1 (SetTable.grown es1.size)
        generalize hRl : relayAll t2 es1 (SetTable.grown es1.size) = Rl at hp2 hf3 ht3 ⊢
        obtain ⟨es2, t3, gave2⟩ := Rl
        dsimp only at hp2 hf3 ht3 ⊢
        have hb2 : es2.size < scanBound := by rw [← Array.length_toList, hp2.length_eq, Array.length_toList]; exact hb1
        refine wpAny_bind (hgw _ ?_)
        refine wpAny_bind (wpAny_storeSet_of ho1 rfl ?_ (fits_of_scanBound hb2))
        obtain ⟨_, hS2⟩ := SetI.stored (led := led) (l := dd l k) ho1 hex rfl (fun e he => hel1 e (hp2.mem_iff.mp he)) ((hp2.map _).trans hp1) hb2 hf3 ht3
        exact wpAny_pure ⟨_, rfl, rfl, hsb1.trans (Heap.SameBut.update _ a _), hS2⟩
      · exact wpAny_pure ⟨_, rfl, rfl, hsb1, hS1⟩
    have fin : ∀ (r : Option Bool) (s' : Shared), (∃ h', r = some true ∧ s' = { s with heap := h' } ∧ Heap.SameBut a s.heap h' ∧ SetI h' a led (dd l k)) → wpAny (model prog w) A (match r with | some added => pure added | none => setAddHashedIn a (.int k tk) (hashInt k) 99999) Q E s' := by
      rintro r s' ⟨h', rfl, rfl, hsb, hS⟩
      exact wpAny_pure (h true h' hsb hS)
    split
    · refine wpAny_bind ?_
      rw [hashByValue_scannable 8 (x := .int k tk) rfl]
      refine wpAny_pure ?_
      exact wpAny_mono (tail t1 hfits htab) (fun r s' q => fin r s' q) fun _ _ q => q
    · refine wpAny_bind ?_
      refine wpAny_pure ?_
      exact wpAny_mono (tail t1 hfits htab) (fun r s' q => fin r s' q) fun _ _ q => q
end
end Mine

namespace Mine
open PySem PySem.Calls PyProof.Rows PySem.SeqAt

noncomputable def ddL (val : Nat → Int) (i : Nat) : List Int := ((List.range i).map val).foldl dd []
theorem ddL_succ (val : Nat → Int) (i : Nat) : ddL val (i + 1) = dd (ddL val i) (val i) := by unfold ddL; rw [List.range_succ, List.map_append, List.foldl_append]; rfl
theorem ddL_length (val : Nat → Int) : ∀ i, (ddL val i).length ≤ i
  | 0 => Nat.le_refl _
  | i + 1 => by rw [ddL_succ]; exact Nat.le_trans (dd_length _ _) (Nat.succ_le_succ (ddL_length val i))
theorem ddL_nodup (val : Nat → Int) : ∀ i, (ddL val i).Nodup
  | 0 => .nil
  | i + 1 => by rw [ddL_succ]; exact dd_nodup (ddL_nodup val i) _
theorem ddL_mem (val : Nat → Int) (x : Int) : ∀ i, x ∈ ddL val i ↔ ∃ j, j < i ∧ val j = x
  | 0 => ⟨fun h => (by cases h), fun ⟨j, h, _⟩ => absurd h (Nat.not_lt_zero _)⟩
  | i + 1 => by
    rw [ddL_succ, dd_mem, ddL_mem val x i]
    constructor
    · rintro (⟨j, h, e⟩ | e)
      · exact ⟨j, Nat.lt_succ_of_lt h, e⟩
      · exact ⟨i, Nat.lt_succ_self _, e.symm⟩
    · rintro ⟨j, h, e⟩
      by_cases q : j = i
      · exact .inr (by rw [← e, q])
      · exact .inl ⟨j, by (first | lia | omega), e⟩

section
variable {prog : Program} {w : World} {A : Around} {R : Result → Shared → Prop} {I : Addr} {fp wr : List Addr} {G : Array GenState → Array GenState → Prop} {n : Nat} {P : Nat → Value → Prop} {St : Nat → Shared → Prop} {led : Bool}

theorem SetI.at {h h' : Heap} {a : Addr} {l : List Int} (S : SetI h a led l) (e : ∀ o, h.get? a = some o → h'.get? a = some o) : SetI h' a led l := by
  obtain ⟨o, es, ep, t, ho, r1, r2, r3, r4, r5, r6, r7⟩ := S
  exact ⟨o, es, ep, t, e o ho, r1, r2, r3, r4, r5, r6, r7⟩
theorem set_loop (W : WalksS prog w A.in1 I fp wr G n P St) (S : Addr) (hSf : S ∉ fp) (val : Nat → Int) (hval : ∀ i v, P i v → ∃ t, v = .int (val i) t) (hb : n + 1 < scanBound) :
    ∀ (k i : Nat) (s : Shared), n - i = k → i ≤ n → St i s → SetI s.heap S led (ddL val i) → (∀ s', Moved (S :: wr) G s s' → SetI s'.heap S led (ddL val n) → R (.ok (.ret .none)) s') →
      codeAny (model prog w) A (.builtin "set.update.loop" ⟨[.ref S, .ref I], []⟩) R s := by
  have hSw : S ∉ wr := fun h => hSf (W.sub _ h)
  have hsub : ∀ b ∈ wr, b ∈ S :: wr := fun b hb => List.mem_cons_of_mem _ hb
  intro k
  induction k with
  | zero =>
    intro i s hk hi hst hS hR
    have hin : i = n := by (first | lia | omega)
    subst hin
    refine codeAny_builtin F.entry_set_update_loop ?_
    rw [Around.under_plainId F.plain_set_update_loop _]
    show wpAny _ A.in1 (pyNext (.ref I) >>= _) _ _ s
    refine wpAny_bind (W.done s _ _ hst fun s' hm => ?_)
    show wpAny _ A.in1 (ret Value.none) _ _ s'
    exact wpAny_pure (hR s' (hm.mono hsub) (hS.at fun o e => hm.heap S _ hSw e))
  | succ k ih =>
    intro i s hk hi hst hS hR
    have hlt : i < n := by (first | lia | omega)
    refine codeAny_builtin F.entry_set_update_loop ?_
    rw [Around.under_plainId F.plain_set_update_loop _]
    show wpAny _ A.in1 (pyNext (.ref I) >>= _) _ _ s
    refine wpAny_bind (W.item i s _ _ hlt hst fun v s' hP hst' hm => ?_)
    obtain ⟨t, rfl⟩ := hval i v hP
    have hS' := hS.at (h' := s'.heap) fun o e => hm.heap S _ hSw e
    show wpAny _ A.in1 (holding [Value.int (val i) t] (setAdd S (.int (val i) t)) >>= _) _ _ s'
    refine wpAny_bind (wpAny_holding ?_)
    unfold setAdd
    refine wpAny_holding ?_
    refine wpAny_bind ((intKind prog w).pyHash (k := val i) (intKind_is _ _ _ _) ?_)
    have hroom : (ddL val i).length + 1 < scanBound := by have := ddL_length val i; (first | lia | omega)
    refine set_add (s := { s' with toks := s'.toks + 1 }) hS' hroom fun b h' hsb hS2 => ?_
    rw [← ddL_succ] at hS2
    refine wpAny_pure ⟨plainId_quiet F.plain_set_update_loop _, ih (i + 1) _ (by (first | lia | omega)) hlt (W.frame _ s' _ _ hst' (Nat.le_succ _) fun b hb o e => ?_) hS2 fun s'' hm'' hS'' => ?_⟩
    · rw [hsb.2 b (fun h : b = S => hSf (by rw [← h]; exact hb))]; exact e
    · refine hR s'' (Moved.trans W.gtrans ((hm.mono hsub).then_heap (Nat.le_succ _) fun b o hb e => ?_) hm'') hS''
      rw [hsb.2 b (fun h : b = S => hb (by rw [h]; exact List.mem_cons_self))]; exact e
end

/-- are sets told by their text? -/
noncomputable def byText (w : World) : Bool := w.params.followText "set-order"
section
variable {prog : Program} {w : World} {A : Around} {E : Value → Shared → Prop} {s : Shared}
theorem byText_ok {Q : Bool → Shared → Prop} (h : Q (byText w) s) : wpAny (model prog w) A setsByText Q E s := by
  unfold setsByText
  exact wpAny_bind (wpAny_askSetting (wpAny_pure h))
noncomputable def freshSet (w : World) : Obj := { cls := .type "set", dict := none, data := .set #[] 0 (.fresh 0 0 (!byText w)) }
theorem set_new1 (a : Value) {Q₁ : Value → Shared → Prop} (h : Q₁ (.ref s.heap.objs.size) { s with heap := s.heap.push (freshSet w) }) : codeAny (model prog w) A (.call (.builtin "set.__new__") ⟨[.type "set", a], []⟩) (wants Q₁ E) s := by
  refine codeAny_of_tree ?_
  show wpAny _ A.in1 (do checkBuiltinCall "set.__new__" ⟨[.type "set", a], []⟩; again (.builtin "set.__new__" ⟨[.type "set", a], []⟩)) _ _ s
  refine wpAny_bind (wpAny_of_eq (PySem.F.newCall_set_1 a) (wpAny_pure ⟨plainId_quiet F.plain_set_new _, codeAny_builtin F.entry_set_new ?_⟩))
  rw [Around.under_plainId F.plain_set_new _]
  unfold Builtin.«set.__new__» Builtin.Frozenset.newClass
  have hsub := sub_set_self
  obtain ⟨hp, g, d, tk, os⟩ := s
  dsimp only
  wp_walk
  refine wpAny_askSetting (wpAny_pure ?_)
  dsimp only
  simp only [newObj]
  refine wpAny_bind (wpAny_alloc (wpAny_pure ?_))
  exact wpAny_pure h
end
end Mine

namespace Mine
open PySem PySem.Calls PyProof.Rows PySem.SeqAt

section
variable {prog : Program} {w : World} {A : Around} {E : Value → Shared → Prop} {s : Shared}

theorem fresh_setI {h : Heap} {a : Addr} (e : h.get? a = some (freshSet w)) : SetI h a (!byText w) [] :=
  ⟨_, #[], 0, _, e, ⟨rfl, rfl, rfl⟩, rfl, fun e he => (by simp at he), .refl _, by decide, rfl, ⟨rfl, .nil⟩⟩

/-- set(l), l a list of ints -/
theorem set_listI {l : Addr} {items : Array Value} {ns : List Int} {Q : Value → Shared → Prop} (hh : A.handled = none) (hl : s.heap.IsList l items) (hi : IntsAre items.toList ns) (hb : items.size + 1 < scanBound)
    (h : ∀ (h' : Heap) (tk : Nat), SetI h' s.heap.objs.size (!byText w) (ddL (fun i => ns.getD i 0) items.size) → (∀ b o, s.heap.get? b = some o → h'.get? b = some o) → Q (.ref s.heap.objs.size) { s with heap := h', toks := tk }) :
    wpAny (model prog w) A (call (.type "set") [.ref l]) Q E s := by
  obtain ⟨c, tl, hmro⟩ := F.called_set.mro
  have hmade := F.called_set.made
  have hsub := F.called_set.sub
  refine wpAny_call (codeAny_of_tree ?_)
  show wpAny _ _ (callAny (.type "set") _) _ _ _
  refine wpAny_pure ⟨Code.quiet_builtin _ (by decide +kernel), codeAny_builtin F.entry_type_call ?_⟩
  rw [Around.under_plain (weight_type_call_type "set" [.ref l] []) rfl]
  have h1 := F.called_set.notType
  have h2 := F.called_set.canCreate
  have hct := PySem.F.typeCall_set_1 (.ref l)
  repeat (any_goals (first | assumption | wp_step))
  refine codeAny_mono (set_new1 (.ref l) (E := E) (Q₁ := fun obj s₁ => obj = .ref s.heap.objs.size ∧ s₁ = { s with heap := s.heap.push (freshSet w) }) ⟨rfl, rfl⟩) fun r s₁ hr => ?_
  cases r with
  | error e => exact hr
  | ok fl =>
    cases fl with
    | ret obj =>
      obtain ⟨rfl, rfl⟩ := hr
      have hS : (s.heap.push (freshSet w)).get? s.heap.objs.size = some (freshSet w) := Heap.get?_push_size _ rfl
      have hT : Shared.TypeIs { s with heap := s.heap.push (freshSet w) } (.ref s.heap.objs.size) "set" := ⟨_, hS, rfl⟩
      have hli := F.called_set.init.lookup
      have hbi := F.called_set.init.bind (.ref s.heap.objs.size)
      repeat (any_goals (first | assumption | wp_step))
      refine codeAny_mono (codeAny_call_builtin (R := wants (fun r s₂ => r = .none ∧ ∃ h' tk, s₂ = { s with heap := h', toks := tk } ∧ SetI h' s.heap.objs.size (!byText w) (ddL (fun i => ns.getD i 0) items.size) ∧
          (∀ b o, s.heap.get? b = some o → h'.get? b = some o)) E) F.called_set.init.plain F.entry_set_init (check_set_init_1 hT ?_)) fun r₂ s₂ hr₂ => ?_
      · obtain ⟨ol, hol, hcl, nl, hdl⟩ := hl
        obtain ⟨ocls, odict, odata, oslots⟩ := ol
        simp only at hcl hdl
        subst hcl; subst hdl
        have hol' : (s.heap.push (freshSet w)).get? l = some { cls := .type "list", dict := odict, data := .seq items nl, slots := oslots } := Heap.get?_push_of_some _ hol
        have hsls := PySem.F.sub_list_set
        have hslf := PySem.F.sub_list_frozenset
        have hne : (Value.type "list" == Value.type "dict") = false := by decide
        have hl1 : (s.heap.push (freshSet w)).IsList l items := ⟨_, hol', rfl, nl, rfl⟩
        unfold Builtin.«set.__init__» noKeywords Builtin.Frozenset.updateFrom
        generalize hPI : pyIter = PI
        wp_walk
        subst hPI
        refine wpAny_pyIter_list hl1 ?_
        refine wpAny_bind (wpAny_runValue ?_)
        have hlS : l < s.heap.objs.size := Heap.lt_size hol
        have hh3 : A.in1.in1.in1.handled = none := by simp [hh]
        have hneI : l ≠ (s.heap.push (freshSet w)).objs.size := by
          rw [Heap.size_push]; exact Nat.ne_of_lt (Nat.lt_succ_of_lt hlS)
        have hSf : s.heap.objs.size ∉ [(s.heap.push (freshSet w)).objs.size, l] := by
          rw [Heap.size_push]; simp only [List.mem_cons, List.not_mem_nil, or_false, not_or]
          exact ⟨Nat.ne_of_lt (Nat.lt_succ_self _), Nat.ne_of_gt hlS⟩
        have hval : ∀ (i : Nat) (v : Value), items[i]? = some v → ∃ t, v = .int ((fun i => ns.getD i 0) i) t := fun i v hv =>
          IntsAre.int_at hi i v (by rw [Array.getElem?_toList]; exact hv)
        refine set_loop (led := !byText w) ((Walks.list hh3 _ l hneI items).toS) s.heap.objs.size hSf (fun i => ns.getD i 0) hval hb (items.size - 0) 0 _ (by (first | lia | omega)) (Nat.zero_le _)
          ⟨⟨_, Heap.get?_push_size _ rfl, rfl, rfl⟩, (hl1.push _)⟩ (fresh_setI (Heap.get?_push_of_some _ hS)) ?_
        intro s' hm hS'
        obtain ⟨h', g', d', tk', os'⟩ := s'
        have eg : g' = s.gens := hm.gens
        have ed : d' = s.drawn := hm.drawn
        have eo : os' = s.os := hm.os
        subst eg; subst ed; subst eo
        show wpAny _ _ _ _ _ _
        refine wpAny_pure ?_
        show wpAny _ _ (ret Value.none) _ _ _
        refine wpAny_pure ⟨rfl, h', tk', rfl, hS', fun b o e => ?_⟩
        have hb := Heap.lt_size e
        refine hm.heap b o ?_ (Heap.get?_push_of_some _ (Heap.get?_push_of_some _ e))
        simp only [List.mem_cons, List.not_mem_nil, or_false, not_or]
        exact ⟨Nat.ne_of_lt hb, by rw [Heap.size_push]; exact Nat.ne_of_lt (Nat.lt_succ_of_lt hb)⟩
      · cases r₂ with
        | error e => exact hr₂
        | ok fl₂ =>
          cases fl₂ with
          | ret r =>
            obtain ⟨rfl, h', tk, rfl, hS', hk'⟩ := hr₂
            repeat (any_goals (first | assumption | wp_step))
            exact h _ _ hS' hk'
          | next => exact hr₂.elim
          | brk => exact hr₂.elim
          | cont => exact hr₂.elim
    | next => exact hr.elim
    | brk => exact hr.elim
    | cont => exact hr.elim
end
end Mine

namespace Mine
open PySem PySem.Calls PyProof.Rows PySem.SeqAt

/-! walking over a set -/
theorem erase_perm {α : Type} : ∀ {l : List α} {i : Nat} (h : i < l.length), (l[i] :: l.eraseIdx i).Perm l
  | x :: l, 0, h => .refl _
  | x :: l, i + 1, h => by
    rw [List.eraseIdx_cons_succ, List.getElem_cons_succ]
    exact (List.Perm.swap ..).trans (List.Perm.cons _ (erase_perm (by simpa using h)))
theorem pick_go {α : Type} (next : Nat → Nat) : ∀ (fuel k : Nat) (left : List α) (out : Array α), left.length ≤ fuel → (pickOrder.go next fuel k left out).toList.Perm (out.toList ++ left)
  | 0, k, left, out, h => by
    have : left = [] := List.length_eq_zero_iff.mp (Nat.le_zero.mp h)
    subst this
    unfold pickOrder.go; simp
  | fuel + 1, k, left, out, h => by
    unfold pickOrder.go
    cases e : left[next k % left.length]? with
    | none =>
      have : left = [] := by
        cases left with
        | nil => rfl
        | cons x l => rw [List.getElem?_eq_none_iff] at e; exact absurd (Nat.mod_lt (next k) (by simp)) (Nat.not_lt.mpr e)
      subst this
      simp
    | some x =>
      dsimp only
      have hlt := (List.getElem?_eq_some_iff.mp e).1
      have hlen : (left.eraseIdx (next k % left.length)).length ≤ fuel := by rw [List.length_eraseIdx_of_lt hlt]; (first | lia | omega)
      refine (pick_go next fuel (k + 1) _ (out.push x) hlen).trans ?_
      rw [Array.toList_push, List.append_assoc]
      refine List.Perm.append_left _ ?_
      have hx : left[next k % left.length] = x := (List.getElem?_eq_some_iff.mp e).2
      have := erase_perm hlt
      rw [hx] at this
      exact this
theorem pick_perm {α : Type} (next : Nat → Nat) (xs : Array α) : (pickOrder next xs).toList.Perm xs.toList := by
  unfold pickOrder
  refine (pick_go next xs.size 0 xs.toList #[] (by simp)).trans ?_
  simp
section
variable {prog : Program} {w : World} {A : Around} {E : Value → Shared → Prop} {s : Shared}
theorem choose_ok {src : Source} {n : Nat} {Q : Nat → Shared → Prop} (hn : n ≠ 0) (h : ∀ i d, i < n → Q i { s with drawn := d }) : wpAny (model prog w) A (choose src n) Q E s := fun Γ p _ =>
  ⟨hn, h _ _ (Nat.mod_lt _ (Nat.pos_of_ne_zero hn))⟩
theorem draw_ok {α : Type} : ∀ (n : Nat) (xs : List α) {s : Shared} {Q : List α → Shared → Prop}, xs.length ≤ n → (∀ l d, l.Perm xs → Q l { s with drawn := d }) → wpAny (model prog w) A (drawOrder n xs) Q E s
  | 0, xs, s, Q, h, k => by
    have : xs = [] := List.length_eq_zero_iff.mp (Nat.le_zero.mp h)
    subst this
    exact wpAny_pure (k [] s.drawn (.refl _))
  | n + 1, [], s, Q, h, k => wpAny_pure (k [] s.drawn (.refl _))
  | n + 1, x :: xs, s, Q, h, k => by
    unfold drawOrder
    refine wpAny_bind (choose_ok (by simp) fun i d hi => ?_)
    rw [List.getElem?_eq_getElem hi]
    dsimp only
    have hlen : ((x :: xs).eraseIdx i).length ≤ n := by rw [List.length_eraseIdx_of_lt hi]; simp at h ⊢; (first | lia | omega)
    refine wpAny_bind (draw_ok n _ hlen fun l d' hl => ?_)
    exact wpAny_pure (k _ d' ((List.Perm.cons _ hl).trans (erase_perm hi)))
end

/-- where the walk by places stands -/
noncomputable def slotAt (t : SetTable) (i : Nat) : Nat := if i = 0 then 0 else t.place.getD (i - 1) 0 + 1
theorem below_slotAt {t : SetTable} {i : Nat} (hp : t.place.toList.Pairwise (· < ·)) (hi : i ≤ t.place.size) : SetTable.below t.place (slotAt t i) = i := by
  obtain ⟨b1, b2, b3⟩ := below_spec (slotAt t i) hp
  have mono : ∀ i k, i < k → k < t.place.size → t.place.getD i 0 < t.place.getD k 0 := fun i k hik hk => by
    have := List.pairwise_iff_getElem.mp hp i k (by simpa using (by (first | lia | omega) : i < t.place.size)) (by simpa using hk) hik
    have e1 : t.place.getD i 0 = t.place[i] := by simp [Array.getD, show i < t.place.size by (first | lia | omega)]
    have e2 : t.place.getD k 0 = t.place[k] := by simp [Array.getD, hk]
    rw [e1, e2]; simpa using this
  generalize SetTable.below t.place (slotAt t i) = r at b1 b2 b3
  unfold slotAt at b1 b2
  by_cases h0 : i = 0
  · subst h0
    simp only [if_true] at b1 b2
    cases r with
    | zero => rfl
    | succ r => exact absurd (b1 0 (by (first | lia | omega))) (Nat.not_lt_zero _)
  · simp only [h0, if_false] at b1 b2
    rcases Nat.lt_trichotomy r i with h | h | h
    · have h1 := b2 r (Nat.le_refl _) (by (first | lia | omega))
      by_cases q : r = i - 1
      · rw [q] at h1; (first | lia | omega)
      · have := mono r (i - 1) (by (first | lia | omega)) (by (first | lia | omega)); (first | lia | omega)
    · exact h
    · have h1 := b1 i h
      have := mono (i - 1) i (by (first | lia | omega)) (by (first | lia | omega))
      (first | lia | omega)

noncomputable def itObj (first : Value) (i : Nat) (S n ep : Nat) : Obj := { cls := .type "set_iterator", dict := none, data := .fields #[first, .int i 0, .ref S, .int n 0, .int ep 0], slots := #[] }
noncomputable def tupObj (ps : List Nat) : Obj := { cls := .type "tuple", data := .seq (ps.map fun (i : Nat) => Value.int i 0).toArray 0 }
/-- the walk, in its three ways; r are the entries in their order -/
inductive SW (w : World) (S I tp : Addr) (es : Array (Int × Value)) (ep : Nat) (t : SetTable) (r : List (Int × Value)) (i : Nat) (h : Heap) : Prop
  | text (hb : byText w = true) (hr : r = (pickOrder (w.params.setOrder S ep) es).toList) (e : h.get? I = some (itObj (.int 0 0) i S es.size ep)) : SW w S I tp es ep t r i h
  | plain (hb : byText w = false) (hd : (!t.plain && decide (es.size > 1)) = false) (hr : r = es.toList) (e : h.get? I = some (itObj (.int (slotAt t i) 0) i S es.size ep)) : SW w S I tp es ep t r i h
  | drawn (ps : List Nat) (hp : ps.Perm (List.range es.size)) (hr : r = ps.map fun p => es.getD p (0, .none)) (e : h.get? I = some (itObj (.ref tp) i S es.size ep)) (et : h.get? tp = some (tupObj ps)) : SW w S I tp es ep t r i h
theorem SW.perm {w : World} {S I tp : Addr} {es : Array (Int × Value)} {ep : Nat} {t : SetTable} {r : List (Int × Value)} {i : Nat} {h : Heap} (x : SW w S I tp es ep t r i h) : r.Perm es.toList := by
  cases x with
  | text hb hr e => rw [hr]; exact pick_perm _ _
  | plain hb hd hr e => rw [hr]
  | drawn ps hp hr e et =>
    rw [hr]
    refine (hp.map _).trans (List.Perm.of_eq ?_)
    refine List.ext_getElem? fun i => ?_
    rw [List.getElem?_map]
    by_cases hi : i < es.size
    · rw [List.getElem?_range hi, Array.getElem?_toList, Array.getElem?_eq_getElem hi]
      simp [Array.getD, hi]
    · rw [List.getElem?_eq_none (by simpa using hi), List.getElem?_eq_none (by simpa using hi)]; rfl
end Mine

namespace Mine
open PySem PySem.Calls PyProof.Rows PySem.SeqAt

theorem entry_set_iter : entryFor table "set.__iter__" = some Builtin.«frozenset.__iter__» := entryFor_alias (id' := "frozenset.__iter__") (by kernel_rfl) rfl (by decide +kernel) (by kernel_rfl)
theorem slot_si_next : Slot "set_iterator" "__next__" "set_iterator.__next__" :=
  .of (owner := "set_iterator") (n := "__next__") (by rw [typeLookup_type, builtinLookup_eq_fast]; kernel_rfl) (by decide +kernel) (by decide +kernel) (by decide +kernel)
    (by first | exact .inl (by decide +kernel) | exact .inr (by decide +kernel)) (by rw [isSubtype_type]; kernel_rfl)
theorem entry_si_next : entryFor table "set_iterator.__next__" = some Builtin.«set_iterator.__next__» := entryFor_of_tree (by kernel_rfl)
theorem args_si_next (a : Value) : argsOk "set_iterator.__next__" ⟨[a], []⟩ := by unfold argsOk; kernel_rfl
theorem slot_si_iter : Slot "set_iterator" "__iter__" "set_iterator.__iter__" :=
  .of (owner := "set_iterator") (n := "__iter__") (by rw [typeLookup_type, builtinLookup_eq_fast]; kernel_rfl) (by decide +kernel) (by decide +kernel) (by decide +kernel)
    (by first | exact .inl (by decide +kernel) | exact .inr (by decide +kernel)) (by rw [isSubtype_type]; kernel_rfl)
theorem entry_si_iter : entryFor table "set_iterator.__iter__" = some Builtin.«dict_keyiterator.__iter__» := entryFor_alias (id' := "dict_keyiterator.__iter__") (by kernel_rfl) rfl (by decide +kernel) (by kernel_rfl)
theorem args_si_iter (a : Value) : argsOk "set_iterator.__iter__" ⟨[a], []⟩ := by unfold argsOk; kernel_rfl

section
variable {prog : Program} {w : World} {A : Around} {E : Value → Shared → Prop} {s : Shared} {S I tp : Addr} {es : Array (Int × Value)} {ep : Nat} {t : SetTable} {o : Obj} {r : List (Int × Value)} {i : Nat}

theorem drawn_ok {Q : Bool → Shared → Prop} (ho : s.heap.get? S = some o) (hd : o.data = .set es ep t) (hf : t.fits es.size = true) (h : Q (!byText w && (!t.plain && decide (es.size > 1))) s) : wpAny (model prog w) A (setDrawn S) Q E s := by
  unfold setDrawn
  exact wpAny_bind (wpAny_setState_of ho hd hf (wpAny_bind (byText_ok (wpAny_pure h))))
/-- iter(set) -/
theorem iter_set {Q : Value → Shared → Prop} (ho : s.heap.get? S = some o) (hex : o.ExactSet) (hd : o.data = .set es ep t) (hf : t.fits es.size = true) (hsz : es.size < scanBound)
    (h : ∀ I tp r s', s.heap.get? I = none → (tp = S ∨ s.heap.get? tp = none ∧ tp ≠ I) → SW w S I tp es ep t r 0 s'.heap → (∀ b ob, s.heap.get? b = some ob → s'.heap.get? b = some ob) → s'.gens = s.gens → s'.os = s.os → Q (.ref I) s') :
    wpAny (model prog w) A (pyIter (.ref S)) Q E s := by
  have hT : s.TypeIs (.ref S) "set" := ⟨o, ho, hex.1⟩
  refine wpAny_pyIter_slot hT F.slot_set_iter (wpAny_call_entry F.slot_set_iter hT entry_set_iter ?_ (F.args_set_iter_1 _))
  unfold Builtin.«frozenset.__iter__»
  refine wpAny_bind (wpAny_pure ?_)
  refine wpAny_bind ?_
  refine wpAny_bind (wpAny_setEntries_of ho hd hf (wpAny_pure ?_))
  refine wpAny_bind (drawn_ok ho hd hf ?_)
  have none_new : ∀ {hp : Heap}, hp.get? hp.objs.size = none := fun {hp} => by
    cases e : hp.get? hp.objs.size with
    | none => rfl
    | some ob => exact absurd (Heap.lt_size e) (Nat.lt_irrefl _)
  cases hc : (!byText w && (!t.plain && decide (es.size > 1))) with
  | false =>
    simp only [Bool.false_eq_true, if_false]
    refine wpAny_bind (wpAny_pure ?_)
    refine wpAny_bind (wpAny_setEpoch_of ho hd hf ?_)
    refine wpAny_bind (wpAny_newObj_type (wpAny_pure ⟨_, rfl, "set_iterator", _, ⟨_, Heap.get?_push_size _ rfl, rfl⟩, slot_si_next.lookup, ?_⟩))
    have hg : (s.heap.push (itObj (.int 0 0) 0 S es.size ep)).get? s.heap.objs.size = some (itObj (.int 0 0) 0 S es.size ep) := Heap.get?_push_size _ rfl
    by_cases hb : byText w = true
    · exact h _ S _ _ none_new (.inl rfl) (.text hb rfl hg) (fun b ob e => Heap.get?_push_of_some _ e) rfl rfl
    · have hb' : byText w = false := by simpa using hb
      rw [hb'] at hc
      exact h _ S _ _ none_new (.inl rfl) (.plain hb' (by simpa using hc) rfl hg) (fun b ob e => Heap.get?_push_of_some _ e) rfl rfl
  | true =>
    simp only [if_true]
    refine wpAny_bind (draw_ok _ _ (by simp) fun ps d hps => ?_)
    have hpl : ps.length = es.size := by rw [hps.length_eq, List.length_range]
    refine wpAny_bind (wpAny_newTuple (Q := _) ?_ (by rw [List.length_map, hpl]; exact fits_of_scanBound hsz))
    have ho' : ({ s with drawn := d, heap := s.heap.push { cls := .type "tuple", data := .seq (ps.map fun (i : Nat) => rawInt i).toArray 0 } } : Shared).heap.get? S = some o := Heap.get?_push_of_some _ ho
    refine wpAny_bind (wpAny_setEpoch_of ho' hd hf ?_)
    refine wpAny_bind (wpAny_newObj_type (wpAny_pure ⟨_, rfl, "set_iterator", _, ⟨_, Heap.get?_push_size _ rfl, rfl⟩, slot_si_next.lookup, ?_⟩))
    have ht : (s.heap.push (tupObj ps)).get? s.heap.objs.size = some (tupObj ps) := Heap.get?_push_size _ rfl
    have hsz' : (s.heap.push (tupObj ps)).objs.size = s.heap.objs.size + 1 := Heap.size_push ..
    have hg : ((s.heap.push (tupObj ps)).push (itObj (.ref s.heap.objs.size) 0 S es.size ep)).get? (s.heap.push (tupObj ps)).objs.size = some (itObj (.ref s.heap.objs.size) 0 S es.size ep) := Heap.get?_push_size _ rfl
    refine h (s.heap.push (tupObj ps)).objs.size s.heap.objs.size _ _ ?_ (.inr ⟨none_new, by rw [hsz']; exact Nat.ne_of_lt (Nat.lt_succ_self _)⟩) (.drawn ps hps rfl hg (Heap.get?_push_of_some _ ht)) (fun b ob e => Heap.get?_push_of_some _ (Heap.get?_push_of_some _ e)) rfl rfl
    cases e : s.heap.get? (s.heap.push (tupObj ps)).objs.size with
    | none => rfl
    | some ob => exact absurd (Heap.lt_size e) (by rw [hsz']; exact Nat.not_lt.mpr (Nat.le_succ _))

end
end Mine

namespace Mine
open PySem PySem.Calls PyProof.Rows PySem.SeqAt

section
variable {prog : Program} {w : World} {A : Around} {E : Value → Shared → Prop} {s : Shared} {S I tp : Addr} {es : Array (Int × Value)} {ep : Nat} {t : SetTable} {o : Obj} {r : List (Int × Value)} {i : Nat}

/-- the iterator moves on -/
theorem si_move {h : Heap} {first first' x : Value} {k : Nat} (e : h.get? I = some (itObj first i S k ep)) {Q : PySem.Fin → Shared → Prop} {s : Shared} (hs : s.heap = h) (kQ : ∀ h', Heap.SameBut I h h' → h'.get? I = some (itObj first' (i + 1) S k ep) → Q (.done (.ret x)) { s with heap := h' }) :
    wpAny (model prog w) A (do setField (.ref I) 0 first'; setField (.ref I) 1 (rawInt ((i : Int) + 1)); ret x) Q E s := by
  subst hs
  refine wpAny_bind (wpAny_setField_rec e (by simp) fun h1 e1 s1 => ?_)
  refine wpAny_bind (wpAny_setField_rec e1 (by simp) fun h2 e2 s2 => ?_)
  exact wpAny_pure (kQ h2 (s1.trans s2) (by rw [e2]; rfl))
theorem si_move1 {h : Heap} {first x : Value} {k : Nat} (e : h.get? I = some (itObj first i S k ep)) {Q : PySem.Fin → Shared → Prop} {s : Shared} (hs : s.heap = h) (kQ : ∀ h', Heap.SameBut I h h' → h'.get? I = some (itObj first (i + 1) S k ep) → Q (.done (.ret x)) { s with heap := h' }) :
    wpAny (model prog w) A (do setField (.ref I) 1 (rawInt ((i : Int) + 1)); ret x) Q E s := by
  subst hs
  refine wpAny_bind (wpAny_setField_rec e (by simp) fun h2 e2 s2 => ?_)
  exact wpAny_pure (kQ h2 s2 (by rw [e2]; rfl))
/-- the iterator is at its end -/
theorem si_stop {Q : Option Value → Shared → Prop} {h : Heap} {first : Value} {k : Nat} (hh : A.handled = none) (e : h.get? I = some (itObj first i S k ep)) {s : Shared} (hs : s.heap = h) {Q' : PySem.Fin → Shared → Prop} (kQ : ∀ h', Heap.ExtBut I h h' → Q none { s with heap := h' }) :
    wpAny (model prog w) A.in1 (do setField (.ref I) 2 .none; raiseNew (← newExc (.type "StopIteration") [])) Q' (fun e s' => wpAny (model prog w) A (do let b ← isInstance e (.type "StopIteration"); if b = true then pure none else throw e) Q E s') s := by
  subst hs
  refine wpAny_bind (wpAny_setField_rec e (by simp) fun h1 e1 s1 => ?_)
  refine wpAny_bind ?_
  simp only [newExc, newTuple]
  refine wpAny_bind (wpAny_newObj_type ?_ (by size_fits))
  refine wpAny_bind (m := firstArgMember _ _) (wpAny_of_eq (a := Value.none) (by first | rfl | (simp only [firstArgMember]; rfl)) ?_)
  refine wpAny_newObj_type ?_ (by size_fits)
  simp only [raiseNew]
  refine wpAny_bind (wpAny_handled ?_)
  rw [show A.in1.handled = none from hh]
  refine wpAny_bind (wpAny_pure (wpAny_throw ?_))
  refine wpAny_bind (wpAny_isInstance (T := "StopIteration") (b := true) ⟨_, Heap.get?_push_size _ rfl, rfl⟩ isSubtype_stop ?_)
  exact wpAny_pure (kQ _ ((s1.extBut.push _).push _))

theorem text_next {Q : Option (Value × Nat) → Shared → Prop} {slot : Nat} (ho : s.heap.get? S = some o) (hd : o.data = .set es ep t) (hf : t.fits es.size = true) (hb : byText w = true)
    (h : Q (((pickOrder (w.params.setOrder S ep) es)[i]?).map fun e => (e.2, slot)) s) : wpAny (model prog w) A (setNext S slot i ep) Q E s := by
  unfold setNext
  refine wpAny_bind (wpAny_setState_of ho hd hf ?_)
  dsimp only
  refine wpAny_bind (byText_ok ?_)
  rw [hb, if_pos rfl]
  simp only [bne_self_eq_false, Bool.false_eq_true, if_false]
  unfold setWalk
  refine wpAny_bind (wpAny_bind (wpAny_setState_of ho hd hf ?_))
  dsimp only
  refine wpAny_bind (byText_ok ?_)
  rw [hb, if_pos rfl]
  exact wpAny_bind (wpAny_askSetting (wpAny_pure (wpAny_pure h)))
theorem plain_next {Q : Option (Value × Nat) → Shared → Prop} (ho : s.heap.get? S = some o) (hd : o.data = .set es ep t) (hf : t.fits es.size = true) (hb : byText w = false) (hl : t.led = !byText w) (hp : (!t.plain && decide (es.size > 1)) = false) (hr : t.place.toList.Pairwise (· < ·)) (hi : i ≤ es.size)
    (h : Q (if i < es.size then some ((es.getD i (0, .none)).2, slotAt t (i + 1)) else none) s) : wpAny (model prog w) A (setNext S (slotAt t i) i ep) Q E s := by
  have hps : t.place.size = es.size := by
    unfold SetTable.fits at hf
    exact beq_iff_eq.mp (Bool.and_eq_true _ _ ▸ hf : _ ∧ _).1
  unfold setNext
  refine wpAny_bind (wpAny_setState_of ho hd hf ?_)
  dsimp only
  refine wpAny_bind (byText_ok ?_)
  rw [hb, if_neg (by decide)]
  show wpAny _ _ (if (!t.plain && decide (es.size > 1)) = true then _ else _) _ _ _
  rw [hp, if_neg (by decide)]
  have hled : (!t.led && !es.isEmpty) = false := by rw [hl, hb]; rfl
  refine wpAny_bind ?_
  show wpAny _ _ (if (!t.led && !es.isEmpty) = true then _ else _) _ _ _
  rw [hled, if_neg (by decide)]
  refine wpAny_pure (wpAny_pure ?_)
  rw [below_slotAt hr (by (first | lia | omega))]
  by_cases hlt : i < es.size
  · rw [if_pos hlt] at h
    have hlt' : i < t.place.size := by (first | lia | omega)
    rw [Array.getElem?_eq_getElem hlt, Array.getElem?_eq_getElem hlt']
    have e1 : es.getD i (0, .none) = es[i] := by simp [Array.getD, hlt]
    have e2 : slotAt t (i + 1) = t.place[i] + 1 := by unfold slotAt; rw [if_neg (by (first | lia | omega)), Nat.add_sub_cancel]; simp [Array.getD, hlt']
    rw [e1, e2] at h
    exact h
  · rw [if_neg hlt] at h
    rw [Array.getElem?_eq_none (by (first | lia | omega))]
    exact h

theorem SW.itObj_at {h : Heap} (x : SW w S I tp es ep t r i h) : ∃ first, h.get? I = some (itObj first i S es.size ep) := by
  cases x with
  | text hb hr e => exact ⟨_, e⟩
  | plain hb hd hr e => exact ⟨_, e⟩
  | drawn ps hp hr e et => exact ⟨_, e⟩
theorem get_pick {q : Array (Int × Value)} (hl : q.size = es.size) (hi : i < es.size) : q[i]? = some (q.toList.getD i (0, .none)) := by
  rw [Array.getElem?_eq_getElem (by (first | lia | omega)), List.getD_eq_getElem?_getD, Array.getElem?_toList, Array.getElem?_eq_getElem (by (first | lia | omega))]; rfl
/-- one more of the set -/
theorem next_item {Q : Option Value → Shared → Prop} (ho : s.heap.get? S = some o) (hd : o.data = .set es ep t) (hf : t.fits es.size = true) (ht : TabI (!byText w) t) (hi : i < es.size) (htp : tp ≠ I) (x : SW w S I tp es ep t r i s.heap)
    (h : ∀ h', Heap.SameBut I s.heap h' → SW w S I tp es ep t r (i + 1) h' → Q (some (r.getD i (0, .none)).2) { s with heap := h' }) : wpAny (model prog w) A (pyNext (.ref I)) Q E s := by
  obtain ⟨first, e0⟩ := x.itObj_at
  have hT : s.TypeIs (.ref I) "set_iterator" := ⟨_, e0, rfl⟩
  unfold pyNext
  refine wpAny_bind (wpAny_attempt (wpAny_callSpecial?_slot (name := Str.ofString "__next__") hT slot_si_next (wpAny_call_entry slot_si_next hT entry_si_next ?_ (args_si_next _))))
  unfold Builtin.«set_iterator.__next__»
  refine wpAny_bind (wpAny_pure ?_)
  cases x with
  | text hb hr e =>
    refine wpAny_bind (wpAny_fieldsOf e rfl ?_)
    dsimp only
    refine wpAny_bind (wpAny_setEntries_of ho hd hf ?_)
    rw [if_neg (by simp)]
    refine wpAny_bind (text_next (slot := 0) ho hd hf hb ?_)
    have hl : (pickOrder (w.params.setOrder S ep) es).size = es.size := by rw [← Array.length_toList, (pick_perm _ _).length_eq, Array.length_toList]
    simp only [Int.toNat_natCast, get_pick hl hi, ← hr, Option.map_some]
    exact si_move (first' := rawInt (0 : Nat)) e rfl fun h' sb e' => ⟨_, rfl, wpAny_pure (h h' sb (.text hb hr e'))⟩
  | plain hb hd' hr e =>
    refine wpAny_bind (wpAny_fieldsOf e rfl ?_)
    dsimp only
    refine wpAny_bind (wpAny_setEntries_of ho hd hf ?_)
    rw [if_neg (by simp)]
    simp only [Int.toNat_natCast]
    refine wpAny_bind (plain_next ho hd hf hb ht.led hd' ht.ris (Nat.le_of_lt hi) ?_)
    rw [if_pos hi]
    have er : r.getD i (0, .none) = es.getD i (0, .none) := by rw [hr, List.getD_eq_getElem?_getD, Array.getElem?_toList]; simp [Array.getD, hi]
    rw [er] at h
    exact si_move (first' := rawInt (slotAt t (i + 1) : Nat)) e rfl fun h' sb e' => ⟨_, rfl, wpAny_pure (h h' sb (.plain hb hd' hr e'))⟩
  | drawn ps hp hr e et =>
    have hpl : ps.length = es.size := by rw [hp.length_eq, List.length_range]
    have hip : i < ps.length := by (first | lia | omega)
    have hpi : ps[i] < es.size := List.mem_range.mp (hp.mem_iff.mp (List.getElem_mem hip))
    refine wpAny_bind (wpAny_fieldsOf e rfl ?_)
    dsimp only
    refine wpAny_bind (wpAny_setEntries_of ho hd hf ?_)
    rw [if_neg (by simp)]
    simp only [Int.toNat_natCast]
    refine wpAny_bind ?_
    unfold seqItems?
    refine wpAny_bind (wpAny_load et (wpAny_pure ?_))
    have eg : ((ps.map fun (i : Nat) => Value.int i 0).toArray)[i]? = some (.int (ps[i] : Nat) 0) := by rw [List.getElem?_toArray, List.getElem?_map, List.getElem?_eq_getElem hip]; rfl
    dsimp only [tupObj]
    rw [eg]
    dsimp only
    refine wpAny_bind ?_
    unfold setNextDrawn
    refine wpAny_bind (wpAny_setState_of ho hd hf ?_)
    simp only [bne_self_eq_false, Bool.false_eq_true, if_false, Int.toNat_natCast, Array.getElem?_eq_getElem hpi]
    refine wpAny_pure ?_
    have er : r.getD i (0, .none) = es[ps[i]] := by rw [hr, List.getD_eq_getElem?_getD, List.getElem?_map, List.getElem?_eq_getElem hip]; simp [Array.getD, hpi]
    rw [er] at h
    exact si_move1 e rfl fun h' sb e' => ⟨_, rfl, wpAny_pure (h h' sb (.drawn ps hp hr e' ((sb.2 _ htp).trans et)))⟩

/-- no more of the set -/
theorem next_end {Q : Option Value → Shared → Prop} (hh : A.handled = none) (ho : s.heap.get? S = some o) (hd : o.data = .set es ep t) (hf : t.fits es.size = true) (ht : TabI (!byText w) t) (x : SW w S I tp es ep t r es.size s.heap)
    (h : ∀ h', Heap.ExtBut I s.heap h' → Q none { s with heap := h' }) : wpAny (model prog w) A (pyNext (.ref I)) Q E s := by
  obtain ⟨first, e0⟩ := x.itObj_at
  have hT : s.TypeIs (.ref I) "set_iterator" := ⟨_, e0, rfl⟩
  unfold pyNext
  refine wpAny_bind (wpAny_attempt (wpAny_callSpecial?_slot (name := Str.ofString "__next__") hT slot_si_next (wpAny_call_entry slot_si_next hT entry_si_next ?_ (args_si_next _))))
  unfold Builtin.«set_iterator.__next__»
  refine wpAny_bind (wpAny_pure ?_)
  cases x with
  | text hb hr e =>
    refine wpAny_bind (wpAny_fieldsOf e rfl ?_)
    dsimp only
    refine wpAny_bind (wpAny_setEntries_of ho hd hf ?_)
    rw [if_neg (by simp)]
    refine wpAny_bind (text_next (slot := 0) ho hd hf hb ?_)
    have hl : (pickOrder (w.params.setOrder S ep) es).size = es.size := by rw [← Array.length_toList, (pick_perm _ _).length_eq, Array.length_toList]
    simp only [Int.toNat_natCast, Array.getElem?_eq_none (Nat.le_of_eq hl), Option.map_none]
    exact si_stop hh e rfl h
  | plain hb hd' hr e =>
    refine wpAny_bind (wpAny_fieldsOf e rfl ?_)
    dsimp only
    refine wpAny_bind (wpAny_setEntries_of ho hd hf ?_)
    rw [if_neg (by simp)]
    simp only [Int.toNat_natCast]
    refine wpAny_bind (plain_next ho hd hf hb ht.led hd' ht.ris (Nat.le_refl _) ?_)
    rw [if_neg (Nat.lt_irrefl _)]
    exact si_stop hh e rfl h
  | drawn ps hp hr e et =>
    have hpl : ps.length = es.size := by rw [hp.length_eq, List.length_range]
    refine wpAny_bind (wpAny_fieldsOf e rfl ?_)
    dsimp only
    refine wpAny_bind (wpAny_setEntries_of ho hd hf ?_)
    rw [if_neg (by simp)]
    simp only [Int.toNat_natCast]
    refine wpAny_bind ?_
    unfold seqItems?
    refine wpAny_bind (wpAny_load et (wpAny_pure ?_))
    have eg : ((ps.map fun (i : Nat) => Value.int i 0).toArray)[es.size]? = none := by rw [List.getElem?_toArray, List.getElem?_eq_none (by rw [List.length_map]; (first | lia | omega))]
    dsimp only [tupObj]
    rw [eg]
    dsimp only
    refine wpAny_bind (wpAny_setField_rec e (by simp) fun h1 e1 s1 => ?_)
    exact si_stop (first := rawInt 0) (h := h1) hh e1 rfl fun h' x' => h h' fun b ob hb hob => x' b ob hb (s1.extBut b ob hb hob)
end
end Mine

namespace Mine
open PySem PySem.Calls PyProof.Rows PySem.SeqAt

section
variable {prog : Program} {w : World} {A : Around} {E : Value → Shared → Prop} {s : Shared} {S I tp : Addr} {es : Array (Int × Value)} {ep : Nat} {t : SetTable} {o : Obj} {r : List (Int × Value)} {i : Nat}

theorem SW.at {h h' : Heap} (x : SW w S I tp es ep t r i h) (kI : ∀ ob, h.get? I = some ob → h'.get? I = some ob) (kt : ∀ ob, h.get? tp = some ob → h'.get? tp = some ob) : SW w S I tp es ep t r i h' := by
  cases x with
  | text hb hr e => exact .text hb hr (kI _ e)
  | plain hb hd hr e => exact .plain hb hd hr (kI _ e)
  | drawn ps hp hr e et => exact .drawn ps hp hr (kI _ e) (kt _ et)
theorem walks_set (hh : A.handled = none) (hd : o.data = .set es ep t) (hf : t.fits es.size = true) (ht : TabI (!byText w) t) (hSI : S ≠ I) (htp : tp ≠ I) :
    Walks prog w A I [I, S, tp] [I] es.size (fun i v => v = (r.getD i (0, .none)).2) (fun i h => SW w S I tp es ep t r i h ∧ h.get? S = some o) where
  sub := fun b hb => by simp at hb; simp [hb]
  frame := fun i h h' st hk => ⟨st.1.at (fun ob e => hk I (by simp) ob e) (fun ob e => hk tp (by simp) ob e), hk S (by simp) o st.2⟩
  item := fun i s Q E hi st hQ => next_item st.2 hd hf ht hi htp st.1 fun h' sb x' => hQ _ h' s.toks rfl ⟨x', (sb.2 _ hSI).trans st.2⟩ fun b ob hb e => (sb.2 b fun q => hb (by simp [q])).trans e
  done := fun s Q E st hQ => next_end hh st.2 hd hf ht st.1 fun h' x' => hQ h' s.toks fun b ob hb e => x' b ob (fun q => hb (by simp [q])) e
  self := fun i s Q E st hQ => by
    obtain ⟨first, e⟩ := st.1.itObj_at
    have hT : s.TypeIs (.ref I) "set_iterator" := ⟨_, e, rfl⟩
    refine wpAny_pyIter_slot hT slot_si_iter (wpAny_call_entry slot_si_iter hT entry_si_iter ?_ (args_si_iter _))
    show wpAny _ _ (ret (.ref I)) _ _ s
    exact wpAny_pure ⟨_, rfl, "set_iterator", _, hT, slot_si_next.lookup, hQ⟩

/-- the items of a set, in some order -/
theorem collect_set {Q : List Value → Shared → Prop} (hh : A.handled = none) (ho : s.heap.get? S = some o) (hex : o.ExactSet) (hd : o.data = .set es ep t) (hf : t.fits es.size = true) (hsz : es.size < scanBound) (ht : TabI (!byText w) t)
    (h : ∀ vs s', vs.Perm (es.toList.map (·.2)) → (∀ b ob, s.heap.get? b = some ob → s'.heap.get? b = some ob) → s'.gens = s.gens → s'.os = s.os → Q vs s') : wpAny (model prog w) A (collect (.ref S)) Q E s := by
  have hT0 : s.TypeIs (.ref S) "set" := ⟨o, ho, hex.1⟩
  have hlt : S < s.heap.objs.size := Heap.lt_size ho
  unfold collect
  refine wpAny_bind (wpAny_runValue (codeAny_builtin F.entry_proto_collect ?_))
  rw [Around.under_plainId F.plain_proto_collect _]
  show wpAny _ A.in1 (newList [] >>= fun l => again (.builtin "list.__iadd__" ⟨[l, .ref S], []⟩)) _ _ s
  refine wpAny_bind (wpAny_newObj_type ?_)
  refine wpAny_pure ⟨plainId_quiet F.plain_list_iadd _, codeAny_builtin F.entry_list_iadd ?_⟩
  rw [Around.under_plainId F.plain_list_iadd _]
  show wpAny _ A.in1 (Builtin.List.listExtendWith (.ref s.heap.objs.size) (.ref S) (.ref s.heap.objs.size)) _ _ _
  unfold Builtin.List.listExtendWith
  have ho1 : (s.heap.push { cls := .type "list", data := .seq ([] : List Value).toArray }).get? S = some o := Heap.get?_push_of_some _ ho
  have hT1 : Shared.TypeIs { s with heap := s.heap.push { cls := .type "list", data := .seq ([] : List Value).toArray } } (.ref S) "set" := ⟨o, ho1, hex.1⟩
  refine wpAny_bind (wpAny_typeOf hT1 ?_)
  have h1 : Builtin.List.listSameRef (.ref s.heap.objs.size) (.ref S) = false := by simp [Builtin.List.listSameRef, Nat.ne_of_gt hlt]
  have h2 : (Value.type "set" == Value.type "list") = false := by decide
  have h3 : (Value.type "set" == Value.type "tuple") = false := by decide
  simp only [h1, h2, h3, Bool.or_false, Bool.false_eq_true, if_false]
  refine wpAny_bind (iter_set ho1 hex hd hf hsz fun I tp r s2 hI htp x k2 hg2 ho2 => ?_)
  have hoS2 := k2 _ _ ho1
  have hT2 : s2.TypeIs (.ref S) "set" := ⟨o, hoS2, hex.1⟩
  have hL : (s.heap.push { cls := .type "list", data := .seq ([] : List Value).toArray }).get? s.heap.objs.size = some { cls := .type "list", data := .seq ([] : List Value).toArray } := Heap.get?_push_size _ rfl
  have hSI : S ≠ I := fun e => by rw [← e, ho1] at hI; cases hI
  have hLI : s.heap.objs.size ≠ I := fun e => by rw [← e, hL] at hI; cases hI
  have htI : tp ≠ I := by
    rcases htp with rfl | ⟨_, q⟩
    · exact hSI
    · exact q
  have hLt : s.heap.objs.size ≠ tp := by
    rcases htp with rfl | ⟨q, _⟩
    · exact Nat.ne_of_gt hlt
    · exact fun e => by rw [← e, hL] at q; cases q
  refine wpAny_bind (wpAny_holding ?_)
  unfold Builtin.List.listLengthHint
  refine wpAny_bind (wpAny_specialOf hT2 F.slot_set_len.lookup ?_)
  dsimp only
  rw [show splitId "set.__len__" = some ("set", "__len__") by kernel_rfl]
  dsimp only
  refine wpAny_bind (wpAny_isInstance hT2 sub_set_self ?_)
  simp only [Bool.not_true, Bool.false_eq_true, if_false]
  rw [if_pos]
  rotate_left
  · kernel_rfl
  refine wpAny_bind (wpAny_typeOf hT2 ?_)
  dsimp only
  refine wpAny_pure ?_
  rw [if_pos]
  rotate_left
  · kernel_rfl
  refine wpAny_bind (wpAny_rule ?_)
  have hS1 := k2 _ _ hL
  refine wpAny_bind ?_
  show wpAny _ A.in1 (updateSeq s.heap.objs.size (·.push .none) >>= fun _ => updateSeq s.heap.objs.size (·.pop)) _ _ _
  refine wpAny_bind (wpAny_updateSeq hS1 rfl ?_)
  have hS2 := Heap.get?_update_self (Obj.mapSeq (·.push Value.none)) hS1 rfl
  refine wpAny_updateSeq hS2 rfl ?_
  have hS3 := Heap.get?_update_self (Obj.mapSeq (·.pop)) hS2 rfl
  have oth : ∀ b ob, b ≠ s.heap.objs.size → s2.heap.get? b = some ob → ((s2.heap.update s.heap.objs.size (Obj.mapSeq (·.push Value.none))).update s.heap.objs.size (Obj.mapSeq (·.pop))).get? b = some ob :=
    fun b ob hb e => (Heap.get?_update_other _ _ (Ne.symm hb)).trans ((Heap.get?_update_other _ _ (Ne.symm hb)).trans e)
  have W := (walks_set (prog := prog) (A := A.in1) (r := r) (o := o) (by simpa using hh) hd hf ht hSI htI).toS
  refine wpAny_pure ⟨plainId_quiet F.plain_extend_loop _, codeAny_extend_loopS W (fits_of_scanBound hsz) s.heap.objs.size (by simp [hLI, Nat.ne_of_gt hlt, hLt]) _ es.size 0 _ _ _ rfl (Nat.zero_le _)
    ⟨x.at (fun ob e => oth _ _ (Ne.symm hLI) e) (fun ob e => oth _ _ (Ne.symm hLt) e), oth _ _ (Nat.ne_of_lt hlt) hoS2⟩ hS3 (ItemsOf.nil _) fun s' acc' c' hm hS' hacc => ?_⟩
  show wpAny _ A (load s.heap.objs.size >>= _) _ _ s'
  refine wpAny_bind (wpAny_load hS' ?_)
  have hrl : r.length = es.size := by rw [x.perm.length_eq, Array.length_toList]
  have hacc' : acc'.toList = r.map (·.2) := by
    refine List.ext_getElem? fun j => ?_
    rw [Array.getElem?_toList, List.getElem?_map]
    by_cases hj : j < es.size
    · have hj' : j < acc'.size := by rw [hacc.1]; exact hj
      rw [Array.getElem?_eq_getElem hj', hacc.2 j _ (Array.getElem?_eq_getElem hj'), List.getD_eq_getElem?_getD, List.getElem?_eq_getElem (by (first | lia | omega))]; rfl
    · rw [Array.getElem?_eq_none (by rw [hacc.1]; (first | lia | omega)), List.getElem?_eq_none (by (first | lia | omega))]; rfl
  have keep : ∀ b ob, s.heap.get? b = some ob → s'.heap.get? b = some ob := fun b ob e => by
    have hb := Heap.lt_size e
    have e1 : (s.heap.push { cls := .type "list", data := .seq ([] : List Value).toArray }).get? b = some ob := Heap.get?_push_of_some _ e
    refine hm.heap b ob (fun q => ?_) (oth _ _ (Nat.ne_of_lt hb) (k2 _ _ e1))
    simp only [List.mem_cons, List.not_mem_nil, or_false] at q
    rcases q with q | q
    · exact absurd q (Nat.ne_of_lt hb)
    · rw [q, hI] at e1; cases e1
  exact wpAny_pure (h _ s' (by rw [hacc']; exact x.perm.map _) keep (hm.gens.trans hg2) (hm.os.trans ho2))
end
end Mine

namespace Mine
open PySem PySem.Calls PyProof.Rows PySem.SeqAt

section
variable {prog : Program} {w : World} {A : Around} {E : Value → Shared → Prop} {s : Shared} {a : Addr} {l : List Int}

theorem ints_map : ∀ (vs : List Value), (∀ v ∈ vs, ∃ i t, v = Value.int i t) → IntsAre vs (vs.map intOf)
  | [], _ => .nil
  | v :: vs, h => by
    obtain ⟨i, t, rfl⟩ := h v List.mem_cons_self
    exact .cons i t (ints_map vs fun v hv => h v (List.mem_cons_of_mem _ hv))
/-- what sorted makes: one new list; all else stays -/
inductive SortR (s : Shared) (l : List Int) (v : Value) (s' : Shared) : Prop
  | mk (D : Addr) (out : Array Value) (ns : List Int) (k : Nat) (hv : v = .ref D) (hD : s.heap.get? D = none) (hl : s'.heap.get? D = some (seqObj "list" out k)) (hi : IntsAre out.toList ns) (hp : ns.Perm l) (hs : ns.Pairwise (· ≤ ·))
    (kp : ∀ b ob, s.heap.get? b = some ob → s'.heap.get? b = some ob) (hg : s'.gens = s.gens) (ho : s'.os = s.os) : SortR s l v s'
theorem sorted_set {Q : Value → Shared → Prop} (hh : A.handled = none) (S : SetI s.heap a (!byText w) l) (hl : l.length < 64) (h : ∀ v s', SortR s l v s' → Q v s') : wpAny (model prog w) A (call (.builtin "sorted") [.ref a]) Q E s := by
  obtain ⟨o, es, ep, t, ho, hex, hd, hel, hp, hb, hf, ht⟩ := S
  refine Calls.call_function_entry kind_sorted plain_sorted entry_sorted (args_sorted1 _) ?_
  unfold Builtin.«sorted»
  refine wpAny_bind (m := checkCount "sorted" 1 1 _) (wpAny_pure ?_)
  refine wpAny_bind (collect_set (by simpa using hh) ho hex hd hf hb ht fun vs s1 hvs k1 hg1 ho1 => ?_)
  have hlen : vs.length = l.length := by rw [hvs.length_eq, List.length_map, ← hp.length_eq, List.length_map]
  have hI : IntsAre vs (vs.map intOf) := ints_map vs fun v hv => by
    obtain ⟨e, he, rfl⟩ := List.mem_map.mp (hvs.mem_iff.mp hv)
    obtain ⟨i, tk, rfl⟩ := hel e he
    exact ⟨i, tk, rfl⟩
  have hpl : (vs.map intOf).Perm l := by
    refine (hvs.map intOf).trans ?_
    rw [List.map_map]
    exact hp
  refine wpAny_bind (wpAny_newList ?_ (by rw [hlen, sizeLine_eq]; (first | lia | omega)))
  have hoL : (s1.heap.push (seqObj "list" vs.toArray 0)).get? s1.heap.objs.size = some (seqObj "list" vs.toArray 0) := Heap.get?_push_size _ rfl
  show wpAny _ _ _ _ _ { s1 with heap := s1.heap.push (seqObj "list" vs.toArray 0) }
  refine wpAny_bind (wpAny_holding (wpAny_call_entry slot_list_sort ⟨_, hoL, rfl⟩ entry_list_sort (list_sort_tree hoL hI (by (first | lia | omega)) fun out ns' a1 a2 a3 => ⟨_, rfl, ?_⟩) (args_list_sort _)))
  obtain ⟨k, hk⟩ := sortedHeap_at (out := out) hoL
  have keep : ∀ b ob, s.heap.get? b = some ob → (sortedHeap (s1.heap.push (seqObj "list" vs.toArray 0)) s1.heap.objs.size vs out).get? b = some ob := fun b ob e => by
    have e1 := k1 b ob e
    have hlt := Heap.lt_size e1
    rw [sortedHeap_old (Nat.ne_of_lt hlt) (by rw [Heap.size_push]; exact Nat.lt_succ_of_lt hlt)]
    exact Heap.get?_push_of_some _ e1
  refine wpAny_pure ⟨_, rfl, h _ _ ⟨_, out, ns', k, rfl, ?_, hk, a1, a2.trans hpl, a3, keep, hg1, ho1⟩⟩
  cases e : s.heap.get? s1.heap.objs.size with
  | none => rfl
  | some ob => exact absurd (Heap.lt_size (k1 _ _ e)) (Nat.lt_irrefl _)
end
end Mine

namespace Mine
open PySem PySem.Calls PyProof.Rows PySem.SeqAt

theorem nodup_strict {l : List Int} (h1 : l.Pairwise (· ≤ ·)) (h2 : l.Nodup) : l.Pairwise (· < ·) := (h1.and h2).imp fun q => by (first | lia | omega)
theorem sset_same {is ns : List Int} {n : Nat} (hn : n = is.length) (hp : ns.Perm (ddL (fun i => is.getD i 0) n)) (hs : ns.Pairwise (· ≤ ·)) : ns = dedupSorted (sortI is) := by
  obtain ⟨d1, d2⟩ := dedup_spec (pw_sortI is)
  refine strict_same (nodup_strict hs (hp.nodup_iff.mpr (ddL_nodup _ _))) d1 fun x => ?_
  rw [hp.mem_iff, ddL_mem, d2, mem_sortI]
  subst hn
  constructor
  · rintro ⟨j, hj, rfl⟩
    rw [List.getD_eq_getElem?_getD, List.getElem?_eq_getElem hj]
    exact List.getElem_mem ..
  · intro h
    obtain ⟨j, hj⟩ := List.mem_iff_getElem?.mp h
    exact ⟨j, (List.getElem?_eq_some_iff.mp hj).1, by rw [List.getD_eq_getElem?_getD, hj]; rfl⟩

section
variable {C : Cx} {T : Tab} {n b : Nat} {Γ : List Str} {S : Scope} {strF : SrtF}
theorem EvOk.sset (hq : T.q = false) {f g : Str} {x : Expr} {np gp p2 pos : Pos} {d d1 : AEnv → AHeap → Res AV} (hf : f = ("sorted" : Str)) (hg : g = ("set" : Str)) (hgf : isGlob S f = true) (hgg : isGlob S g = true) (hn : notStar x = true) (h1 : EvOk C T n b Γ S x d1)
    (hd : ∀ ρ H, d ρ H = (d1 ρ H).get fun w H => prim strF C.sc .sortedSet [w] H) : EvOk C T n b Γ S (.Call (.Name f np) [.Call (.Name g gp) [x] [] p2] [] pos) d := by
  subst hf; subst hg
  refine ⟨?_⟩
  intro base env ρ μ H H' s A E Q v' G hS st a ed k
  rw [hd] at ed
  obtain ⟨w, H1, e1, ed⟩ := Res.get_ok ed
  cases w with
  | ref r =>
    have ed : (match H1[r]? with
      | some (.list xs) => if xs.length < 64 then (match intsOf xs with
          | some is => alloc ((dedupSorted (sortI is)).map .int) H1
          | none => .bad) else .bad
      | _ => .bad) = .ok v' H' := ed
    split at ed
    · rename_i xs ex
      split at ed
      · rename_i h64
        split at ed
        · rename_i is ei
          obtain ⟨hz, rfl, rfl⟩ := alloc_ok ed
          refine wpAny_Call_ofName (builtin_ok G hS st hgf rfl ?_)
          refine callWith_builtin (noStars rfl) (args_ok rfl (wpAny_items_cons ?_ (starEach_cons rfl)))
          refine wpAny_Call_ofName (builtin_ok G hS st hgg rfl ?_)
          refine PySem.callWith_type (noStars (by simp only [List.all_cons, hn]; rfl)) (args_ok hn (wpAny_items_cons (h1.ok G hS st a e1 fun u s' μ' X S' V => wpAny_items_nil ?_) (starEach_cons hn)))
          obtain ⟨c, rfl, ec⟩ := V.isRef
          obtain ⟨hzx, a', vs, ea', p1, q1⟩ := S'.hp.list ex
          rw [ec] at ea'; cases ea'
          have hi := ints_are ei q1
          have hvl : vs.length < 64 := by rw [← q1.length]; exact h64
          have hil : vs.length = is.length := hi.length
          refine set_listI (a.handled (G.q.trans hq)) (IsList.of_plain p1) hi (by rw [List.size_toArray]; exact Nat.lt_trans (Nat.succ_lt_succ hvl) (by decide)) fun h2 tk2 SI k2 => ?_
          refine wpAny_items_nil ?_
          rw [List.size_toArray] at SI
          refine sorted_set (s := { s' with heap := h2, toks := tk2 }) (a.handled (G.q.trans hq)) SI (Nat.lt_of_le_of_lt (ddL_length _ _) hvl) fun v2 s2 R => ?_
          obtain ⟨D, out, ns, kk, rfl, hD, hl, hi2, hp2, hs2, kp, hg2, ho2⟩ := R
          have hns := sset_same hil hp2 hs2
          subst hns
          have keep : ∀ {b : Addr} {ob : Obj}, s'.heap.get? b = some ob → s2.heap.get? b = some ob := fun e => kp _ _ (k2 _ _ e)
          have hD' : s'.heap.get? D = none := by
            cases e : s'.heap.get? D with
            | none => rfl
            | some ob => rw [show ({ s' with heap := h2, toks := tk2 } : Shared).heap = h2 from rfl, k2 _ _ e] at hD; cases hD
          have S2 := S'.grow (s' := s2) keep hg2 ho2
          have T2 := S2.track (a := D) (vs := out.toList) ⟨kk, by simpa using hl⟩ (IntsAre_of hi2) (not_mem S' hD') (base_none S' hD') hz
          exact k _ _ _ (X.trans ((Ext.grow keep).trackX hD')) T2 (.ref (by rw [← S'.hp.len]; simp))
        · cases ed
      · cases ed
    · cases ed
  | _ => exact bad_ok (v := v') (H' := H') ed
end
end Mine

namespace Mine
open PySem PySem.Calls PyProof.Rows PySem.SeqAt

theorem scopeOk_ok {scope S : Scope} {Γ xs : List Str} (h : scopeOk scope S Γ xs = true) : ScOk scope S Γ xs := by
  unfold scopeOk at h
  simp only [Bool.and_eq_true, beq_iff_eq, List.all_eq_true] at h
  obtain ⟨⟨h1, h2⟩, h3⟩ := h
  refine ⟨h1, fun x hx e => ?_, fun x hx e => ?_, fun x hx e => ?_, fun x hx e => ?_, h3⟩
  · have := (h2 x hx).1.1.1; rw [e] at this; simpa using this
  · have := (h2 x hx).1.1.2; rw [e] at this; simpa using this
  · have := (h2 x hx).1.2; rw [e] at this; simpa using this
  · have := (h2 x hx).2
    rcases e with e | e <;> rw [e] at this <;> simp at this <;> rcases this with q | q
    · exact .inl q
    · exact .inr q
    · exact .inl q
    · exact .inr q

theorem plainBase_ok {o : Expr} {m : Str} (h : plainBase o = true) : ∀ env, attributeBase o m env (eval o env) = eval o env := by
  cases o <;> first | (intro env; rfl) | cases h
theorem get_get {α β γ : Type} {r : Res α} {f : α → AHeap → Res β} {g : β → AHeap → Res γ} : (r.get f).get g = r.get fun v H => (f v H).get g := by
  cases r <;> rfl
inductive PrimC (T : Tab) (Γ : List Str) (S : Scope) (es : PEs) : Prim → Expr → Prop
  | lr {f : Str} {np : Pos} {g : Str} {gp : Pos} {args : List Expr} {p2 pos : Pos} : f = ("list" : Str) → isGlob S f = true → g = ("range" : Str) → isGlob S g = true → chkEs T Γ S es args = true → PrimC T Γ S es .listRange (.Call (.Name f np) [.Call (.Name g gp) args [] p2] [] pos)
  | fn {p : Prim} {f : Str} {np : Pos} {args : List Expr} {pos : Pos} : okPrim p = true → isGlob S f = true → primName p = some f → chkEs T Γ S es args = true → PrimC T Γ S es p (.Call (.Name f np) args [] pos)
  | ty {p : Prim} {f : Str} {np : Pos} {a : Expr} {g : Str} {gp pos : Pos} : okPrim p = true → isGlob S f = true → f = ("isinstance" : Str) → tyName T p = some g → isGlob S g = true → chkEs T Γ S es [a] = true → PrimC T Γ S es p (.Call (.Name f np) [a, .Name g gp] [] pos)
theorem prim_cases {T : Tab} {Γ : List Str} {S : Scope} {p : Prim} {es : PEs} {e : Expr} (h : chkE T Γ S (.prim p es) e = true) : PrimC T Γ S es p e := by
  obtain ⟨_, h⟩ := and_tt h
  obtain ⟨f, np, args, pos, rfl, hk⟩ := dCallN_eq h
  clear h
  have h := hk
  have h : cond (isLR p)
      (opt (one1 args) fun a => dCallN a fun g as => f == ("list" : Str) && (isGlob S f && (g == ("range" : Str) && (isGlob S g && chkEs T Γ S es as))))
      (okPrim p && (isGlob S f && (match tyName T p with
        | some t => f == ("isinstance" : Str) && opt (two2 args) fun a => opt (dName a.2) fun g => t == g.1 && (isGlob S g.1 && chkEs T Γ S es [a.1])
        | none => primName p == some f && chkEs T Γ S es args))) = true := h
  cases hp : isLR p with
  | true =>
    rw [hp] at h
    obtain ⟨a, ha, h⟩ := opt_eq h
    obtain ⟨g, gp, as, p2, rfl, hk⟩ := dCallN_eq h
    clear h
    have h := hk
    obtain ⟨h1, h⟩ := and_tt h
    obtain ⟨h2, h⟩ := and_tt h
    obtain ⟨h3, h⟩ := and_tt h
    obtain ⟨h4, h5⟩ := and_tt h
    have q : args = _ := one1_eq ha
    subst q
    cases isLR_eq hp
    exact .lr (eq_tt h1) h2 (eq_tt h3) h4 h5
  | false =>
    rw [hp] at h
    obtain ⟨h1, h⟩ := and_tt h
    obtain ⟨h2, h⟩ := and_tt h
    cases q : tyName T p with
    | none =>
      rw [q] at h
      obtain ⟨h3, h4⟩ := and_tt h
      exact .fn h1 h2 (eq_tt h3) h4
    | some t =>
      rw [q] at h
      obtain ⟨h3, h⟩ := and_tt h
      obtain ⟨a, ha, h⟩ := opt_eq h
      obtain ⟨g, hg, h⟩ := opt_eq h
      obtain ⟨h4, h⟩ := and_tt h
      obtain ⟨h5, h6⟩ := and_tt h
      have q2 : args = _ := two2_eq ha
      subst q2
      rw [dName_eq hg]
      exact .ty h1 h2 (eq_tt h3) (by rw [q, eq_tt h4]) h5 h6

section
variable {C : Cx} {T : Tab} {n : Nat} {cf : Nat → List AV → AHeap → Res AV} {strF : SrtF}

theorem TrOk.bad {C : Cx} {b : Nat} {Γ : List Str} {S : Scope} {e : Expr} {d : AEnv → AHeap → Res Bool} (hd : ∀ ρ H, d ρ H = .bad) : TrOk C T n b Γ S e d := by
  refine ⟨?_⟩
  intro base env ρ μ H H' s A E Q v G hS st a ed k
  rw [hd] at ed; cases ed

theorem not_tt {a : Bool} (h : (!a) = true) : a = false := by
  cases a
  · rfl
  · cases h
inductive ConsE (T : Tab) (Γ : List Str) (S : Scope) (a : PE) (as : PEs) (vs : List Expr) : Prop
  | mk (e : Expr) (r : List Expr) (he : vs = e :: r) (h1 : notStar e = true) (h2 : chkE T Γ S a e = true) (h3 : chkEs T Γ S as r = true) : ConsE T Γ S a as vs
theorem chkEs_cons {Γ : List Str} {S : Scope} {a : PE} {as : PEs} {vs : List Expr} (h : chkEs T Γ S (.cons a as) vs = true) : ConsE T Γ S a as vs := by
  cases vs with
  | nil => cases h
  | cons e r =>
    obtain ⟨h1, h⟩ := and_tt h
    obtain ⟨h2, h3⟩ := and_tt h
    exact ⟨e, r, rfl, h1, h2, h3⟩
theorem chkEs_nil {Γ : List Str} {S : Scope} {vs : List Expr} (h : chkEs T Γ S .nil vs = true) : vs = [] := nilO_eq h
theorem chkEs_stars {Γ : List Str} {S : Scope} : ∀ (es : PEs) (vs : List Expr), chkEs T Γ S es vs = true → vs.all notStar = true
  | .nil, vs, h => by rw [chkEs_nil h]; rfl
  | .cons a as, vs, h => by
    obtain ⟨e, r, rfl, h1, h2, h3⟩ := chkEs_cons h
    rw [List.all_cons, h1, chkEs_stars as r h3]; rfl
theorem chkEs_some {Γ : List Str} {S : Scope} {es : PEs} {vs : List Expr} (h : chkEs T Γ S es vs = true) (hs : someArgs es = true) : ∃ e r, vs = e :: r := by
  cases es with
  | nil => cases hs
  | cons a as => obtain ⟨e, r, rfl, _⟩ := chkEs_cons h; exact ⟨e, r, rfl⟩
theorem chk_cmp {Γ : List Str} {S : Scope} {op : CmpOp} {a b : PE} {e : Expr} (h : chkE T Γ S (.cmp op a b) e = true) : ∃ l r p, e = .Compare l [op] [r] p ∧ notSet r = true ∧ chkE T Γ S a l = true ∧ chkE T Γ S b r = true := by
  obtain ⟨x, hx, h⟩ := opt_eq h
  obtain ⟨o, ho, h⟩ := opt_eq h
  obtain ⟨r, hr, h⟩ := opt_eq h
  obtain ⟨h1, h⟩ := and_tt h
  obtain ⟨h2, h⟩ := and_tt h
  obtain ⟨h3, h4⟩ := and_tt h
  exact ⟨_, _, _, by rw [dCmp_eq hx, one1_eq ho, one1_eq hr, eq_tt h1], h2, h3, h4⟩
theorem chk_cmp2 {Γ : List Str} {S : Scope} {o1 o2 : CmpOp} {a b c : PE} {e : Expr} (h : chkE T Γ S (.cmp2 o1 o2 a b c) e = true) : ∃ l r1 r2 p, e = .Compare l [o1, o2] [r1, r2] p ∧ notSet r2 = true ∧ chkE T Γ S a l = true ∧ chkE T Γ S b r1 = true ∧ chkE T Γ S c r2 = true := by
  obtain ⟨x, hx, h⟩ := opt_eq h
  obtain ⟨o, ho, h⟩ := opt_eq h
  obtain ⟨r, hr, h⟩ := opt_eq h
  obtain ⟨h1, h⟩ := and_tt h
  obtain ⟨h2, h⟩ := and_tt h
  obtain ⟨h3, h⟩ := and_tt h
  obtain ⟨h4, h⟩ := and_tt h
  obtain ⟨h5, h6⟩ := and_tt h
  exact ⟨_, _, _, _, by rw [dCmp_eq hx, two2_eq ho, two2_eq hr, eq_tt h1, eq_tt h2], h3, h4, h5, h6⟩
theorem chk_bool {Γ : List Str} {S : Scope} {o : BoolOp} {es : PEs} {e : Expr} (h : (opt (dBool e) fun x => o == x.1 && chkEs T Γ S es x.2.1) = true) : ∃ vs p, e = .BoolOp o vs p ∧ chkEs T Γ S es vs = true := by
  obtain ⟨x, hx, h⟩ := opt_eq h
  obtain ⟨h1, h2⟩ := and_tt h
  exact ⟨_, _, by rw [dBool_eq hx, eq_tt h1], h2⟩
theorem chk_un {Γ : List Str} {S : Scope} {o : UnaryOp} {a : PE} {e : Expr} (h : (opt (dUn e) fun x => o == x.1 && chkE T Γ S a x.2.1) = true) : ∃ v p, e = .UnaryOp o v p ∧ chkE T Γ S a v = true := by
  obtain ⟨x, hx, h⟩ := opt_eq h
  obtain ⟨h1, h2⟩ := and_tt h
  exact ⟨_, _, by rw [dUn_eq hx, eq_tt h1], h2⟩
inductive UCallE (T : Tab) (Γ : List Str) (S : Scope) (k : Nat) (es : PEs) (e : Expr) : Prop
  | mk (f : Str) (np : Pos) (e' : Expr) (r : List Expr) (pos : Pos) (he : e = .Call (.Name f np) (e' :: r) [] pos) (h1 : T.fns.lookup k = some f) (h2 : isGlob S f = true) (h3 : chkEs T Γ S es (e' :: r) = true) : UCallE T Γ S k es e
theorem chk_call {Γ : List Str} {S : Scope} {k : Nat} {es : PEs} {e : Expr} (h : chkE T Γ S (.call k es) e = true) : UCallE T Γ S k es e := by
  obtain ⟨_, h⟩ := and_tt h
  obtain ⟨f, np, args, pos, rfl, hk⟩ := dCallN_eq h
  clear h
  have h := hk
  obtain ⟨h1, h⟩ := and_tt h
  obtain ⟨h2, h⟩ := and_tt h
  obtain ⟨h3, h4⟩ := and_tt h
  obtain ⟨e', r, rfl⟩ := chkEs_some h4 h3
  exact ⟨_, _, _, _, _, rfl, eq_tt h1, h2, h4⟩
inductive Comp1C (T : Tab) (Γ : List Str) (S : Scope) (el : PE) (it : It) (c : PEo) : Expr → Prop
  | mk {el' : Expr} {x : Str} {px : Pos} {iter : Expr} {ifs : List Expr} {scope : Scope} {p : Pos} : scopeOk scope S Γ [x] = true → notZip it = true → notSet iter = true → chkI T Γ S it iter = true → chkC T (x :: Γ) (relab scope S) c ifs = true → chkE T (x :: Γ) (relab scope S) el el' = true → Comp1C T Γ S el it c (.ListComp el' [⟨.Name x px, iter, ifs, 0⟩] scope p)
inductive Comp2C (T : Tab) (Γ : List Str) (S : Scope) (el : PE) (it : It) : Expr → Prop
  | mk {el' : Expr} {x : Str} {px : Pos} {y : Str} {py : Pos} {k : Nat} {tp : Pos} {iter : Expr} {scope : Scope} {p : Pos} : scopeOk scope S Γ [x, y] = true → (x == y) = false → notSet iter = true → chkI T Γ S it iter = true → chkE T (x :: y :: Γ) (relab scope S) el el' = true → Comp2C T Γ S el it (.ListComp el' [⟨.Tuple [.Name x px, .Name y py] k tp, iter, [], 0⟩] scope p)
theorem chk_comp1 {Γ : List Str} {S : Scope} {el : PE} {it : It} {c : PEo} {e : Expr} (h : chkE T Γ S (.comp1 el it c) e = true) : Comp1C T Γ S el it c e := by
  obtain ⟨_, h⟩ := and_tt h
  obtain ⟨x, hx, h⟩ := opt_eq h
  obtain ⟨g, hg, h⟩ := opt_eq h
  obtain ⟨v, hv, h⟩ := opt_eq h
  obtain ⟨h1, h⟩ := and_tt h
  obtain ⟨h2, h⟩ := and_tt h
  obtain ⟨h3, h⟩ := and_tt h
  obtain ⟨h4, h⟩ := and_tt h
  obtain ⟨h5, h⟩ := and_tt h
  obtain ⟨h6, h7⟩ := and_tt h
  have e1 : e = .ListComp x.1 [⟨.Name v.1 v.2, g.iter, g.ifs, 0⟩] x.2.2.1 x.2.2.2 := by
    rw [← dName_eq hv, ← eq_tt h1]
    exact (dComp_eq hx).trans (by rw [one1_eq hg]; cases g; rfl)
  rw [e1]
  exact .mk h2 h3 h4 h5 h6 h7
theorem chk_comp2 {Γ : List Str} {S : Scope} {el : PE} {it : It} {e : Expr} (h : chkE T Γ S (.comp2 el it) e = true) : Comp2C T Γ S el it e := by
  obtain ⟨_, h⟩ := and_tt h
  obtain ⟨x, hx, h⟩ := opt_eq h
  obtain ⟨g, hg, h⟩ := opt_eq h
  obtain ⟨ts, hts, h⟩ := opt_eq h
  obtain ⟨t, ht, h⟩ := opt_eq h
  obtain ⟨v, hv, h⟩ := opt_eq h
  obtain ⟨w, hw, h⟩ := opt_eq h
  obtain ⟨h1, h⟩ := and_tt h
  obtain ⟨h0, h⟩ := and_tt h
  obtain ⟨h2, h⟩ := and_tt h
  obtain ⟨h3, h⟩ := and_tt h
  obtain ⟨h4, h⟩ := and_tt h
  obtain ⟨h5, h6⟩ := and_tt h
  have e1 : e = .ListComp x.1 [⟨.Tuple [.Name v.1 v.2, .Name w.1 w.2] ts.2.1 ts.2.2, g.iter, [], 0⟩] x.2.2.1 x.2.2.2 := by
    rw [← dName_eq hv, ← dName_eq hw, ← two2_eq ht, ← dTup_eq hts, ← eq_tt h1, ← nilO_eq h0]
    exact (dComp_eq hx).trans (by rw [one1_eq hg]; cases g; rfl)
  rw [e1]
  exact .mk h2 (not_tt h3) h4 h5 h6

theorem prim_true {Γ : List Str} {S : Scope} {p : Prim} {es : PEs} {e : Expr} (h : chkE T Γ S (.prim p es) e = true) (env : Env) (whole : _) : isTrue e env whole = (do let v ← whole; standAt e.pos; holding [v] (truthy v)) := by
  obtain ⟨_, h⟩ := and_tt h
  obtain ⟨f, np, args, pos, rfl, _⟩ := dCallN_eq h
  rfl
theorem quiet_prim {p : Prim} {f : Str} (hq : (!T.q || (tyName T p).isSome) = true) (h : primName p = some f) : T.q = false := by
  cases e : T.q with
  | false => rfl
  | true => rw [e] at hq; cases p <;> first | cases h; done | cases hq
theorem prim0 {b : Nat} {Γ : List Str} {S : Scope} {p : Prim} {e : Expr} {z : Addr → Prop} (h : chkE T Γ S (.prim p .nil) e = true) : EvOk (C.withZ z) T n b Γ S e (denE strF cf C.sc b (.prim p .nil)) := by
  refine ⟨?_⟩
  intro base env ρ μ H H' s A E Q v' G hS st a ed k
  cases p <;> exact bad_ok (v := v') (H' := H') ed
theorem prim2 (hsf : SrtOk strF) {b : Nat} {Γ : List Str} {S : Scope} {p : Prim} {e : Expr} {z : Addr → Prop} {x y : PE} {r : PEs} (h : chkE T Γ S (.prim p (.cons x (.cons y r))) e = true) (es : ∀ vs, chkEs T Γ S (.cons x (.cons y r)) vs = true → EsOk (C.withZ z) T n b Γ S vs (denEs strF cf C.sc b (.cons x (.cons y r)))) :
    EvOk (C.withZ z) T n b Γ S e (denE strF cf C.sc b (.prim p (.cons x (.cons y r)))) := by
  rcases prim_cases h with ⟨h1, h2, h3, h4, h5⟩ | ⟨h1, h2, h3, h4⟩ | ⟨h1, h2, h3, h4, h5, h6⟩
  · refine ⟨?_⟩
    intro base env ρ μ H H' s A E Q v' G hS st a ed k
    obtain ⟨vs, H1, e1, ed⟩ := Res.get_ok ed
    obtain ⟨v1, H2, e2, e1⟩ := Res.thn_ok e1
    obtain ⟨vs2, H3, e3, e1⟩ := Res.thn_ok e1
    obtain ⟨v3, H4, e4, e3⟩ := Res.thn_ok e3
    obtain ⟨vs4, H5, e5, e3⟩ := Res.thn_ok e3
    cases e3; cases e1
    cases vs4 <;> exact bad_ok (v := v') (H' := H') ed
  · obtain ⟨e', r', rfl⟩ := chkEs_some h4 rfl
    exact .primCall (strF := strF) hsf (quiet_prim (and_tt h).1 h3) h3 h1 h2 (chkEs_stars _ _ h4) (es _ h4) fun ρ H => rfl
  · obtain ⟨_, _, q, g1, g2, g3⟩ := chkEs_cons h6
    cases q
    obtain ⟨_, _, q, _⟩ := chkEs_cons g3
    cases q
theorem prim1 (hsf : SrtOk strF) {b : Nat} {Γ : List Str} {S : Scope} {p : Prim} {e : Expr} {z : Addr → Prop} {x : PE} (h : chkE T Γ S (.prim p (.cons x .nil)) e = true) (ev : ∀ e, chkE T Γ S x e = true → EvOk (C.withZ z) T n b Γ S e (denE strF cf C.sc b x)) (es : ∀ vs, chkEs T Γ S (.cons x .nil) vs = true → EsOk (C.withZ z) T n b Γ S vs (denEs strF cf C.sc b (.cons x .nil))) :
    EvOk (C.withZ z) T n b Γ S e (denE strF cf C.sc b (.prim p (.cons x .nil))) := by
  rcases prim_cases h with ⟨h1, h2, h3, h4, h5⟩ | ⟨h1, h2, h3, h4⟩ | ⟨h1, h2, h3, h4, h5, h6⟩
  · obtain ⟨a, r, rfl, g1, g2, g3⟩ := chkEs_cons h5
    cases chkEs_nil g3
    exact .listRange (strF := strF) (by have hq := (and_tt h).1; cases e : T.q with | false => rfl | true => rw [e] at hq; cases hq) h1 h3 h2 h4 g1 (ev _ g2) fun ρ H => one_get
  · obtain ⟨e', r', rfl⟩ := chkEs_some h4 rfl
    exact .primCall (strF := strF) hsf (quiet_prim (and_tt h).1 h3) h3 h1 h2 (chkEs_stars _ _ h4) (es _ h4) fun ρ H => rfl
  · obtain ⟨_, _, q, g1, g2, g3⟩ := chkEs_cons h6
    cases q
    exact .isCall (strF := strF) h4 h1 h3 h2 h5 g1 (ev _ g2) fun ρ H => one_get

variable (hok : T.q = false → ∀ k, T.okc k = true) (hcf : ∀ z, CallOk (C.withZ z) T n cf) (hfn : (∀ k, ∃ x, T.fns.lookup k = some x ∨ ∀ vs H, cf k vs H = .bad) ∧ SrtOk strF)
include hok hcf hfn

mutual
theorem evD (b : Nat) : ∀ (pe : PE) (Γ : List Str) (S : Scope) (e : Expr), chkE T Γ S pe e = true → ∀ z, EvOk (C.withZ z) T n b Γ S e (denE strF cf C.sc b pe)
  | .none, Γ, S, e, h, z => by
    obtain ⟨c, hc, h⟩ := opt_eq h
    obtain ⟨d, hd, _⟩ := opt_eq h
    rw [dConst_eq hc, cNone_eq hd]
    exact .cNone fun ρ H => rfl
  | .bool v, Γ, S, e, h, z => by
    obtain ⟨c, hc, h⟩ := opt_eq h
    obtain ⟨d, hd, h⟩ := opt_eq h
    rw [dConst_eq hc, cBool_eq hd, ← eq_tt h]
    exact .cBool fun ρ H => rfl
  | .int i, Γ, S, e, h, z => by
    obtain ⟨c, hc, h⟩ := opt_eq h
    obtain ⟨d, hd, h⟩ := opt_eq h
    rw [dConst_eq hc, cInt_eq hd, ← eq_tt h]
    exact .cInt fun ρ H => rfl
  | .str x, Γ, S, e, h, z => by
    obtain ⟨c, hc, h⟩ := opt_eq h
    obtain ⟨d, hd, h⟩ := opt_eq h
    rw [dConst_eq hc, cStr_eq hd, ← eq_tt h]
    exact .cStr fun ρ H => rfl
  | .var i, Γ, S, e, h, z => by
    obtain ⟨x, hx, h⟩ := opt_eq h
    obtain ⟨h1, h2⟩ := and_tt h
    rw [dName_eq hx]
    exact .var (eq_tt h1) h2 fun ρ H => rfl
  | .gint k i, Γ, S, e, h, z => by
    obtain ⟨x, hx, h⟩ := opt_eq h
    obtain ⟨h1, h2⟩ := and_tt h
    rw [dName_eq hx]
    exact .gint (eq_tt h1) h2 fun ρ H => rfl
  | .bin op x y, Γ, S, e, h, z => by
    obtain ⟨w, hw, h⟩ := opt_eq h
    obtain ⟨h1, h⟩ := and_tt h
    obtain ⟨h2, h3⟩ := and_tt h
    rw [dBin_eq hw, ← eq_tt h1]
    exact .bin (evD b x Γ S _ h2 z) (evD b y Γ S _ h3 z) fun ρ H => rfl
  | .neg x, Γ, S, e, h, z => by
    obtain ⟨v, p, rfl, h⟩ := chk_un h
    exact .neg (evD b x Γ S _ h z) fun ρ H => rfl
  | .not x, Γ, S, e, h, z => by
    obtain ⟨v, p, rfl, h⟩ := chk_un h
    exact .not (evD b x Γ S _ h z) fun ρ H => rfl
  | .cmp op x y, Γ, S, e, h, z => by
    obtain ⟨l, r, p, rfl, h1, h2, h3⟩ := chk_cmp h
    exact .cmp h1 (evD b x Γ S _ h2 z) (evD b y Γ S _ h3 z) fun ρ H => rfl
  | .cmp2 o1 o2 x y w, Γ, S, e, h, z => by
    obtain ⟨l, r1, r2, p, rfl, h3, h4, h5, h6⟩ := chk_cmp2 h
    exact .cmp2 h3 (evD b x Γ S _ h4 z) (evD b y Γ S _ h5 z) (evD b w Γ S _ h6 z) fun ρ H => rfl
  | .and es, Γ, S, e, h, z => by
    obtain ⟨vs, p, rfl, h⟩ := chk_bool h
    exact .boolOp (andD b es Γ S _ h z)
  | .or es, Γ, S, e, h, z => by
    obtain ⟨vs, p, rfl, h⟩ := chk_bool h
    exact .boolOp (orD b es Γ S _ h z)
  | .ite c x y, Γ, S, e, h, z => by
    obtain ⟨w, hw, h⟩ := opt_eq h
    obtain ⟨h1, h⟩ := and_tt h
    obtain ⟨h2, h3⟩ := and_tt h
    rw [dIfe_eq hw]
    exact .ite (trD b c Γ S _ h1 z) (evD b x Γ S _ h2 z) (evD b y Γ S _ h3 z) fun ρ H => rfl
  | .call k es, Γ, S, e, h, z => by
    have ho := (and_tt h).1
    obtain ⟨f, np, e', r, pos, rfl, h1, h2, h4⟩ := chk_call h
    exact .userCall (hcf z) ho h1 h2 (chkEs_stars es _ h4) (esD b es Γ S _ h4 z) fun ρ H => rfl
  | .prim p .nil, Γ, S, e, h, z => prim0 h
  | .prim p (.cons x .nil), Γ, S, e, h, z => prim1 hfn.2 h (fun e h => evD b x Γ S e h z) (fun vs h => esD b (.cons x .nil) Γ S vs h z)
  | .prim p (.cons x (.cons y r)), Γ, S, e, h, z => prim2 hfn.2 h (fun vs h => esD b (.cons x (.cons y r)) Γ S vs h z)
  | .idx x i, Γ, S, e, h, z => by
    obtain ⟨w, hw, h⟩ := opt_eq h
    obtain ⟨h1, h⟩ := and_tt h
    obtain ⟨h2, h3⟩ := and_tt h
    rw [dSub_eq hw]
    exact .idx h1 (evD b x Γ S _ h2 z) (evD b i Γ S _ h3 z) fun ρ H => rfl
  | .slice x lo hi, Γ, S, e, h, z => by
    obtain ⟨w, hw, h⟩ := opt_eq h
    obtain ⟨y, hy, h⟩ := opt_eq h
    obtain ⟨h1, h⟩ := and_tt h
    obtain ⟨h2, h⟩ := and_tt h
    obtain ⟨h3, h4⟩ := and_tt h
    rw [dSub_eq hw, dSl_eq hy, Option.isNone_iff_eq_none.mp h1]
    exact .slice (evD b x Γ S _ h2 z) (optD b lo Γ S _ h3 z) (optD b hi Γ S _ h4 z) fun ρ H => rfl
  | .list es, Γ, S, e, h, z => by
    obtain ⟨w, hw, h⟩ := opt_eq h
    rw [dList_eq hw]
    exact .mkList (esD b es Γ S _ h z) fun ρ H => rfl
  | .tuple es, Γ, S, e, h, z => by
    obtain ⟨w, hw, h⟩ := opt_eq h
    rw [dTup_eq hw]
    exact .mkTuple (esD b es Γ S _ h z) fun ρ H => rfl
  | .dict, Γ, S, e, h, z => by cases h
  | .comp1 el it c, Γ, S, e, h, z => by
    have hq := not_tt (and_tt h).1
    obtain ⟨h1, h2, h3, h4, h5, h6⟩ := chk_comp1 h
    exact .comp1 (scopeOk_ok h1) h3 (by have := itD b hq it Γ S _ h4 z; rwa [h2] at this) (fun z' => coD b c _ _ _ h5 z') (fun z' => evD b el _ _ _ h6 z') fun ρ H => rfl
  | .comp2 el it, Γ, S, e, h, z => by
    have hq := not_tt (and_tt h).1
    obtain ⟨h1, h2, h3, h4, h6⟩ := chk_comp2 h
    exact .comp2 hq (scopeOk_ok h1) h2 h3 (itD b hq it Γ S _ h4 z) (fun z' => evD b el _ _ _ h6 z') fun ρ H => rfl
  | .append x y, Γ, S, e, h, z => by
    obtain ⟨f, as, p, rfl, hk⟩ := dCall_eq h
    clear h
    have h := hk
    obtain ⟨t, ht, h⟩ := opt_eq h
    obtain ⟨v, hv, h⟩ := opt_eq h
    obtain ⟨h1, h⟩ := and_tt h
    obtain ⟨h2, h⟩ := and_tt h
    obtain ⟨h3, h⟩ := and_tt h
    obtain ⟨h4, h⟩ := and_tt h
    obtain ⟨h5, h6⟩ := and_tt h
    have q1 : f = _ := dAttr_eq ht
    have q2 : as = _ := one1_eq hv
    subst q1; subst q2
    rw [eq_tt h1]
    exact .append (plainBase_ok h3) h4 h2 (evD b x Γ S _ h5 z) (evD b y Γ S _ h6 z) fun ρ H => rfl
  | .count x y, Γ, S, e, h, z => by
    obtain ⟨f, as, p, rfl, hk⟩ := dCall_eq h
    clear h
    have h := hk
    obtain ⟨t, ht, h⟩ := opt_eq h
    obtain ⟨v, hv, h⟩ := opt_eq h
    obtain ⟨h1, h⟩ := and_tt h
    obtain ⟨h2, h⟩ := and_tt h
    obtain ⟨h3, h⟩ := and_tt h
    obtain ⟨h4, h⟩ := and_tt h
    obtain ⟨h5, h6⟩ := and_tt h
    have q1 : f = _ := dAttr_eq ht
    have q2 : as = _ := one1_eq hv
    subst q1; subst q2
    rw [eq_tt h1]
    exact .count (plainBase_ok h3) h4 h2 (evD b x Γ S _ h5 z) (evD b y Γ S _ h6 z) fun ρ H => rfl
  | .sset x, Γ, S, e, h, z => by
    obtain ⟨hq, h⟩ := and_tt h
    have hq := not_tt hq
    obtain ⟨f, np, args, pos, rfl, h⟩ := dCallN_eq h
    obtain ⟨y, hy, h⟩ := opt_eq h
    obtain ⟨g, gp, as, p2, rfl, h⟩ := dCallN_eq h
    obtain ⟨x', hx, h⟩ := opt_eq h
    obtain ⟨h1, h⟩ := and_tt h
    obtain ⟨h2, h⟩ := and_tt h
    obtain ⟨h3, h⟩ := and_tt h
    obtain ⟨h4, h⟩ := and_tt h
    obtain ⟨h5, h6⟩ := and_tt h
    have q : args = _ := one1_eq hy
    subst q
    have q2 : as = _ := one1_eq hx
    subst q2
    exact .sset hq (strF := strF) (eq_tt h1) (eq_tt h3) h2 h4 h5 (evD b x Γ S _ h6 z) fun ρ H => rfl
  | .index x y, Γ, S, e, h, z => by
    obtain ⟨f, as, p, rfl, hk⟩ := dCall_eq h
    clear h
    have h := hk
    obtain ⟨t, ht, h⟩ := opt_eq h
    obtain ⟨v, hv, h⟩ := opt_eq h
    obtain ⟨h1, h⟩ := and_tt h
    obtain ⟨h2, h⟩ := and_tt h
    obtain ⟨h3, h⟩ := and_tt h
    obtain ⟨h4, h⟩ := and_tt h
    obtain ⟨h5, h6⟩ := and_tt h
    have q1 : f = _ := dAttr_eq ht
    have q2 : as = _ := one1_eq hv
    subst q1; subst q2
    rw [eq_tt h1]
    exact .index (plainBase_ok h3) h4 h2 (evD b x Γ S _ h5 z) (evD b y Γ S _ h6 z) fun ρ H => rfl
theorem trD (b : Nat) : ∀ (pe : PE) (Γ : List Str) (S : Scope) (e : Expr), chkE T Γ S pe e = true → ∀ z, TrOk (C.withZ z) T n b Γ S e (denT strF cf C.sc b pe)
  | .not x, Γ, S, e, h, z => by
    obtain ⟨v, p, rfl, h⟩ := chk_un h
    exact .not (trD b x Γ S _ h z) fun ρ H => rfl
  | .cmp op x y, Γ, S, e, h, z => by
    obtain ⟨l, r, p, rfl, h1, h2, h3⟩ := chk_cmp h
    exact .cmp h1 (evD b x Γ S _ h2 z) (evD b y Γ S _ h3 z) fun ρ H => rfl
  | .cmp2 _ _ _ _ _, Γ, S, e, h, z => .bad fun ρ H => rfl
  | .and es, Γ, S, e, h, z => by
    obtain ⟨vs, p, rfl, h⟩ := chk_bool h
    exact .boolOp (andT b es Γ S _ h z)
  | .or es, Γ, S, e, h, z => by
    obtain ⟨vs, p, rfl, h⟩ := chk_bool h
    exact .boolOp (orT b es Γ S _ h z)
  | .var i, Γ, S, e, h, z => by
    obtain ⟨x, hx, h⟩ := opt_eq h
    obtain ⟨h1, h2⟩ := and_tt h
    rw [dName_eq hx]
    refine .ofEv (fun _ _ => rfl) (EvOk.var (d := denE strF cf C.sc b (.var i)) (eq_tt h1) h2 fun ρ H => rfl) fun ρ H => ?_
    show (match ρ[i]? with | some (some (.bool v)) => Res.ok v H | _ => .bad) = (match ρ[i]? with | some (some v) => Res.ok v H | _ => Res.bad).get _
    cases e1 : ρ[i]? with
    | none => rfl
    | some o => cases o with
      | none => rfl
      | some v => cases v <;> rfl
  | .call k es, Γ, S, e, h, z => by
    have ho := (and_tt h).1
    obtain ⟨f, np, e', r, pos, rfl, h1, h2, h4⟩ := chk_call h
    exact .ofEv (fun _ _ => rfl) (EvOk.userCall (d := denE strF cf C.sc b (.call k es)) (hcf z) ho h1 h2 (chkEs_stars es _ h4) (esD b es Γ S _ h4 z) fun ρ H => rfl) fun ρ H => get_get.symm
  | .prim p .nil, Γ, S, e, h, z => .ofEv (prim_true h) (prim0 h) fun ρ H => get_get.symm
  | .prim p (.cons x .nil), Γ, S, e, h, z => .ofEv (prim_true h) (prim1 hfn.2 h (fun e h => evD b x Γ S e h z) (fun vs h => esD b (.cons x .nil) Γ S vs h z)) fun ρ H => get_get.symm
  | .prim p (.cons x (.cons y r)), Γ, S, e, h, z => .ofEv (prim_true h) (prim2 hfn.2 h (fun vs h => esD b (.cons x (.cons y r)) Γ S vs h z)) fun ρ H => get_get.symm
  | .none, Γ, S, e, h, z => .bad fun ρ H => rfl
  | .bool v, Γ, S, e, h, z => .bad fun ρ H => rfl
  | .int v, Γ, S, e, h, z => .bad fun ρ H => rfl
  | .str v, Γ, S, e, h, z => .bad fun ρ H => rfl
  | .gint k v, Γ, S, e, h, z => .bad fun ρ H => rfl
  | .bin _ _ _, Γ, S, e, h, z => .bad fun ρ H => rfl
  | .neg _, Γ, S, e, h, z => .bad fun ρ H => rfl
  | .ite _ _ _, Γ, S, e, h, z => .bad fun ρ H => rfl
  | .idx _ _, Γ, S, e, h, z => .bad fun ρ H => rfl
  | .sset _, Γ, S, e, h, z => .bad fun ρ H => rfl
  | .slice _ _ _, Γ, S, e, h, z => .bad fun ρ H => rfl
  | .list _, Γ, S, e, h, z => .bad fun ρ H => rfl
  | .tuple _, Γ, S, e, h, z => .bad fun ρ H => rfl
  | .dict, Γ, S, e, h, z => by cases h
  | .comp1 _ _ _, Γ, S, e, h, z => .bad fun ρ H => rfl
  | .comp2 _ _, Γ, S, e, h, z => .bad fun ρ H => rfl
  | .append _ _, Γ, S, e, h, z => .bad fun ρ H => rfl
  | .count _ _, Γ, S, e, h, z => .bad fun ρ H => rfl
  | .index _ _, Γ, S, e, h, z => .bad fun ρ H => rfl
theorem andD (b : Nat) : ∀ (es : PEs) (Γ : List Str) (S : Scope) (vs : List Expr), chkEs T Γ S es vs = true → ∀ z, BoOk (C.withZ z) T n b Γ S .And vs (denAnd strF cf C.sc b es)
  | .nil, Γ, S, vs, h, z => ⟨fun _ _ _ _ ed _ => bad_ok ed⟩
  | .cons x .nil, Γ, S, vs, h, z => by
    obtain ⟨e, r, rfl, h1, h2, h3⟩ := chkEs_cons h
    cases chkEs_nil h3
    exact .one (evD b x Γ S _ h2 z) fun ρ H => rfl
  | .cons x (.cons y es), Γ, S, vs, h, z => by
    obtain ⟨e, r, rfl, h1, h2, h3⟩ := chkEs_cons h
    obtain ⟨e', r', q, _⟩ := chkEs_cons h3
    rw [q] at h3 ⊢
    exact .andE (evD b x Γ S _ h2 z) (andD b (.cons y es) Γ S _ h3 z) fun ρ H => rfl
theorem orD (b : Nat) : ∀ (es : PEs) (Γ : List Str) (S : Scope) (vs : List Expr), chkEs T Γ S es vs = true → ∀ z, BoOk (C.withZ z) T n b Γ S .Or vs (denOr strF cf C.sc b es)
  | .nil, Γ, S, vs, h, z => ⟨fun _ _ _ _ ed _ => bad_ok ed⟩
  | .cons x .nil, Γ, S, vs, h, z => by
    obtain ⟨e, r, rfl, h1, h2, h3⟩ := chkEs_cons h
    cases chkEs_nil h3
    exact .one (evD b x Γ S _ h2 z) fun ρ H => rfl
  | .cons x (.cons y es), Γ, S, vs, h, z => by
    obtain ⟨e, r, rfl, h1, h2, h3⟩ := chkEs_cons h
    obtain ⟨e', r', q, _⟩ := chkEs_cons h3
    rw [q] at h3 ⊢
    exact .orE (evD b x Γ S _ h2 z) (orD b (.cons y es) Γ S _ h3 z) fun ρ H => rfl
theorem andT (b : Nat) : ∀ (es : PEs) (Γ : List Str) (S : Scope) (vs : List Expr), chkEs T Γ S es vs = true → ∀ z, AtOk (C.withZ z) T n b Γ S .And vs (denAndT strF cf C.sc b es)
  | .nil, Γ, S, vs, h, z => by cases chkEs_nil h; exact .nilA fun ρ H => rfl
  | .cons x es, Γ, S, vs, h, z => by
    obtain ⟨e, r, rfl, h1, h2, h3⟩ := chkEs_cons h
    exact .andE (trD b x Γ S _ h2 z) (andT b es Γ S _ h3 z) fun ρ H => rfl
theorem orT (b : Nat) : ∀ (es : PEs) (Γ : List Str) (S : Scope) (vs : List Expr), chkEs T Γ S es vs = true → ∀ z, AtOk (C.withZ z) T n b Γ S .Or vs (denOrT strF cf C.sc b es)
  | .nil, Γ, S, vs, h, z => by cases chkEs_nil h; exact .nilO fun ρ H => rfl
  | .cons x es, Γ, S, vs, h, z => by
    obtain ⟨e, r, rfl, h1, h2, h3⟩ := chkEs_cons h
    exact .orE (trD b x Γ S _ h2 z) (orT b es Γ S _ h3 z) fun ρ H => rfl
theorem esD (b : Nat) : ∀ (es : PEs) (Γ : List Str) (S : Scope) (vs : List Expr), chkEs T Γ S es vs = true → ∀ z, EsOk (C.withZ z) T n b Γ S vs (denEs strF cf C.sc b es)
  | .nil, Γ, S, vs, h, z => by cases chkEs_nil h; exact .nilE fun ρ H => rfl
  | .cons x es, Γ, S, vs, h, z => by
    obtain ⟨e, r, rfl, h1, h2, h3⟩ := chkEs_cons h
    exact .consE h1 (evD b x Γ S _ h2 z) (esD b es Γ S _ h3 z) fun ρ H => rfl
theorem optD (b : Nat) : ∀ (o : PEo) (Γ : List Str) (S : Scope) (v : Option Expr), chkO T Γ S o v = true → ∀ z, PtOk (C.withZ z) T n b Γ S v (denO strF cf C.sc b o)
  | .none, Γ, S, v, h, z => by
    cases Option.isNone_iff_eq_none.mp h
    exact .no fun ρ H => rfl
  | .some x, Γ, S, v, h, z => by
    obtain ⟨e, rfl, h⟩ := opt_eq h
    exact .yes (evD b x Γ S _ h z) fun ρ H => rfl
theorem coD (b : Nat) : ∀ (o : PEo) (Γ : List Str) (S : Scope) (vs : List Expr), chkC T Γ S o vs = true → ∀ z, CoOk (C.withZ z) T n b Γ S vs (denC strF cf C.sc b o)
  | .none, Γ, S, v, h, z => by
    cases nilO_eq h
    exact .nil fun ρ H => rfl
  | .some x, Γ, S, v, h, z => by
    obtain ⟨e, he, h⟩ := opt_eq h
    rw [one1_eq he]
    exact .one (trD b x Γ S _ h z)
theorem itD (b : Nat) (hq : T.q = false) : ∀ (it : It) (Γ : List Str) (S : Scope) (e : Expr), chkI T Γ S it e = true → ∀ z, ItOk (C.withZ z) T n b Γ S (notZip it) e (denI strF cf C.sc b it)
  | .of x, Γ, S, e, h, z => .of hq (evD b x Γ S _ h z) fun ρ H => rfl
  | .range1 x, Γ, S, e, h, z => by
    have h : dCallN e (fun f args => opt (one1 args) fun x' => f == ("range" : Str) && (isGlob S f && (notStar x' && chkE T Γ S x x'))) = true := h
    obtain ⟨f, np, args, pos, rfl, hk⟩ := dCallN_eq h
    clear h
    have h := hk
    obtain ⟨a, ha, h⟩ := opt_eq h
    obtain ⟨h1, h⟩ := and_tt h
    obtain ⟨h2, h⟩ := and_tt h
    obtain ⟨h3, h4⟩ := and_tt h
    rw [one1_eq ha]
    exact .range1 hq (by rw [eq_tt h1]; rfl) h2 h3 (evD b x Γ S _ h4 z) fun ρ H => rfl
  | .range2 x y, Γ, S, e, h, z => by cases h
  | .zip x y, Γ, S, e, h, z => by
    have h : dCallN e (fun f args => opt (two2 args) fun x' => f == ("zip" : Str) && (isGlob S f && (notStar x'.1 && (notStar x'.2 && (chkE T Γ S x x'.1 && chkE T Γ S y x'.2))))) = true := h
    obtain ⟨f, np, args, pos, rfl, hk⟩ := dCallN_eq h
    clear h
    have h := hk
    obtain ⟨a, ha, h⟩ := opt_eq h
    obtain ⟨h1, h⟩ := and_tt h
    obtain ⟨h2, h⟩ := and_tt h
    obtain ⟨h3, h⟩ := and_tt h
    obtain ⟨h4, h⟩ := and_tt h
    obtain ⟨h5, h6⟩ := and_tt h
    rw [two2_eq ha]
    exact .zip hq (by rw [eq_tt h1]; rfl) h2 h3 h4 (evD b x Γ S _ h5 z) (evD b y Γ S _ h6 z) fun ρ H => rfl
end
end
end Mine

namespace Mine
open PySem PySem.Calls PyProof.Rows PySem.SeqAt

section
variable {C : Cx} {T : Tab} {n : Nat} {cf : Nat → List AV → AHeap → Res AV} {strF : SrtF}
variable (hok : T.q = false → ∀ k, T.okc k = true) (hcf : ∀ z, CallOk (C.withZ z) T n cf) (hfn : (∀ k, ∃ x, T.fns.lookup k = some x ∨ ∀ vs H, cf k vs H = .bad) ∧ SrtOk strF)
include hok hcf hfn

theorem assignD (b : Nat) {i : Nat} {e : PE} {x : Str} {px pos : Pos} {v : Expr} {Γ : List Str} {S : Scope} (h1 : slot Γ x = some i) (h2 : isStoreK S x = true) (h3 : (isCompP e || notComp v) = true)
    (h4 : chkE T Γ S e v = true) (z : Addr → Prop) : SOk (C.withZ z) T n b Γ S (.Assign [.Name x px] v pos) (denS strF cf C.sc b (.assign i e)) := by
  by_cases hc : isCompP e = true
  · cases e with
    | comp1 el it c =>
      have hq := not_tt (and_tt h4).1
      obtain ⟨g1, g2, g3, g4, g5, g6⟩ := chk_comp1 h4
      exact .assignC1 (C := C.withZ z) (d1 := denE strF cf C.sc b (.comp1 el it c)) h1 h2 (scopeOk_ok g1) g3 (by have := itD (strF := strF) hok hcf hfn b hq it Γ S _ g4 z; rwa [g2] at this) (fun z' => coD hok hcf hfn b c _ _ _ g5 z') (fun z' => evD hok hcf hfn b el _ _ _ g6 z')
        (fun ρ H => rfl) fun ρ H => rfl
    | comp2 el it =>
      have hq := not_tt (and_tt h4).1
      obtain ⟨g1, g2, g3, g4, g6⟩ := chk_comp2 h4
      exact .assignC2 hq (C := C.withZ z) (d1 := denE strF cf C.sc b (.comp2 el it)) h1 h2 (scopeOk_ok g1) g2 g3 (itD (strF := strF) hok hcf hfn b hq it Γ S _ g4 z) (fun z' => evD hok hcf hfn b el _ _ _ g6 z')
        (fun ρ H => rfl) fun ρ H => rfl
    | _ => cases hc
  · rw [Bool.not_eq_true] at hc
    rw [hc] at h3
    exact .assignN h1 h2 h3 (evD (strF := strF) hok hcf hfn b _ Γ S _ h4 z) fun ρ H => rfl

/-- what raises -/
theorem xD (b : Nat) : ∀ (pe : PE) (Γ : List Str) (S : Scope) (e : Expr), chkE T Γ S pe e = true → raisy pe = true → ∀ z, XOk (C.withZ z) T n b Γ S e (denE strF cf C.sc b pe) := by
  intro pe Γ S e h hr z
  cases pe with
  | call k es =>
    have ho := (and_tt h).1
    obtain ⟨f, np, e', r, pos, rfl, h1, h2, h4⟩ := chk_call h
    exact .userCall (hcf z) ho h1 h2 (chkEs_stars es _ h4) (esD hok hcf hfn b es Γ S _ h4 z) fun ρ H => rfl
  | _ => cases hr

/-- a handler's head -/
theorem chkH_ok {Γ : List Str} {S : Scope} {c : Nat} {i : Option Nat} {hd : ExceptHandler} (h : chkH T Γ S c i hd = true) : HdR T Γ S c i (bodyH hd) hd := by
  obtain ⟨t, ht, h⟩ := opt_eq h
  obtain ⟨x, hx, h⟩ := opt_eq h
  obtain ⟨h1, h⟩ := and_tt h
  obtain ⟨h2, h⟩ := and_tt h
  obtain ⟨h3, h4⟩ := and_tt h
  have e := dH_eq hd
  rw [ht, dName_eq hx] at e
  cases eb : bodyH hd with
  | nil => rw [eb] at h3; cases h3
  | cons b₀ ss =>
    cases i with
    | none => cases h4
    | some j =>
      obtain ⟨nm, hn, h4⟩ := opt_eq h4
      obtain ⟨h5, h6⟩ := and_tt h4
      rw [hn, eb] at e
      exact .as _ nm _ _ b₀ ss j (eq_tt h1) h2 rfl (eq_tt h5) (eq_tt h6) rfl e

variable (hqq : T.q = false → ∀ b ps Γ S ss, chkSs T.quiet Γ S ps ss = true → ∀ z, SsOk (C.withZ z) T.quiet n b Γ S ss (denSs strF cf C.sc b ps))
include hqq

mutual
theorem stD (b : Nat) : ∀ (ps : PS) (Γ : List Str) (S : Scope) (st : Stmt), chkS T Γ S ps st = true → ∀ z, SOk (C.withZ z) T n b Γ S st (denS strF cf C.sc b ps)
  | .assign i e, Γ, S, st, h, z => by
    obtain ⟨x, hx, h⟩ := opt_eq h
    obtain ⟨t, ht, h⟩ := opt_eq h
    obtain ⟨v, hv, h⟩ := opt_eq h
    obtain ⟨h1, h⟩ := and_tt h
    obtain ⟨h2, h⟩ := and_tt h
    obtain ⟨h3, h4⟩ := and_tt h
    rw [dAsg_eq hx, one1_eq ht, dName_eq hv]
    exact assignD hok hcf hfn b (eq_tt h1) h2 h3 h4 z
  | .assigns is e, Γ, S, st, h, z => by
    obtain ⟨hq, h⟩ := and_tt h
    have hq := not_tt hq
    obtain ⟨x, hx, h⟩ := opt_eq h
    obtain ⟨t, ht, h⟩ := opt_eq h
    obtain ⟨ts, hts, h⟩ := opt_eq h
    obtain ⟨h1, h⟩ := and_tt h
    obtain ⟨h2, h⟩ := and_tt h
    obtain ⟨h3, h4⟩ := and_tt h
    rw [dAsg_eq hx, one1_eq ht, dTup_eq hts]
    exact .assignT hq h2 h1 (evD hok hcf hfn b e Γ S _ h4 z) fun ρ H => rfl
  | .ite c t e, Γ, S, st, h, z => by
    obtain ⟨x, hx, h⟩ := opt_eq h
    obtain ⟨h1, h⟩ := and_tt h
    obtain ⟨h2, h3⟩ := and_tt h
    rw [dIf_eq hx]
    exact .ite (trD hok hcf hfn b c Γ S _ h1 z) (ssD b t Γ S _ h2 z) (ssD b e Γ S _ h3 z) fun ρ H => rfl
  | .for1 i it body, Γ, S, st, h, z => by
    obtain ⟨hq, h⟩ := and_tt h
    have hq := not_tt hq
    obtain ⟨x, hx, h⟩ := opt_eq h
    obtain ⟨v, hv, h⟩ := opt_eq h
    obtain ⟨h0, h⟩ := and_tt h
    obtain ⟨h1, h⟩ := and_tt h
    obtain ⟨h2, h⟩ := and_tt h
    obtain ⟨h3, h⟩ := and_tt h
    obtain ⟨h4, h⟩ := and_tt h
    obtain ⟨h5, h6⟩ := and_tt h
    rw [dFor_eq hx, dName_eq hv, nilO_eq h0]
    exact .for1 (eq_tt h1) h2 h4 (by have := itD (strF := strF) hok hcf hfn b hq it Γ S _ h5 z; rwa [h3] at this) (fun z' => ssD b body Γ S _ h6 z') fun ρ H => rfl
  | .for2 i j it body, Γ, S, st, h, z => by
    obtain ⟨hq, h⟩ := and_tt h
    have hq := not_tt hq
    obtain ⟨x, hx, h⟩ := opt_eq h
    obtain ⟨ts, hts, h⟩ := opt_eq h
    obtain ⟨t, ht, h⟩ := opt_eq h
    obtain ⟨v, hv, h⟩ := opt_eq h
    obtain ⟨w, hw, h⟩ := opt_eq h
    obtain ⟨h0, h⟩ := and_tt h
    obtain ⟨h1, h⟩ := and_tt h
    obtain ⟨h2, h⟩ := and_tt h
    obtain ⟨h3, h⟩ := and_tt h
    obtain ⟨h4, h⟩ := and_tt h
    obtain ⟨h5, h⟩ := and_tt h
    obtain ⟨h6, h7⟩ := and_tt h
    rw [dFor_eq hx, dTup_eq hts, two2_eq ht, dName_eq hv, dName_eq hw, nilO_eq h0]
    exact .for2 hq (eq_tt h1) h2 (eq_tt h3) h4 h5 (itD (strF := strF) hok hcf hfn b hq it Γ S _ h6 z) (fun z' => ssD b body Γ S _ h7 z') fun ρ H => rfl
  | .whl c body, Γ, S, st, h, z => by
    obtain ⟨x, hx, h⟩ := opt_eq h
    obtain ⟨h0, h⟩ := and_tt h
    obtain ⟨h1, h2⟩ := and_tt h
    rw [dWh_eq hx, nilO_eq h0]
    exact .whl (trD hok hcf hfn b c Γ S _ h1 z) (ssD b body Γ S _ h2 z) fun ρ H => rfl
  | .ret e, Γ, S, st, h, z => by
    obtain ⟨x, hx, h⟩ := opt_eq h
    obtain ⟨v, hv, h⟩ := opt_eq h
    rw [dRet_eq hx, hv]
    exact .ret (evD hok hcf hfn b e Γ S _ h z) (fun hr => xD hok hcf hfn b e Γ S _ h hr z) fun ρ H => rfl
  | .expr e, Γ, S, st, h, z => by
    obtain ⟨x, hx, h⟩ := opt_eq h
    obtain ⟨h1, h2⟩ := and_tt h
    rw [dEx_eq hx]
    exact .expr h1 (evD hok hcf hfn b e Γ S _ h2 z) (fun hr => xD hok hcf hfn b e Γ S _ h2 hr z) fun ρ H => rfl
  | .raise c m, Γ, S, st, h, z => by
    obtain ⟨hq, h⟩ := and_tt h
    have hq := not_tt hq
    obtain ⟨x, hx, h⟩ := opt_eq h
    obtain ⟨h0, h⟩ := and_tt h
    obtain ⟨v, hv, h⟩ := opt_eq h
    obtain ⟨f, np, args, pos, hvv, hk⟩ := dCallN_eq h
    clear h
    have h := hk
    obtain ⟨y, hy, h⟩ := opt_eq h
    obtain ⟨w, hw, h⟩ := opt_eq h
    obtain ⟨u, hu, h⟩ := opt_eq h
    obtain ⟨h1, h⟩ := and_tt h
    obtain ⟨h2, h3⟩ := and_tt h
    rw [dRaise_eq hx, Option.isNone_iff_eq_none.mp h0, hv, hvv, one1_eq hy, dConst_eq hw, cStr_eq hu]
    exact .raise hq (eq_tt h1) h2 fun ρ H => rfl
  | .tryRet e c i hh, Γ, S, st, h, z => by
    obtain ⟨hq, h⟩ := and_tt h
    have hq := not_tt hq
    obtain ⟨x, hx, h⟩ := opt_eq h
    obtain ⟨h0, h⟩ := and_tt h
    obtain ⟨h0', h⟩ := and_tt h
    obtain ⟨st1, hst, h⟩ := opt_eq h
    obtain ⟨o, ho, h⟩ := opt_eq h
    obtain ⟨v, hv, h⟩ := opt_eq h
    obtain ⟨hd, hhd, h⟩ := opt_eq h
    obtain ⟨h1, h⟩ := and_tt h
    obtain ⟨h2, h3⟩ := and_tt h
    rw [dTry_eq hx, nilO_eq h0, nilO_eq h0', one1_eq hst, one1_eq hhd, dRet_eq ho, hv]
    exact .tryRet (chkH_ok hok hcf hfn h2) (evD hok hcf hfn b e Γ S _ h1 z) (fun hr => xD hok hcf hfn b e Γ S _ h1 hr z) (hqq hq b hh Γ S _ h3 z) fun ρ H => rfl
theorem ssD (b : Nat) : ∀ (ps : PSs) (Γ : List Str) (S : Scope) (ss : List Stmt), chkSs T Γ S ps ss = true → ∀ z, SsOk (C.withZ z) T n b Γ S ss (denSs strF cf C.sc b ps)
  | .nil, Γ, S, ss, h, z => by cases nilO_eq h; exact .nilS fun ρ H => rfl
  | .any, Γ, S, ss, h, z => .badS fun ρ H => rfl
  | .cons s ss, Γ, S, [], h, z => by cases h
  | .cons s ss, Γ, S, st :: r, h, z => by
    obtain ⟨h1, h2⟩ := and_tt h
    exact .consS (stD b s Γ S _ h1 z) (ssD b ss Γ S _ h2 z) fun ρ H => rfl
end
end

section
variable {C : Cx} {T : Tab} {strF : SrtF}
theorem bods_of (hsf : SrtOk strF) (hok : T.q = false → ∀ k, T.okc k = true) (hd : ∀ k f, T.defs.lookup k = some f → ∃ x, T.fns.lookup k = some x)
    (hqq : T.q = false → ∀ n b ps Γ S ss, chkSs T.quiet Γ S ps ss = true → ∀ z, SsOk (C.withZ z) T.quiet n b Γ S ss (denSs strF (callF strF (fun k => T.defs.lookup k) C.sc n) C.sc b ps)) :
    ∀ n, (∀ z, CallOk (C.withZ z) T n (callF strF (fun k => T.defs.lookup k) C.sc n)) ∧ ∀ z, Bods (C.withZ z) T n strF (callF strF (fun k => T.defs.lookup k) C.sc n) := by
  have hfn : ∀ n k, ∃ x, T.fns.lookup k = some x ∨ ∀ vs H, callF strF (fun k => T.defs.lookup k) C.sc n k vs H = .bad := by
    intro n k
    cases e : T.defs.lookup k with
    | none =>
      refine ⟨"", .inr fun vs H => ?_⟩
      cases n with
      | zero => rfl
      | succ n => unfold callF; simp only [e]
    | some f => obtain ⟨x, hx⟩ := hd k f e; exact ⟨x, .inl hx⟩
  intro n
  induction n with
  | zero =>
    have h : ∀ z, CallOk (C.withZ z) T 0 (callF strF (fun k => T.defs.lookup k) C.sc 0) := fun z => CallOk.zero (C := C.withZ z)
    exact ⟨h, fun z => ⟨fun b {ps Γ S body} hb => ssD hok h ⟨hfn 0, hsf⟩ (fun q => hqq q 0) b _ _ _ _ hb z⟩⟩
  | succ n ih =>
    have h : ∀ z, CallOk (C.withZ z) T (n + 1) (callF strF (fun k => T.defs.lookup k) C.sc (n + 1)) := fun z => CallOk.step (C := C.withZ z) (ih.2 z)
    exact ⟨h, fun z => ⟨fun b {ps Γ S body} hb => ssD hok h ⟨hfn (n + 1), hsf⟩ (fun q => hqq q (n + 1)) b _ _ _ _ hb z⟩⟩
theorem bods (hsf : SrtOk strF) (hok : T.q = false → ∀ k, T.okc k = true) (hd : ∀ k f, T.defs.lookup k = some f → ∃ x, T.fns.lookup k = some x) :
    ∀ n, (∀ z, CallOk (C.withZ z) T n (callF strF (fun k => T.defs.lookup k) C.sc n)) ∧ ∀ z, Bods (C.withZ z) T n strF (callF strF (fun k => T.defs.lookup k) C.sc n) :=
  bods_of hsf hok hd fun _ n b ps Γ S ss h z => ((bods_of (T := T.quiet) (C := C) (strF := strF) hsf (fun q => by cases q) hd (fun q => by cases q) n).2 z).any b h
end
end Mine

namespace Mine
open PySem PySem.W PySem.Calls PyProof.Rows PySem.SeqAt

/-! A row's ground, by a look at its text. -/
noncomputable def gintOk (p : Program) (x : Str) (i : Int) : Bool := match valOf p x with
  | some (.int j) => i == j
  | _ => false
noncomputable def freeOk (p : Program) (loose : List Str) (x : Str) : Bool := !(startupNames.contains x) && (!(loose.contains x) && (!(((recsOf p).map (·.name)).contains x) && (!(((litsOf p).map (·.1)).contains x) && !(((clssOf p loose).map (·.name)).contains x))))
noncomputable def defOk (p : Program) (T : Tab) (q : Nat × FnI) : Bool := match T.fns.lookup q.1 with
  | some x => (recsOf p).any fun d => d.name == x && chkFn T q.2 d.params d.body d.scope
  | none => false
noncomputable def rowOk (p : Program) (loose : List Str) (T : Tab) : Bool :=
  T.fns.all (fun q => (recsOf p).any fun d => d.name == q.2) && (T.defs.all (defOk p T) && (T.gints.all (fun q => gintOk p q.2.1 q.2.2) && ((T.defs.all fun q => !T.qs.contains q.1 || defOk p T.quiet q) && biVals.all fun q => freeOk p loose q.1)))

theorem lookup_mem {α : Type} : ∀ {l : List (Nat × α)} {n : Nat} {c : α}, l.lookup n = some c → (n, c) ∈ l
  | (k, v) :: r, n, c, h => by
    rw [List.lookup_cons] at h
    cases hb : n == k with
    | true => rw [hb] at h; cases h; rw [beq_iff_eq.mp hb]; exact List.mem_cons_self
    | false => rw [hb] at h; exact List.mem_cons_of_mem _ (lookup_mem h)

theorem bi_boot : ∀ p ∈ biVals, bootBuiltins p.1 = some p.2 ∧ p.1 ≠ "__name__" := by
  intro p hp
  simp only [biVals, List.mem_cons, List.not_mem_nil, or_false] at hp
  rcases hp with rfl | rfl | rfl | rfl | rfl | rfl | rfl | rfl | rfl | rfl | rfl | rfl | rfl | rfl | rfl | rfl <;> exact ⟨by rfl, by decide⟩

noncomputable def cxOf (prog : Program) (w : World) (sa : Addr) (sc : List Int) (T : Tab) (os : OsState) (mg mb : Str → Option Value) : Cx :=
  { prog, w, sa, sc, os, mg, mb, z := fun _ => False, fa := fun k => (match T.fns.lookup k with | some x => (match mg x with | some (.ref a) => a | _ => 0) | none => 0), ea := fun k => (match T.excs.lookup k with | some x => (mg x).getD .none | none => .none), eo := fun k => ∃ x, T.excs.lookup k = some x }

theorem not_in {x : Str} {l : List Str} (h : (!(l.contains x)) = true) : x ∉ l := fun m => by
  have := List.contains_iff_mem.mpr m
  rw [not_tt h] at this; cases this

theorem gnd_of {prog : Program} {w : World} {sa : Addr} {sc : List Int} {T : Tab} {os : OsState} {mean : ExcName → Option Value} {mg mb : Str → Option Value} {h : Heap} {p : Program} {loose : List Str} {svs : List Value} (TR : Top p loose mean mg mb h) (hK : rowOk p loose T = true)
    (hL : h.IsList sa svs.toArray) (hI : IntsAre svs sc) (hlen : sc.length ≤ lim) (hTq : T.q = false) (hok : ∀ k, T.okc k = true) (exg : ExcG (cxOf prog w sa sc T os mg mb) T h) : Gnd (cxOf prog w sa sc T os mg mb) T ⟨h, h, [], false, fun _ _ e => e⟩ := by
  obtain ⟨h1, hK⟩ := and_tt hK
  obtain ⟨h2, hK⟩ := and_tt hK
  obtain ⟨h3, hK⟩ := and_tt hK
  obtain ⟨h4, h5⟩ := and_tt hK
  have hrec : ∀ {d : DefRec}, d ∈ recsOf p → ∀ {k : Nat}, T.fns.lookup k = some d.name → ∃ o pm code doc, mg d.name = some (.ref ((cxOf prog w sa sc T os mg mb).fa k)) ∧ h.get? ((cxOf prog w sa sc T os mg mb).fa k) = some o ∧ o.data = .func (docDef d.name d.params d.body d.scope pm code doc) ∧ h.CodeRec code d.name := by
    intro d hd k e
    obtain ⟨a, o, pm, code, doc, q1, q2, q3, q4⟩ := TR.fn d hd
    have : (cxOf prog w sa sc T os mg mb).fa k = a := by simp only [cxOf, e, q1]
    rw [this]
    exact ⟨o, pm, code, doc, q1, q2, q3, q4⟩
  have hdef : ∀ {T' : Tab} {k : Nat} {f : FnI}, defOk p T' (k, f) = true → T'.fns = T.fns → DefR T' h ((cxOf prog w sa sc T os mg mb).fa k) f := by
    intro T' k f q ef
    unfold defOk at q
    rw [ef] at q
    cases ex : T.fns.lookup k with
    | none => simp only [ex] at q; cases q
    | some x =>
      simp only [ex] at q
      obtain ⟨d, hd, q⟩ := List.any_eq_true.mp q
      obtain ⟨e1, e2⟩ := and_tt q
      cases eq_tt e1
      obtain ⟨o, pm, code, doc, q1, q2, q3, q4⟩ := hrec hd ex
      exact ⟨o, _, d.body, q2, q3, rfl, rfl, rfl, rfl, rfl, q4, e2⟩
  refine ⟨hTq.symm, fun _ => hok, ⟨⟨svs, hL, hI, hlen⟩⟩, TR.g, TR.b, ?_, ?_, ?_, exg, TR.nolimit, ?_, ?_⟩
  · intro x v e
    have hm := mem_of_lookup e
    obtain ⟨b1, b2⟩ := bi_boot _ hm
    refine ⟨?_, (TR.builtins x b2).trans b1⟩
    have q := List.all_eq_true.mp h5 _ hm
    obtain ⟨q1, q⟩ := and_tt q
    obtain ⟨q2, q⟩ := and_tt q
    obtain ⟨q3, q⟩ := and_tt q
    obtain ⟨q4, q5⟩ := and_tt q
    exact TR.free x (not_in q1) (not_in q2) (not_in q3) (not_in q4) (not_in q5)
  · intro k x e
    obtain ⟨d, hd, q⟩ := List.any_eq_true.mp (List.all_eq_true.mp h1 _ (lookup_mem e))
    cases eq_tt q
    obtain ⟨o, pm, code, doc, q1, q2, q3, q4⟩ := hrec hd e
    exact ⟨q1, o, _, q2, q3⟩
  · intro k x i e
    have q := List.all_eq_true.mp h3 _ (lookup_mem e)
    unfold gintOk at q
    split at q
    · rename_i j ej
      obtain ⟨v, q1, q2⟩ := TR.const x _ ej
      have := q2 h
      cases this
      have e' : i = j := eq_tt q
      rw [e']
      exact ⟨_, q1⟩
    · cases q
  · intro k f e _
    exact hdef (List.all_eq_true.mp h2 _ (lookup_mem e)) rfl
  · intro k f e hq
    have q := List.all_eq_true.mp h4 _ (lookup_mem e)
    simp only [hq, Bool.not_true, Bool.false_or] at q
    exact hdef (T' := T.quiet) q rfl

theorem defs_fns {p : Program} {loose : List Str} {T : Tab} (hK : rowOk p loose T = true) : ∀ k f, T.defs.lookup k = some f → ∃ x, T.fns.lookup k = some x := by
  obtain ⟨_, hK⟩ := and_tt hK
  obtain ⟨h2, _⟩ := and_tt hK
  intro k f e
  have q := List.all_eq_true.mp h2 _ (lookup_mem e)
  unfold defOk at q
  cases ex : T.fns.lookup k with
  | none => simp only [ex] at q; cases q
  | some x => exact ⟨x, rfl⟩

/-- the law's call ends well -/
theorem law_ends {prog : Program} {w : World} {sa fa : Addr} {sc : List Int} {T : Tab} {mean' : ExcName → Option Value} {mg mb : Str → Option Value} {s : Shared} {p : Program} {loose : List Str} {svs : List Value} {strF : SrtF} {N klaw : Nat} {x : Str} {H' : AHeap} {A : Around}
    {c : ClaimW} {cl : Str → Option Addr} {mean : ExcName → Option Value} {args : List WData}
    (hsf : SrtOk strF) (TR : Top p loose mean' mg mb s.heap) (hK : rowOk p loose T = true) (hL : s.heap.IsList sa svs.toArray) (hI : IntsAre svs sc) (hlen : sc.length ≤ 63) (hg : s.gens = #[]) (hTq : T.q = false) (hok : ∀ k, T.okc k = true) (exg : ExcG (cxOf prog w sa sc T s.os mg mb) T s.heap) (a : AOk ⟨s.heap, s.heap, [], false, fun _ _ e => e⟩ A (N + 1)) (hx : T.fns.lookup klaw = some x) (hmg : mg x = some (.ref fa))
    (ev : callF strF (fun k => T.defs.lookup k) sc (N + 1) klaw [.scr] [] = .ok (.bool true) H') (hn : ∀ cls, c.raises args cls = false) (hp : c.post args (.bool true) args = true) :
    wpAny (model prog w) A (call (.ref fa) [.ref sa] []) (fun v s' => GoodW c cl mean args s (.ok (.ret v)) s') (fun e s' => GoodW c cl mean args s (.error e) s') s := by
  have G := gnd_of (prog := prog) (w := w) (os := s.os) TR hK hL hI (Nat.le_trans hlen (by decide)) hTq hok exg
  have hfa : fa = (cxOf prog w sa sc T s.os mg mb).fa klaw := by
    have := (G.fn hx).1
    have hmg' : (cxOf prog w sa sc T s.os mg mb).mg x = some (.ref fa) := hmg
    rw [hmg'] at this
    cases this; rfl
  rw [hfa]
  have B := (bods (C := cxOf prog w sa sc T s.os mg mb) (T := T) (strF := strF) hsf (fun _ => hok) (defs_fns hK) N).2 (fun _ => False)
  refine call_pre (C := cxOf prog w sa sc T s.os mg mb) (base := ⟨s.heap, s.heap, [], false, fun _ _ e => e⟩) (μ := []) (H := []) B (hok _) rfl G ⟨rfl, .nil, fun e => by simp at e, fun e => by simp at e⟩ hg rfl (fun z => z.elim) trivial a (.cons .scr .nil) ?_
  rw [show callF strF (fun k => T.defs.lookup k) (cxOf prog w sa sc T s.os mg mb).sc (N + 1) klaw [.scr] [] = .ok (.bool true) H' from ev]
  intro u s' μ' R V
  cases V
  refine ⟨.inl ⟨.bool true, _, [], rfl, hn, .bool true, hp, fun _ => ⟨.nil, by simp⟩⟩, fun b o e => ?_, R.os, R.gens⟩
  cases R.kp b o e with
  | same e' => exact e'
  | slot hz _ _ _ => rw [e] at hz; cases hz

end Mine

namespace Mine
open PySem PySem.W PySem.Calls PyProof.Rows PySem.SeqAt

/-! A look at the classes of the exceptions, when the row's text has run. -/
noncomputable def clsQ (h : Heap) (name : Str) : Bool := match h.clsAt mainGlobals name with
  | some (_, _, cd) => (h.nsMap cd.ns "__class__").isNone
  | none => false
noncomputable def chainOf (l : List (Nat × Str)) (k : Nat) : List Str := if k = 0 then [] else (match l.lookup 0 with | some x => [x] | none => [])
noncomputable def smTest (h : Heap) : Bool := (h.get? sysModules).isSome
theorem smF_of {h : Heap} (e : smTest h = true) : SmF h := let ⟨o, ho⟩ := Option.isSome_iff_exists.mp e; ⟨o, ho⟩
noncomputable def excTest (l : List (Nat × Str)) (h : Heap) : Bool :=
  ((l.lookup 0).isSome && (h.isNs mainGlobals && smTest h)) && (l.all (fun p => h.ownExcOk p.2 (chainOf l p.1) [.type "ValueError", .type "Exception", .type "BaseException", .type "object"] "ValueError.__new__" && (h.quietOk p.2 && clsQ h p.2)) &&
    l.all fun p => l.all fun q => p.1 == q.1 || !(h.nsMap mainGlobals p.2 == h.nsMap mainGlobals q.2))
noncomputable def eaOf (l : List (Nat × Str)) (m : Str → Option Value) (k : Nat) : Value := match l.lookup k with | some x => (m x).getD .none | none => .none
structure ExcSays (l : List (Nat × Str)) (m : Str → Option Value) (h : Heap) : Prop where
  cls : ∀ {k : Nat} {x : Str}, l.lookup k = some x → ∃ Ck tl, m x = some (.ref Ck) ∧ ExcC h Ck tl ∧ TailC h tl ∧ tl = (if k = 0 then bmVE else eaOf l m 0 :: bmVE)
  inj : ∀ {k j : Nat} {x y : Str}, l.lookup k = some x → l.lookup j = some y → m x = m y → k = j
  sm : SmF h
theorem excC_of {h : Heap} {name : Str} {chain : List Str} (x : h.ownExcOk name chain bmVE "ValueError.__new__" = true) (y : h.quietOk name = true) (z : clsQ h name = true) :
    ∃ C, h.nsMap mainGlobals name = some (.ref C) ∧ ExcC h C ((chain.map fun n => (h.nsMap mainGlobals n).getD .none) ++ bmVE) := by
  obtain ⟨C, N, nm, q, bs, hdct, sn, sub, ab, col, dd, k0, k1, k2, k3, k5, hb, hC, hN, hq⟩ := Heap.ownExcQ_of_ok x y
  refine ⟨C, hb, N, nm, q, bs, hdct, sn, sub, ab, col, dd, k0, k1, k2, k3, k5, _, hC, hN, hq, ?_⟩
  unfold clsQ at z
  cases hf : h.clsAt mainGlobals name with
  | none => rw [hf] at z; cases z
  | some w =>
    obtain ⟨C', o', cd'⟩ := w
    rw [hf] at z
    obtain ⟨hn', ho', hd'⟩ := Heap.clsAt_spec hf
    rw [hb] at hn'
    obtain rfl : C = C' := by injection hn' with q1; injection q1
    rw [hC] at ho'
    obtain rfl := Option.some.inj ho'
    obtain rfl : _ = cd' := by injection hd'
    exact Option.isNone_iff_eq_none.mp z
theorem excSays_of {l : List (Nat × Str)} {h : Heap} (e : excTest l h = true) : ∃ m, h.Ns mainGlobals m ∧ ExcSays l m h := by
  obtain ⟨e1, e⟩ := and_tt e
  obtain ⟨e0, e1⟩ := and_tt e1
  obtain ⟨e1, es⟩ := and_tt e1
  obtain ⟨x0, e0⟩ := Option.isSome_iff_exists.mp e0
  obtain ⟨e2, e3⟩ := and_tt e
  refine ⟨h.nsMap mainGlobals, .of_isNs e1, ?_⟩
  have one : ∀ {k : Nat} {x : Str}, l.lookup k = some x → ∃ C, h.nsMap mainGlobals x = some (.ref C) ∧ ExcC h C (((chainOf l k).map fun n => (h.nsMap mainGlobals n).getD .none) ++ bmVE) := fun {k x} q => by
    obtain ⟨q1, q2⟩ := and_tt (List.all_eq_true.mp e2 _ (lookup_mem q))
    obtain ⟨q2, q3⟩ := and_tt q2
    exact excC_of q1 q2 q3
  refine ⟨fun {k x} q => ?_, fun {k j x y} q r s => ?_, smF_of es⟩
  · obtain ⟨C, em, X⟩ := one q
    refine ⟨C, _, em, X, ?_, ?_⟩
    · by_cases hk : k = 0
      · unfold chainOf; rw [if_pos hk]; exact .base
      · unfold chainOf
        rw [if_neg hk, e0]
        obtain ⟨C0, em0, X0⟩ := one e0
        unfold chainOf at X0
        rw [if_pos rfl] at X0
        refine .own X0 ?_
        show [(h.nsMap mainGlobals x0).getD .none] ++ bmVE = _
        rw [em0]; rfl
    · unfold chainOf eaOf
      by_cases hk : k = 0
      · rw [if_pos hk, if_pos hk]; rfl
      · rw [if_neg hk, if_neg hk, e0]; rfl
  · have q1 := List.all_eq_true.mp (List.all_eq_true.mp e3 _ (lookup_mem q)) _ (lookup_mem r)
    rcases Bool.or_eq_true_iff.mp q1 with q2 | q2
    · exact eq_tt q2
    · have := not_tt q2
      rw [show (h.nsMap mainGlobals (k, x).2 == h.nsMap mainGlobals (j, y).2) = true from beq_iff_eq.mpr s] at this
      cases this

theorem ExcSays.keeps {l : List (Nat × Str)} {m : Str → Option Value} {h h' : Heap} (x : ExcSays l m h) (k : ∀ b o, h.get? b = some o → h'.get? b = some o) : ExcSays l m h' :=
  ⟨fun q => let ⟨C, tl, e1, e2, e3, e4⟩ := x.cls q; ⟨C, tl, e1, e2.keeps k, e3.keeps k, e4⟩, x.inj, let ⟨o, h1⟩ := x.sm; ⟨o, k _ _ h1⟩⟩
noncomputable def excHook (l : List (Nat × Str)) : Hook :=
  ⟨Bool, fun s => excTest l s.heap, fun _ => true, fun _ h => ∃ m, h.Ns mainGlobals m ∧ ExcSays l m h, fun _ _ e => excSays_of e, fun _ _ _ x k => let ⟨m, n, y⟩ := x; ⟨m, n.keeps k, y.keeps k⟩⟩

theorem exg_of {prog : Program} {w w' : World} {sa : Addr} {sc : List Int} {T : Tab} {os : OsState} {mg mb : Str → Option Value} {h : Heap} (g : h.Ns mainGlobals mg) (Y : (excHook T.excs).says w' h) (h0 : ∃ y, T.excs.lookup 0 = some y) : ExcG (cxOf prog w sa sc T os mg mb) T h := by
  obtain ⟨m, n, y⟩ := Y
  cases ns_one n g
  have ea : ∀ {k : Nat} {x : Str} {Ck : Addr}, T.excs.lookup k = some x → mg x = some (.ref Ck) → (cxOf prog w sa sc T os mg mb).ea k = .ref Ck := fun {k x Ck} e1 e2 => by
    show (match T.excs.lookup k with | some x => (mg x).getD .none | none => .none) = _
    rw [e1]; show (mg x).getD .none = _; rw [e2]; rfl
  refine ⟨fun {k x} e => ?_, fun {k j x z} e1 e2 e3 => ?_, fun _ => h0, Iff.rfl, y.sm⟩
  · obtain ⟨C, tl, e1, e2, e3, e4⟩ := y.cls e
    exact ⟨C, tl, e1, ea e e1, e2, e3, e4⟩
  · obtain ⟨C, _, q1, _⟩ := y.cls e1
    obtain ⟨C', _, q2, _⟩ := y.cls e2
    rw [ea e1 q1, ea e2 q2] at e3
    exact y.inj e1 e2 (by rw [q1, q2, e3])
end Mine

namespace Mine
open PySem
noncomputable def tab : Tab := { fns := [(0, Str.ofString "is_among"), (1, Str.ofString "need_net"), (2, Str.ofString "labels_of"), (25, Str.ofString "is_hanging_of"), (34, Str.ofString "exchanged"), (35, Str.ofString "exchanges"), (5, Str.ofString "_law_cell_at"), (6, Str.ofString "_law_mixed"), (7, Str.ofString "_law_tree"), (8, Str.ofString "_law_net"), (9, Str.ofString "_law_whole"), (10, Str.ofString "_law_reached"), (54, Str.ofString "_law_is_hanging"), (62, Str.ofString "_law_names"), (55, Str.ofString "_law_grown"), (75, Str.ofString "_law_told"), (76, Str.ofString "_law_steps"), (56, Str.ofString "_law_truths"), (77, Str.ofString "law")], excs := [(0, Str.ofString "NetError"), (1, Str.ofString "BadNet"), (2, Str.ofString "BadTie"), (3, Str.ofString "SelfTie"), (4, Str.ofString "BadHanging"), (5, Str.ofString "BadNumber"), (6, Str.ofString "TooMany")], gints := [(0, Str.ofString "MOST_PLACES", 7), (1, Str.ofString "MOST_TIES", 16)], defs := [(0, fn_0), (1, fn_1), (2, fn_2), (5, fn_5), (6, fn_6), (7, fn_7), (8, fn_8), (9, fn_9), (10, fn_10), (25, fn_25), (34, fn_34), (35, fn_35), (54, fn_54), (55, fn_55), (56, fn_56), (62, fn_62), (75, fn_75), (76, fn_76), (77, fn_77)], qs := [62] }
noncomputable abbrev P (k : Nat) : Option FnI := tab.defs.lookup k

end Mine
noncomputable def Mine.vw : PySem.Program := PySem.W.view PySem.Challenge.pw_uf040038_13 [1, 2, 3, 4, 5, 6, 7, 9, 10, 11, 12, 13, 15, 17, 18, 20, 21, 22, 23, 24, 25, 26, 27, 28, 29, 30, 31, 32]

open PySem PySem.W PyProof.Rows
set_option maxHeartbeats 8000000
theorem Mine.said0 : PySem.Challenge.rw_uf040038_13.wellSaid = true := by kernel_rfl
theorem Mine.left0 : LeftO PySem.Challenge.pw_uf040038_13 Mine.vw [] (fun s => xlAt Mine.vw [] s && recOk (RowW.records (OpenRow.toRowW PySem.Challenge.rw_uf040038_13.row)) s) (Hook.obs (Mine.excHook [(0, Str.ofString "NetError"), (1, Str.ofString "BadNet"), (2, Str.ofString "BadTie"), (3, Str.ofString "SelfTie"), (4, Str.ofString "BadHanging"), (5, Str.ofString "BadNumber"), (6, Str.ofString "TooMany")])) (Hook.val (Mine.excHook [(0, Str.ofString "NetError"), (1, Str.ofString "BadNet"), (2, Str.ofString "BadTie"), (3, Str.ofString "SelfTie"), (4, Str.ofString "BadHanging"), (5, Str.ofString "BadNumber"), (6, Str.ofString "TooMany")])) 6000 := by
  intro w; kernel_rfl
theorem Mine.row0 : Mine.rowOk Mine.vw [] Mine.tab = true := by kernel_rfl
set_option maxHeartbeats 8000000 in
theorem PySem.Challenge.cw_uf040038_13_holds : PySem.Challenge.rw_uf040038_13.Holds := by
  w_on
  refine holds_law Mine.said0 fun said => ?_
  refine holds_open (q := Mine.vw) (loose := []) (Xt := fun s => xlAt Mine.vw [] s && recOk (RowW.records (OpenRow.toRowW PySem.Challenge.rw_uf040038_13.row)) s) (XP := XL Mine.vw []) (Yf := Hook.obs (Mine.excHook [(0, Str.ofString "NetError"), (1, Str.ofString "BadNet"), (2, Str.ofString "BadTie"), (3, Str.ofString "SelfTie"), (4, Str.ofString "BadHanging"), (5, Str.ofString "BadNumber"), (6, Str.ofString "TooMany")])) (Ya := Hook.val (Mine.excHook [(0, Str.ofString "NetError"), (1, Str.ofString "BadNet"), (2, Str.ofString "BadTie"), (3, Str.ofString "SelfTie"), (4, Str.ofString "BadHanging"), (5, Str.ofString "BadNumber"), (6, Str.ofString "TooMany")])) (YP := Hook.says (Mine.excHook [(0, Str.ofString "NetError"), (1, Str.ofString "BadNet"), (2, Str.ofString "BadTie"), (3, Str.ofString "SelfTie"), (4, Str.ofString "BadHanging"), (5, Str.ofString "BadNumber"), (6, Str.ofString "TooMany")])) (N := 6000) Mine.left0 (Hook.of (Mine.excHook [(0, Str.ofString "NetError"), (1, Str.ofString "BadNet"), (2, Str.ofString "BadTie"), (3, Str.ofString "SelfTie"), (4, Str.ofString "BadHanging"), (5, Str.ofString "BadNumber"), (6, Str.ofString "TooMany")])) (Hook.keeps (Mine.excHook [(0, Str.ofString "NetError"), (1, Str.ofString "BadNet"), (2, Str.ofString "BadTie"), (3, Str.ofString "SelfTie"), (4, Str.ofString "BadHanging"), (5, Str.ofString "BadNumber"), (6, Str.ofString "TooMany")])) (fun s e => xl_of s (Bool.and_eq_true_iff.mp e).1) XL.keeps (by rfl) (by rfl) (by rfl) (fun s e => recFacts_of (Bool.and_eq_true_iff.mp e).2) (by rfl) said (by decide +kernel) ⟨rfl, rfl, rfl, rfl, rfl, by decide +kernel⟩ ?hw ?hc
  case hw => w_witness2
  intro w s₀ s₁ mg mb G Y fa o pm cd doc dV kV ho hd hcd hD hmg hg args vals as hpre hlay hrd hwl hlo
  have TR := G.T
  wrow_args hpre hlay hrd hwl hlo
  rename_i sc hs hlay0 hL1 hr1 hl2 a4 a3 sa svs a0 hL ra w1 r0 hI hr hc hc2
  obtain ⟨v, H', ev, hv⟩ := Mine.Res.sat_ex (Mine.law13 (strF := Mine.srtF) (sc := sc) (P := Mine.P) (m := 36) Mine.srtF_shuf ⟨rfl, rfl, rfl, rfl, rfl, rfl, rfl, rfl, rfl, rfl, rfl, rfl, rfl, rfl, rfl, rfl, rfl, rfl, rfl⟩)
  subst hv
  exact wpAny_mono (Mine.law_ends (fun _ _ e => e) (T := Mine.tab) (x := Str.ofString "law") TR Mine.row0 hL hI (by (first | lia | omega)) hg rfl (fun _ => rfl) (Mine.exg_of (T := Mine.tab) TR.g Y ⟨_, rfl⟩) ⟨by decide, by decide, fun _ => rfl, rfl, rfl⟩ rfl hmg ev (fun _ => rfl) (by kernel_rfl)) (fun v s' g => GoodW.toG g) (fun e s' g => GoodW.toG g)










